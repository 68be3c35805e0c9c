import PyProof.Rows.All
import Wide.All
import OpenK.AllK
import Wide.FinOn
import HandS.ForMost
import HandS.ForExc
import HandS.HeadHook1
import HandS.IsInst
import HandS.SetFor
import HandS.TupAny
import HandS.SortInts
import HandS.Flow
import HandS.Style
import HandS.Remove
import HandS.Deep
import HandS.Defaults
import HandS.CallSlots
import HandS.TryMany
import HandS.Comp
import HandS.FStr
import HandS.TupMul
import HandS.RaiseMore
import HandS.Zip
import KE.KStateDown
import HandS.Head0
import HandS.Head1
import HandS.Head2
import HandS.HeadEnd
import HandS.HeadHook2
import HandS.Text
import HandS.Codes
import HandS.ExcInit
import HandS.ExcIs
import HandS.ExcField
import HandS.TryOnly
import HandS.Property
import HandS.ClsMeth
import PyProof.RulesMatch
import PyProof.StrOps2
import HandS.Iter
import KE.GoesMore
import KE.IntTextLaws
import HandS.Star
import HandS.MethStar
import HandS.ExcValue
import KE.KUnpackStar
import HandS.Strs
import HandS.SortOrd
import KE.DataMinMax
import PyProof.Claim2Refuses
import HandS.Finally
import KE.KCallOwn
import HandS.HeadHook3
import PySem.Challenge.RW_basketrope_k45_whole_hoists_read
set_option Elab.async false
set_option linter.all false
set_option maxRecDepth 100000
set_option maxHeartbeats 4000000
/-! The D-layer: values as data (tuples, lists that nobody changes), a store of what changes; readings over these. -/
namespace Dl
open PySem PySem.Spec PyProof.Rows L2

/-- a value as data -/
inductive D where
  | non | bl (b : Bool) | int (i : Int) | str (x : Str) | ty (n : String)
  /-- an object of the store -/
  | ref (a : Addr)
  /-- a module's name: a def, a class -/
  | glo (x : Str)
  | tup (ds : List D)
  /-- a list that nobody changes -/
  | lst (ds : List D)
  /-- a dict of plain values that nobody changes -/
  | dct (kvs : List (Key × V))
  /-- the script -/
  | scr (ns : List Int)
  /-- a caught exception: its object, class, dict, fields -/
  | exn (a : Addr) (C : Str) (dd : Option Addr) (ks : List Str) (ds : List D)

/-- an object of the store -/
inductive OB where
  | lst (ds : List D)
  | ins (C : Str) (ks : List Str) (ds : List D)
  /-- the law's draws: which kind (false: deck; true: state), and how many at most there were -/
  | draw (v : Bool) (n : Nat)
  | part (owner : Addr)
  /-- an instance with three lists of its own (a hoist): its fields are these lists (the third behind w), w, and more -/
  | hst (C : Str) (ks : List Str) (l0 l1 l2 : List D) (w : D) (more : List D)

abbrev Sto := Addr → Option OB
def put (S : Sto) (a : Addr) (o : OB) : Sto := fun b => if b = a then some o else S b
theorem put_same {S : Sto} {a : Addr} {o : OB} : put S a o a = some o := if_pos rfl
theorem put_ne {S : Sto} {a b : Addr} {o : OB} (h : b ≠ a) : put S a o b = S b := if_neg h

/-- a list of the written part -/
def KL (K : PySem.W.Frag) (a : Addr) (ns : List Int) : Prop := ∃ (o : Obj) (its : Array Value) (n : Nat), K.lookup a = some o ∧ o.cls = .type "list" ∧ o.dict = none ∧ o.data = .seq its n ∧ its.size ≤ sizeLine ∧ Vals (ns.map V.int) its.toList
mutual
/-- the value v is the data d -/
def rv (K : PySem.W.Frag) (H : Hp) (S : Sto) : D → V → Prop
  | .non, v => v = .non
  | .bl b, v => v = .bl b
  | .int i, v => v = .int i
  | .str x, v => v = .str x
  | .ty n, v => v = .ty n
  | .ref a, v => v = .ref a
  | .glo x, v => v = .ref (He.ga K x)
  | .tup ds, v => ∃ a vs, v = .ref a ∧ H a = some (.tup vs) ∧ rvs K H S ds vs
  | .lst ds, v => ∃ a vs, v = .ref a ∧ H a = some (.lst vs) ∧ S a = none ∧ rvs K H S ds vs
  | .dct kvs, v => ∃ a, v = .ref a ∧ H a = some (.dK kvs) ∧ S a = none
  | .scr ns, v => ∃ (a : Addr), v = .ref a ∧ ((∃ o : Obj, H a = some (.frz o (.lst (ns.map V.int)))) ∨ KL K a ns)
  | .exn a C dd ks ds, v => v = .ref a ∧ ((dd = none ∧ ks = [] ∧ ds = []) ∨ ∃ b vs, dd = some b ∧ H b = some (.xd (ks.zip vs)) ∧ ks.length = vs.length ∧ rvs K H S ds vs)
def rvs (K : PySem.W.Frag) (H : Hp) (S : Sto) : List D → List V → Prop
  | [], vs => vs = []
  | d :: ds, vs => ∃ v r, vs = v :: r ∧ rv K H S d v ∧ rvs K H S ds r
end

def ro (K : PySem.W.Frag) (H : Hp) (S : Sto) (a : Addr) : OB → Prop
  | .lst ds => ∃ vs, H a = some (.lst vs) ∧ rvs K H S ds vs
  | .ins C ks ds => ∃ dx vs, H a = some (.ins (He.ga K C) dx (ks.zip vs)) ∧ ks.length = vs.length ∧ rvs K H S ds vs
  | .draw false m => ∃ (c : Addr) (cells : List Int) (n : Int), H a = some (.lst [.ref c, .int n]) ∧ S c = some (.part a) ∧ H c = some (.lst (cells.map V.int)) ∧ 0 ≤ n ∧ n ≤ (m : Int) ∧ (∀ z ∈ cells, 0 ≤ z) ∧ cells.length ≤ 63
  | .draw true m => ∃ (c r : Addr) (cells rests : List Int) (n : Int), H a = some (.lst [.ref c, .int n, .ref r]) ∧ S c = some (.part a) ∧ S r = some (.part a) ∧ c ≠ r ∧ H c = some (.lst (cells.map V.int)) ∧ H r = some (.lst (rests.map V.int)) ∧ 0 ≤ n ∧ n ≤ (m : Int) ∧ (∀ z ∈ cells, 0 ≤ z) ∧ (∀ z ∈ rests, 0 ≤ z) ∧ rests.length = cells.length ∧ cells.length ≤ 63 ∧ cells ≠ []
  | .part _ => ∃ vs, H a = some (.lst vs)
  | .hst C ks l0 l1 l2 w more => ∃ (dx s t e : Addr) (v0 v1 v2 : List V) (vw : V) (vm : List V), H a = some (.ins (He.ga K C) dx (ks.zip (.ref s :: .ref t :: vw :: .ref e :: vm))) ∧ ks.length = 4 + vm.length ∧
    (S s = some (.part a) ∧ S t = some (.part a) ∧ S e = some (.part a)) ∧ (s ≠ t ∧ s ≠ e ∧ t ≠ e) ∧ (H s = some (.lst v0) ∧ H t = some (.lst v1) ∧ H e = some (.lst v2)) ∧ (rvs K H S l0 v0 ∧ rvs K H S l1 v1 ∧ rvs K H S l2 v2) ∧ rv K H S w vw ∧ rvs K H S more vm
/-- the heap bears the store -/
def RS (K : PySem.W.Frag) (H : Hp) (S : Sto) : Prop := ∀ a o, S a = some o → ro K H S a o

/-- what never changes -/
def froz : HO → Prop
  | .lst _ => True
  | .tup _ => True
  | .dK _ => True
  | .xd _ => True
  | .frz _ _ => True
  | _ => False
/-- behind: what is frozen stands, and is frozen still -/
def Ext (H : Hp) (S : Sto) (H' : Hp) (S' : Sto) : Prop := ∀ a o, H a = some o → S a = none → froz o → H' a = some o ∧ S' a = none
theorem Ext.refl (H : Hp) (S : Sto) : Ext H S H S := fun _ _ h n _ => ⟨h, n⟩
theorem Ext.trans {H H1 H2 : Hp} {S S1 S2 : Sto} (a : Ext H S H1 S1) (b : Ext H1 S1 H2 S2) : Ext H S H2 S2 := fun x o h n f =>
  let ⟨h1, n1⟩ := a x o h n f
  b x o h1 n1 f
theorem RS.some_of {K : PySem.W.Frag} {H : Hp} {S : Sto} (R : RS K H S) {a : Addr} {o : OB} (h : S a = some o) : ∃ u, H a = some u ∧ Mut (some u) := by
  have q := R a o h
  cases o with
  | lst ds => obtain ⟨vs, e, _⟩ := q; exact ⟨_, e, trivial⟩
  | ins C ks ds => obtain ⟨dx, vs, e, _⟩ := q; exact ⟨_, e, trivial⟩
  | draw v m => cases v with
    | false => obtain ⟨_, _, _, e, _⟩ := q; exact ⟨_, e, trivial⟩
    | true => obtain ⟨_, _, _, _, _, e, _⟩ := q; exact ⟨_, e, trivial⟩
  | part o => obtain ⟨vs, e⟩ := q; exact ⟨_, e, trivial⟩
  | hst C ks l0 l1 l2 w more => obtain ⟨dx, s, t, e, v0, v1, v2, vw, vm, h, _⟩ := q; exact ⟨_, h, trivial⟩
theorem RS.none_of {K : PySem.W.Frag} {H : Hp} {S : Sto} (R : RS K H S) {a : Addr} (h : H a = none) : S a = none := by
  cases e : S a with
  | none => rfl
  | some o =>
    obtain ⟨u, hu, _⟩ := R.some_of e
    rw [h] at hu; cases hu
theorem RS.tup {K : PySem.W.Frag} {H : Hp} {S : Sto} (R : RS K H S) {a : Addr} {u : HO} (h : H a = some u) (m : ¬ Mut (some u)) : S a = none := by
  cases e : S a with
  | none => rfl
  | some o =>
    obtain ⟨u', hu, mu⟩ := R.some_of e
    rw [h] at hu; cases hu; exact absurd mu m

section
variable {K : PySem.W.Frag} {H H' : Hp} {S S' : Sto}
mutual
theorem Ext.rv (R : RS K H S) (x : Ext H S H' S') : ∀ (d : D) (v : V), rv K H S d v → rv K H' S' d v
  | .non, _, h => h
  | .bl _, _, h => h
  | .int _, _, h => h
  | .str _, _, h => h
  | .ty _, _, h => h
  | .ref _, _, h => h
  | .glo _, _, h => h
  | .tup ds, _, h => by
    obtain ⟨a, vs, e, r, q⟩ := h
    exact ⟨a, vs, e, (x a _ r (R.tup r fun z => z) trivial).1, Ext.rvs R x ds vs q⟩
  | .lst ds, _, h => by
    obtain ⟨a, vs, e, r, n, q⟩ := h
    obtain ⟨r', n'⟩ := x a _ r n trivial
    exact ⟨a, vs, e, r', n', Ext.rvs R x ds vs q⟩
  | .dct kvs, _, h => by
    obtain ⟨a, e, r, n⟩ := h
    obtain ⟨r', n'⟩ := x a _ r n trivial
    exact ⟨a, e, r', n'⟩
  | .scr ns, _, h => by
    obtain ⟨a, e, r⟩ := h
    rcases r with ⟨o, r⟩ | r
    · exact ⟨a, e, .inl ⟨o, (x a _ r (R.tup r fun z => z) trivial).1⟩⟩
    · exact ⟨a, e, .inr r⟩
  | .exn a C dd ks ds, _, h => by
    obtain ⟨e, h⟩ := h
    refine ⟨e, ?_⟩
    rcases h with h | ⟨b, vs, e1, e2, e3, q⟩
    · exact .inl h
    · exact .inr ⟨b, vs, e1, (x b _ e2 (R.tup e2 (fun z => z)) trivial).1, e3, Ext.rvs R x ds vs q⟩
theorem Ext.rvs (R : RS K H S) (x : Ext H S H' S') : ∀ (ds : List D) (vs : List V), rvs K H S ds vs → rvs K H' S' ds vs
  | [], _, h => h
  | d :: ds, _, h => by
    obtain ⟨v, r, e, h1, h2⟩ := h
    exact ⟨v, r, e, Ext.rv R x d v h1, Ext.rvs R x ds r h2⟩
end
end

/-! ### the names' values -/
abbrev DEnv := List (Option D)
def re (K : PySem.W.Frag) (H : Hp) (S : Sto) : DEnv → L2.St → Prop
  | [], σ => σ = []
  | o :: ρ, σ => ∃ w r, σ = w :: r ∧ (∀ d, o = some d → ∃ v, w = some v ∧ rv K H S d v) ∧ re K H S ρ r
section
variable {K : PySem.W.Frag} {H H' : Hp} {S S' : Sto}
theorem Ext.re (R : RS K H S) (x : Ext H S H' S') : ∀ {ρ : DEnv} {σ : L2.St}, re K H S ρ σ → re K H' S' ρ σ
  | [], _, h => h
  | o :: ρ, _, h => by
    obtain ⟨w, r, e, h1, h2⟩ := h
    exact ⟨w, r, e, fun d e => let ⟨v, e1, e2⟩ := h1 d e; ⟨v, e1, x.rv R d v e2⟩, Ext.re R x h2⟩
theorem re.get : ∀ {ρ : DEnv} {σ : L2.St} {i : Nat} {d : D}, re K H S ρ σ → ρ[i]? = some (some d) → ∃ v, σ[i]? = some (some v) ∧ rv K H S d v
  | [], _, _, _, _, e => by simp at e
  | o :: ρ, _, 0, d, h, e => by
    obtain ⟨w, r, rfl, h1, _⟩ := h
    obtain ⟨v, e1, e2⟩ := h1 d (by simpa using e)
    exact ⟨v, by simp [e1], e2⟩
  | o :: ρ, _, i + 1, d, h, e => by
    obtain ⟨w, r, rfl, _, h2⟩ := h
    obtain ⟨v, e1, e2⟩ := re.get (i := i) h2 (by simpa using e)
    exact ⟨v, by simpa using e1, e2⟩
theorem re.set {d : D} {v : V} (hd : rv K H S d v) : ∀ {ρ : DEnv} {σ : L2.St} (i : Nat), re K H S ρ σ → re K H S (ρ.set i (some d)) (σ.set i (some v))
  | [], _, _, h => by cases h; rfl
  | o :: ρ, _, 0, h => by
    obtain ⟨w, r, rfl, h1, h2⟩ := h
    exact ⟨_, _, rfl, fun d' e => by cases e; exact ⟨v, rfl, hd⟩, h2⟩
  | o :: ρ, _, i + 1, h => by
    obtain ⟨w, r, rfl, h1, h2⟩ := h
    exact ⟨_, _, rfl, h1, re.set hd i h2⟩
theorem re.unset : ∀ {ρ : DEnv} {σ : L2.St} (i : Nat) (w : Option V), re K H S ρ σ → re K H S (ρ.set i none) (σ.set i w)
  | [], _, _, _, h => by cases h; rfl
  | o :: ρ, _, 0, _, h => by
    obtain ⟨w, r, rfl, h1, h2⟩ := h
    exact ⟨_, _, rfl, (fun d' e => nomatch e), h2⟩
  | o :: ρ, _, i + 1, w', h => by
    obtain ⟨w, r, rfl, h1, h2⟩ := h
    exact ⟨_, _, rfl, h1, re.unset i w' h2⟩
theorem re.len : ∀ {ρ : DEnv} {σ : L2.St}, re K H S ρ σ → ρ.length = σ.length
  | [], _, h => by cases h; rfl
  | o :: ρ, _, h => by
    obtain ⟨w, r, rfl, h1, h2⟩ := h
    simp [re.len h2]
theorem rvs.len : ∀ {ds : List D} {vs : List V}, rvs K H S ds vs → ds.length = vs.length
  | [], _, h => by cases h; rfl
  | d :: ds, _, h => by
    obtain ⟨v, r, rfl, h1, h2⟩ := h
    simp [rvs.len h2]
theorem rvs.get : ∀ {ds : List D} {vs : List V} {i : Nat} {d : D}, rvs K H S ds vs → ds[i]? = some d → ∃ v, vs[i]? = some v ∧ rv K H S d v
  | [], _, _, _, _, e => by simp at e
  | d :: ds, _, 0, d', h, e => by
    obtain ⟨v, r, rfl, h1, h2⟩ := h
    have e' : d = d' := by simpa using e
    subst e'
    exact ⟨v, rfl, h1⟩
  | d :: ds, _, i + 1, d', h, e => by
    obtain ⟨v, r, rfl, h1, h2⟩ := h
    obtain ⟨w, e1, e2⟩ := rvs.get (i := i) h2 (by simpa using e)
    exact ⟨w, by simpa using e1, e2⟩
theorem rvs.back : ∀ {ds : List D} {vs : List V} {i : Nat} {v : V}, rvs K H S ds vs → vs[i]? = some v → ∃ d, ds[i]? = some d ∧ rv K H S d v
  | [], _, _, _, h, e => by cases h; simp at e
  | d :: ds, _, 0, w, h, e => by
    obtain ⟨v, r, rfl, h1, h2⟩ := h
    have e' : v = w := by simpa using e
    subst e'
    exact ⟨d, rfl, h1⟩
  | d :: ds, _, i + 1, v', h, e => by
    obtain ⟨v, r, rfl, h1, h2⟩ := h
    obtain ⟨w, e1, e2⟩ := rvs.back (i := i) h2 (by simpa using e)
    exact ⟨w, by simpa using e1, e2⟩
theorem rvs.append : ∀ {ds es : List D} {vs ws : List V}, rvs K H S ds vs → rvs K H S es ws → rvs K H S (ds ++ es) (vs ++ ws)
  | [], _, _, _, h, h' => by cases h; exact h'
  | d :: ds, _, _, _, h, h' => by
    obtain ⟨v, r, rfl, h1, h2⟩ := h
    exact ⟨v, _, rfl, h1, rvs.append h2 h'⟩
theorem rvs.take : ∀ {ds : List D} {vs : List V} (n : Nat), rvs K H S ds vs → rvs K H S (ds.take n) (vs.take n)
  | _, _, 0, _ => by simp [rvs]
  | [], _, n + 1, h => by cases h; rfl
  | d :: ds, _, n + 1, h => by
    obtain ⟨v, r, rfl, h1, h2⟩ := h
    exact ⟨v, _, rfl, h1, rvs.take n h2⟩
theorem rvs.drop : ∀ {ds : List D} {vs : List V} (n : Nat), rvs K H S ds vs → rvs K H S (ds.drop n) (vs.drop n)
  | _, _, 0, h => h
  | [], _, n + 1, h => by cases h; rfl
  | d :: ds, _, n + 1, h => by
    obtain ⟨v, r, rfl, h1, h2⟩ := h
    exact rvs.drop n h2
theorem rvs.set {d : D} {v : V} (hd : rv K H S d v) : ∀ {ds : List D} {vs : List V} (i : Nat), rvs K H S ds vs → rvs K H S (ds.set i d) (vs.set i v)
  | [], _, _, h => by cases h; rfl
  | o :: ρ, _, 0, h => by
    obtain ⟨w, r, rfl, h1, h2⟩ := h
    exact ⟨_, _, rfl, hd, h2⟩
  | o :: ρ, _, i + 1, h => by
    obtain ⟨w, r, rfl, h1, h2⟩ := h
    exact ⟨_, _, rfl, h1, rvs.set hd i h2⟩
theorem rvs.ints : ∀ {ns : List Int} {vs : List V}, rvs K H S (ns.map D.int) vs → vs = ns.map V.int
  | [], _, h => by cases h; rfl
  | n :: ns, _, h => by
    obtain ⟨v, r, rfl, h1, h2⟩ := h
    have e : v = V.int n := h1
    rw [e, rvs.ints h2]; rfl
theorem rvs.of_ints : ∀ {ns : List Int}, rvs K H S (ns.map D.int) (ns.map V.int)
  | [] => rfl
  | n :: ns => ⟨_, _, rfl, rfl, rvs.of_ints⟩
end

/-! ### exceptions -/
/-- an exception: its class (a name of the module), its fields -/
structure Exn where
  C : Str
  ks : List Str := []
  ds : List D := []
def rx (K : PySem.W.Frag) (H : Hp) (S : Sto) (x : Exn) (cls : Value) (d : Option Addr) : Prop :=
  cls = .ref (He.ga K x.C) ∧ ((d = none ∧ x.ks = [] ∧ x.ds = []) ∨ ∃ b vs, d = some b ∧ H b = some (.xd (x.ks.zip vs)) ∧ x.ks.length = vs.length ∧ rvs K H S x.ds vs)

/-! ### readings -/
abbrev QD := D → Sto → Prop
abbrev XD := Exn → Sto → Prop
abbrev TED := DEnv → Sto → QD → XD → Prop
abbrev TAD := DEnv → Sto → (List D → Sto → Prop) → XD → Prop
abbrev TTD := DEnv → Sto → (Bool → Sto → Prop) → XD → Prop
structure DEnds where
  nx : DEnv → Sto → Prop
  rt : QD
  bk : DEnv → Sto → Prop
  ct : DEnv → Sto → Prop
  xc : Exn → DEnv → Sto → Prop
abbrev TSD := DEnds → DEnv → Sto → Prop

section
variable (K : PySem.W.Frag)
/-- behind an expression -/
def bE (H : Hp) (S : Sto) (R : QD) (Q : VK) : Prop := ∀ d S', R d S' → ∀ H' v, Ext H S H' S' → RS K H' S' → rv K H' S' d v → Q v H'
def bA (H : Hp) (S : Sto) (R : List D → Sto → Prop) (Q : List V → Hp → Prop) : Prop := ∀ ds S', R ds S' → ∀ H' vs, Ext H S H' S' → RS K H' S' → rvs K H' S' ds vs → Q vs H'
def bT (H : Hp) (S : Sto) (R : Bool → Sto → Prop) (Q : Bool → Hp → Prop) : Prop := ∀ b S', R b S' → ∀ H', Ext H S H' S' → RS K H' S' → Q b H'
def bX (W : WX) (σ : L2.St) (H : Hp) (S : Sto) (E : XD) : Prop := ∀ x S', E x S' → ∀ H' cls d, Ext H S H' S' → RS K H' S' → rx K H' S' x cls d → W cls d σ H'
def upE (W : WX) (t : TED) : TE := fun σ H Q => ∃ ρ S R E, RS K H S ∧ re K H S ρ σ ∧ t ρ S R E ∧ bE K H S R Q ∧ bX K W σ H S E
def upA (W : WX) (t : TAD) : TA := fun σ H Q => ∃ ρ S R E, RS K H S ∧ re K H S ρ σ ∧ t ρ S R E ∧ bA K H S R Q ∧ bX K W σ H S E
def upT (W : WX) (t : TTD) : TT := fun σ H Q => ∃ ρ S R E, RS K H S ∧ re K H S ρ σ ∧ t ρ S R E ∧ bT K H S R Q ∧ bX K W σ H S E
def upS (W : WX) (t : TSD) : TS := fun D σ H => ∃ ρ S R, RS K H S ∧ re K H S ρ σ ∧ t R ρ S ∧
  (∀ ρ' S', R.nx ρ' S' → ∀ σ' H', Ext H S H' S' → RS K H' S' → re K H' S' ρ' σ' → D.nx σ' H') ∧
  bE K H S R.rt D.rt ∧
  (∀ ρ' S', R.bk ρ' S' → ∀ σ' H', Ext H S H' S' → RS K H' S' → re K H' S' ρ' σ' → D.bk σ' H') ∧
  (∀ ρ' S', R.ct ρ' S' → ∀ σ' H', Ext H S H' S' → RS K H' S' → re K H' S' ρ' σ' → D.ct σ' H') ∧
  (∀ x ρ' S', R.xc x ρ' S' → ∀ σ' H' cls d, Ext H S H' S' → RS K H' S' → re K H' S' ρ' σ' → rx K H' S' x cls d → W cls d σ' H')
end
section
variable {K : PySem.W.Frag} {H H1 H' : Hp} {S S1 S' : Sto} {W : WX} {σ : L2.St}
theorem bE.ext {R : QD} {Q : VK} (b : bE K H S R Q) (x : Ext H S H1 S1) : bE K H1 S1 R Q := fun d S' r H' v e => b d S' r H' v (x.trans e)
theorem bA.ext {R : List D → Sto → Prop} {Q : List V → Hp → Prop} (b : bA K H S R Q) (x : Ext H S H1 S1) : bA K H1 S1 R Q := fun d S' r H' v e => b d S' r H' v (x.trans e)
theorem bT.ext {R : Bool → Sto → Prop} {Q : Bool → Hp → Prop} (b : bT K H S R Q) (x : Ext H S H1 S1) : bT K H1 S1 R Q := fun d S' r H' e => b d S' r H' (x.trans e)
theorem bX.ext {E : XD} (b : bX K W σ H S E) (x : Ext H S H1 S1) : bX K W σ H1 S1 E := fun d S' r H' c v e => b d S' r H' c v (x.trans e)
end
theorem PE_imp {X : Cx} {e : Expr} {t t' : TE} (p : PE X e t) (h : ∀ σ H Q, t' σ H Q → t σ H Q) : PE X e t' := ⟨fun pins s σ H Q I q => p.run pins s σ H Q I (h σ H Q q)⟩
theorem PT_imp {X : Cx} {e : Expr} {t t' : TT} (p : PT X e t) (h : ∀ σ H Q, t' σ H Q → t σ H Q) : PT X e t' := ⟨fun pins s σ H Q I q => p.run pins s σ H Q I (h σ H Q q)⟩
theorem PA_imp {X : Cx} {e : List Expr} {t t' : TA} (p : PA X e t) (h : ∀ σ H Q, t' σ H Q → t σ H Q) : PA X e t' := ⟨fun pos pins s σ H Q I q => p.run pos pins s σ H Q I (h σ H Q q)⟩
theorem PS_imp {X : Cx} {e : Stmt} {t t' : TS} (p : PS X e t) (h : ∀ D σ H, t' D σ H → t D σ H) : PS X e t' := ⟨fun pins s σ H D I q => p.run pins s σ H D I (h D σ H q)⟩
theorem PSs_imp {X : Cx} {e : List Stmt} {t t' : TS} (p : PSs X e t) (h : ∀ D σ H, t' D σ H → t D σ H) : PSs X e t' := ⟨fun pins s σ H D I q => p.run pins s σ H D I (h D σ H q)⟩
theorem OpR_imp {X : Cx} {f : Value → Value → Sem Value} {r r' : R2} (p : OpR X f r) (h : ∀ x y H Q, r' x y H Q → r x y H Q) : OpR X f r' := fun pins s σ H x y v u Q I rx ry q => p pins s σ H x y v u Q I rx ry (h x y H Q q)
theorem CallR_imp {X : Cx} {f : Value} {r r' : List V → Hp → VK → Prop} (p : CallR X f r) (h : ∀ x H Q, r' x H Q → r x H Q) : CallR X f r' := fun pins s σ H x v Q I rx q => p pins s σ H x v Q I rx (h x H Q q)
theorem MtR_imp {X : Cx} {id : String} {r r' : V → List V → Hp → VK → Prop} (p : MtR X id r) (h : ∀ x xs H Q, r' x xs H Q → r x xs H Q) : MtR X id r' := fun pins s σ H x xs v us Q I rx ry q => p pins s σ H x xs v us Q I rx ry (h x xs H Q q)
end Dl
namespace Dl
open PySem PySem.Spec PyProof.Rows L2

abbrev PED (X : Cx) (W : WX) (e : Expr) (t : TED) : Prop := PE X e (upE X.K W t)
abbrev PAD (X : Cx) (W : WX) (es : List Expr) (t : TAD) : Prop := PA X es (upA X.K W t)
abbrev PTD (X : Cx) (W : WX) (e : Expr) (t : TTD) : Prop := PT X e (upT X.K W t)
abbrev PSD (X : Cx) (W : WX) (st : Stmt) (t : TSD) : Prop := PS X st (upS X.K W t)
abbrev PSsD (X : Cx) (W : WX) (st : List Stmt) (t : TSD) : Prop := PSs X st (upS X.K W t)

section
variable {X : Cx} {W : WX} {a b c e : Expr} {es rest : List Expr} {pos : Pos} {ta tb tc te : TED} {tas : TAD} {tt tu : TTD}

/-! ### names, constants -/
def dVar (i : Nat) : TED := fun ρ S R _ => ∃ d, ρ[i]? = some (some d) ∧ R d S
def dC (d : D) : TED := fun _ S R _ => R d S
theorem ped_var {i : Nat} {x : Str} (hN : X.N[i]? = some x) (hv : Vis X.env.scope x) (hd : (x == ("__debug__" : Str)) = false := by decide) (hcd : (x == ("__classdict__" : Str)) = false := by decide) : PED X W (.Name x pos) (dVar i) := by
  refine PE_imp (pe_var hN hv hd hcd) fun σ H Q h => ?_
  obtain ⟨ρ, S, R, E, hS, hρ, ⟨d, e, r⟩, bR, _⟩ := h
  obtain ⟨v, e1, e2⟩ := hρ.get e
  exact ⟨v, e1, bR d S r H v (Ext.refl H S) hS e2⟩
theorem pvd (i : Nat) {x : Str} (hN : X.N[i]? = some x := by rfl) (hv : Vis X.env.scope x := by first | exact Or.inl rfl | exact Or.inr (Or.inl rfl) | exact Or.inr (Or.inr rfl)) (hd : (x == ("__debug__" : Str)) = false := by decide)
    (hcd : (x == ("__classdict__" : Str)) = false := by decide) : PED X W (.Name x pos) (dVar i) := ped_var hN hv hd hcd
theorem ped_c {v : V} {d : D} (h : PE X e (tC v)) (r : ∀ H S, rv X.K H S d v) : PED X W e (dC d) := by
  refine PE_imp h fun σ H Q h => ?_
  obtain ⟨ρ, S, R, E, hS, hρ, r', bR, _⟩ := h
  exact bR d S r' H v (Ext.refl H S) hS (r H S)
theorem ped_int {i j} : PED X W (.Constant (.int i) j pos) (dC (.int i)) := ped_c pe_int fun _ _ => rfl
theorem ped_bl {i j} : PED X W (.Constant (.bool i) j pos) (dC (.bl i)) := ped_c pe_bl fun _ _ => rfl
theorem ped_non {j} : PED X W (.Constant .none j pos) (dC .non) := ped_c pe_non fun _ _ => rfl
theorem ped_str {x j} : PED X W (.Constant (.str x) j pos) (dC (.str x)) := ped_c pe_str fun _ _ => rfl
/-- a module's constant -/
theorem ped_gint {x : Str} {i : Int} (hm : ∃ t, X.mg x = some (.int i t)) (hg : Gl X x := by rfl) (hd : (x == ("__debug__" : Str)) = false := by decide) : PED X W (.Name x pos) (dC (.int i)) := by
  obtain ⟨t, hm⟩ := hm
  exact ped_c (pe_glob (v := .int i) hg hm ⟨t, rfl⟩ hd) fun _ _ => rfl
theorem ped_gstr {x z : Str} (hm : ∃ t, X.mg x = some (.str z t)) (hg : Gl X x := by rfl) (hd : (x == ("__debug__" : Str)) = false := by decide) : PED X W (.Name x pos) (dC (.str z)) := by
  obtain ⟨t, hm⟩ := hm
  exact ped_c (pe_glob (v := .str z) hg hm ⟨t, rfl⟩ hd) fun _ _ => rfl
theorem ped_gref {x : Str} (hm : X.mg x = some (.ref (He.ga X.K x))) (hg : Gl X x := by rfl) (hd : (x == ("__debug__" : Str)) = false := by decide) : PED X W (.Name x pos) (dC (.glo x)) :=
  ped_c (pe_glob (v := .ref (He.ga X.K x)) hg hm rfl hd) fun _ _ => rfl

/-! ### two places -/
abbrev R2D := D → D → Sto → QD → Prop
def upR (K : PySem.W.Frag) (r : R2D) : R2 := fun v u H Q => ∃ x y S R, RS K H S ∧ rv K H S x v ∧ rv K H S y u ∧ r x y S R ∧ bE K H S R Q
def dOp (r : R2D) (ta tb : TED) : TED := fun ρ S R E => ta ρ S (fun x S1 => tb ρ S1 (fun y S2 => r x y S2 R) E) E
theorem tOp_up {r : R2D} {ta tb : TED} {K : PySem.W.Frag} {σ : L2.St} {H : Hp} {Q : VK} (h : upE K W (dOp r ta tb) σ H Q) : tOp (upR K r) (upE K W ta) (upE K W tb) σ H Q := by
  obtain ⟨ρ, S, R, E, hS, hρ, ht, bR, bx⟩ := h
  refine ⟨ρ, S, _, E, hS, hρ, ht, fun x S1 r1 H1 v e1 s1 v1 => ?_, bx⟩
  refine ⟨ρ, S1, _, E, s1, e1.re hS hρ, r1, fun y S2 r2 H2 u e2 s2 v2 => ?_, bx.ext e1⟩
  exact ⟨x, y, S2, R, s2, e2.rv s1 x v v1, v2, r2, bR.ext (e1.trans e2)⟩
theorem ped_op {op : Operator} {r : R2D} (ho : OpR X (binaryOp op) (upR X.K r)) (ha : PED X W a ta) (hb : PED X W b tb) : PED X W (.BinOp a op b pos) (dOp r ta tb) :=
  PE_imp (pe_op ho ha hb) fun _ _ _ h => tOp_up h
theorem ped_cmp {op : CmpOp} {r : R2D} (ho : OpR X (compareOp op) (upR X.K r)) (ha : PED X W a ta) (hb : PED X W b tb) (hm : behindInMarks op b = false := by first | exact nomark _ | rfl | with_unfolding_all rfl) : PED X W (.Compare a [op] [b] pos) (dOp r ta tb) :=
  PE_imp (pe_cmpR ho ha hb hm) fun _ _ _ h => tOp_up h
/-- a value that is True or False -/
def isB (d : D) (Q : Bool → Prop) : Prop := match d with
  | .bl b => Q b
  | _ => False
theorem isB_of {K : PySem.W.Frag} {H : Hp} {S : Sto} {d : D} {v : V} {Q : Bool → Prop} (h : isB d Q) (r : rv K H S d v) : ∃ b, d = .bl b ∧ v = .bl b ∧ Q b := by
  cases d <;> first | exact ⟨_, rfl, r, h⟩ | exact h.elim
def dTest (t : TED) : TTD := fun ρ S R E => t ρ S (fun x S1 => isB x fun b => R b S1) E
theorem tTest_up {t : TED} {K : PySem.W.Frag} {σ : L2.St} {H : Hp} {Q : Bool → Hp → Prop} (h : upT K W (dTest t) σ H Q) : tTest (upE K W t) σ H Q := by
  obtain ⟨ρ, S, R, E, hS, hρ, ht, bR, bx⟩ := h
  refine ⟨ρ, S, _, E, hS, hρ, ht, fun x S1 r1 H1 v e1 s1 v1 => ?_, bx⟩
  obtain ⟨b, rfl, rfl, q⟩ := isB_of r1 v1
  exact ⟨b, rfl, bR b S1 q H1 e1 s1⟩
theorem tTest_mono {t t' : TE} {σ : L2.St} {H : Hp} {Q : Bool → Hp → Prop} (h : ∀ Q', t' σ H Q' → t σ H Q') (q : tTest t' σ H Q) : tTest t σ H Q := h _ q
theorem ptd_cmp {op : CmpOp} {r : R2D} (ho : OpR X (compareOp op) (upR X.K r)) (ha : PED X W a ta) (hb : PED X W b tb) (hm : behindInMarks op b = false := by first | exact nomark _ | rfl | with_unfolding_all rfl) : PTD X W (.Compare a [op] [b] pos) (dTest (dOp r ta tb)) :=
  PT_imp (pt_cmpR ho ha hb hm) fun _ _ _ h => tTest_mono (fun _ q => tOp_up q) (tTest_up h)
def dChain (r r' : R2D) (ta tb tc : TED) : TED := fun ρ S R E => ta ρ S (fun x S1 => tb ρ S1 (fun y S2 => r x y S2 (fun z S3 => isB z fun k => if k = true then tc ρ S3 (fun w S4 => r' y w S4 R) E else R (.bl false) S3)) E) E
theorem tChain_up {r r' : R2D} {ta tb tc : TED} {K : PySem.W.Frag} {σ : L2.St} {H : Hp} {Q : VK} (h : upE K W (dChain r r' ta tb tc) σ H Q) : tChain (upR K r) (upR K r') (upE K W ta) (upE K W tb) (upE K W tc) σ H Q := by
  obtain ⟨ρ, S, R, E, hS, hρ, ht, bR, bx⟩ := h
  refine ⟨ρ, S, _, E, hS, hρ, ht, fun x S1 r1 H1 v e1 s1 v1 => ?_, bx⟩
  refine ⟨ρ, S1, _, E, s1, e1.re hS hρ, r1, fun y S2 r2 H2 u e2 s2 v2 => ?_, bx.ext e1⟩
  refine ⟨x, y, S2, _, s2, e2.rv s1 x v v1, v2, r2, fun z S3 r3 H3 vz e3 s3 v3 => ?_⟩
  obtain ⟨k, rfl, rfl, q⟩ := isB_of r3 v3
  refine ⟨k, rfl, ?_⟩
  have e13 := e1.trans (e2.trans e3)
  cases k with
  | true =>
    rw [if_pos rfl] at q ⊢
    refine ⟨ρ, S3, _, E, s3, e13.re hS hρ, q, fun w' S4 r4 H4 vw e4 s4 v4 => ?_, bx.ext e13⟩
    exact ⟨y, w', S4, R, s4, (e3.trans e4).rv s2 y u v2, v4, r4, bR.ext (e13.trans e4)⟩
  | false =>
    rw [if_neg Bool.false_ne_true] at q ⊢
    exact bR _ S3 q H3 _ e13 s3 rfl
theorem ped_chain {op op' : CmpOp} {r r' : R2D} (ho : OpR X (compareOp op) (upR X.K r)) (ho' : OpR X (compareOp op') (upR X.K r')) (ha : PED X W a ta) (hb : PED X W b tb) (hc : PED X W c tc)
    (hm : lastMarks [op, op'] [b, c] = false := by with_unfolding_all rfl) : PED X W (.Compare a [op, op'] [b, c] pos) (dChain r r' ta tb tc) := PE_imp (pe_chain ho ho' ha hb hc hm) fun _ _ _ h => tChain_up h
theorem ptd_chain {op op' : CmpOp} {r r' : R2D} (ho : OpR X (compareOp op) (upR X.K r)) (ho' : OpR X (compareOp op') (upR X.K r')) (ha : PED X W a ta) (hb : PED X W b tb) (hc : PED X W c tc)
    (hm : lastMarks [op, op'] [b, c] = false := by with_unfolding_all rfl) : PTD X W (.Compare a [op, op'] [b, c] pos) (dTest (dChain r r' ta tb tc)) :=
  PT_imp (pt_chain ho ho' ha hb hc hm) fun _ _ _ h => tTest_mono (fun _ q => tChain_up q) (tTest_up h)

/-! ### truth -/
def truD (S : Sto) (d : D) (Q : Bool → Prop) : Prop := match d with
  | .non => Q false
  | .bl b => Q b
  | .int i => Q (i != 0)
  | .str x => x.length ≤ sizeLine ∧ Q ((x.length : Int) != 0)
  | .tup ds => Q (!ds.isEmpty)
  | .lst ds => Q (!ds.isEmpty)
  | .dct kvs => Q (!kvs.isEmpty)
  | .ref a => (match S a with
    | some (.lst ds) => Q (!ds.isEmpty)
    | _ => False)
  | _ => False
theorem rvs.empty {K : PySem.W.Frag} {H : Hp} {S : Sto} {ds : List D} {vs : List V} (h : rvs K H S ds vs) : vs.isEmpty = ds.isEmpty := by
  cases ds with
  | nil => cases h; rfl
  | cons d ds => obtain ⟨v, r, rfl, _⟩ := h; rfl
theorem truD_of {K : PySem.W.Frag} {H : Hp} {S : Sto} {d : D} {v : V} {Q : Bool → Prop} (hS : RS K H S) (h : truD S d Q) (r : rv K H S d v) : ∃ k, TruV K v H k ∧ Q k := by
  cases d with
  | non => cases r; exact ⟨_, rfl, h⟩
  | bl b => cases r; exact ⟨_, rfl, h⟩
  | int i => cases r; exact ⟨_, rfl, h⟩
  | str x => cases r; exact ⟨_, ⟨h.1, rfl⟩, h.2⟩
  | tup ds =>
    obtain ⟨p, vs, rfl, e, q⟩ := r
    exact ⟨_, .inr (.inl ⟨vs, SqT.of e, rfl⟩), by rw [q.empty]; exact h⟩
  | lst ds =>
    obtain ⟨p, vs, rfl, e, _, q⟩ := r
    exact ⟨_, .inl ⟨vs, SqL.of e, rfl⟩, by rw [q.empty]; exact h⟩
  | dct kvs =>
    obtain ⟨p, rfl, e, _⟩ := r
    exact ⟨_, .inr (.inr ⟨kvs, e, rfl⟩), h⟩
  | ref p =>
    cases r
    unfold truD at h
    cases hp : S p with
    | none => simp only [hp] at h
    | some o =>
      cases o with
      | lst ds =>
        simp only [hp] at h
        obtain ⟨vs, e, q⟩ := hS p _ hp
        exact ⟨_, .inl ⟨vs, SqL.of e, rfl⟩, by rw [q.empty]; exact h⟩
      | _ => simp only [hp] at h
  | _ => exact h.elim
def dTru (t : TED) : TTD := fun ρ S R E => t ρ S (fun x S1 => truD S1 x fun b => R b S1) E
theorem ptd_truth (ha : PED X W a ta) (he : ∀ whole, isTrue a X.env whole = (do let v ← whole; standAt a.pos; holding [v] (truthy v)) := by intro _; rfl) : PTD X W a (dTru ta) := by
  refine PT_imp (pt_truth ha he) fun σ H Q h => ?_
  obtain ⟨ρ, S, R, E, hS, hρ, ht, bR, bx⟩ := h
  refine ⟨ρ, S, _, E, hS, hρ, ht, fun x S1 r1 H1 v e1 s1 v1 => ?_, bx⟩
  obtain ⟨k, t, q⟩ := truD_of s1 r1 v1
  exact ⟨k, t, bR k S1 q H1 e1 s1⟩

/-! ### and, or, not, if -/
structure PWD (X : Cx) (W : WX) (e : Expr) (t : TTD) : Prop where
  w : PW X e (upT X.K W t)
def dAnd (t u : TTD) : TTD := fun ρ S R E => t ρ S (fun c S1 => if c = true then u ρ S1 R E else R false S1) E
def dOr (t u : TTD) : TTD := fun ρ S R E => t ρ S (fun c S1 => if c = true then R true S1 else u ρ S1 R E) E
def dNot (t : TTD) : TTD := fun ρ S R E => t ρ S (fun c S1 => R (!c) S1) E
theorem PWD.pt (h : PWD X W e tt) : PTD X W e tt := h.w.pt
theorem pwd_and1 (ha : PTD X W a tt) : PWD X W (.BoolOp .And [a] pos) tt := ⟨pw_and1 ha⟩
theorem pwd_or1 (ha : PTD X W a tt) : PWD X W (.BoolOp .Or [a] pos) tt := ⟨pw_or1 ha⟩
theorem PW_imp {X : Cx} {e : Expr} {t t' : TT} (p : PW X e t) (h : ∀ σ H Q, t' σ H Q → t σ H Q) : PW X e t' := ⟨fun wh pins s σ H Q I q => p.run wh pins s σ H Q I (h σ H Q q)⟩
theorem pwd_and (ha : PTD X W a tt) (hb : PWD X W (.BoolOp .And (b :: rest) pos) tu) : PWD X W (.BoolOp .And (a :: b :: rest) pos) (dAnd tt tu) := by
  refine ⟨PW_imp (pw_and ha hb.w) fun σ H Q h => ?_⟩
  obtain ⟨ρ, S, R, E, hS, hρ, ht, bR, bx⟩ := h
  refine ⟨ρ, S, _, E, hS, hρ, ht, fun c S1 r1 H1 e1 s1 => ?_, bx⟩
  cases c with
  | true =>
    rw [if_pos rfl] at r1 ⊢
    exact ⟨ρ, S1, R, E, s1, e1.re hS hρ, r1, bR.ext e1, bx.ext e1⟩
  | false =>
    rw [if_neg Bool.false_ne_true] at r1 ⊢
    exact bR _ S1 r1 H1 e1 s1
theorem pwd_or (ha : PTD X W a tt) (hb : PWD X W (.BoolOp .Or (b :: rest) pos) tu) : PWD X W (.BoolOp .Or (a :: b :: rest) pos) (dOr tt tu) := by
  refine ⟨PW_imp (pw_or ha hb.w) fun σ H Q h => ?_⟩
  obtain ⟨ρ, S, R, E, hS, hρ, ht, bR, bx⟩ := h
  refine ⟨ρ, S, _, E, hS, hρ, ht, fun c S1 r1 H1 e1 s1 => ?_, bx⟩
  cases c with
  | false =>
    rw [if_neg Bool.false_ne_true] at r1 ⊢
    exact ⟨ρ, S1, R, E, s1, e1.re hS hρ, r1, bR.ext e1, bx.ext e1⟩
  | true =>
    rw [if_pos rfl] at r1 ⊢
    exact bR _ S1 r1 H1 e1 s1
theorem ptd_not (ha : PTD X W a tt) : PTD X W (.UnaryOp .Not a pos) (dNot tt) := by
  refine PT_imp (pt_not ha) fun σ H Q h => ?_
  obtain ⟨ρ, S, R, E, hS, hρ, ht, bR, bx⟩ := h
  exact ⟨ρ, S, _, E, hS, hρ, ht, fun c S1 r1 H1 e1 s1 => bR _ S1 r1 H1 e1 s1, bx⟩
/-- as values: all but the last True or False -/
def dAndV (ta tb : TED) : TED := fun ρ S R E => ta ρ S (fun x S1 => isB x fun c => if c = true then tb ρ S1 R E else R (.bl false) S1) E
def dOrV (ta tb : TED) : TED := fun ρ S R E => ta ρ S (fun x S1 => isB x fun c => if c = true then R (.bl true) S1 else tb ρ S1 R E) E
theorem ped_one {op} (h : PED X W a ta) : PED X W (.BoolOp op [a] pos) ta := pe_one h
theorem ped_and (ha : PED X W a ta) (hb : PED X W (.BoolOp .And (b :: rest) pos) tb) : PED X W (.BoolOp .And (a :: b :: rest) pos) (dAndV ta tb) := by
  refine PE_imp (pe_and ha hb) fun σ H Q h => ?_
  obtain ⟨ρ, S, R, E, hS, hρ, ht, bR, bx⟩ := h
  refine ⟨ρ, S, _, E, hS, hρ, ht, fun x S1 r1 H1 v e1 s1 v1 => ?_, bx⟩
  obtain ⟨c, rfl, rfl, q⟩ := isB_of r1 v1
  refine ⟨c, rfl, ?_⟩
  cases c with
  | true =>
    rw [if_pos rfl] at q ⊢
    exact ⟨ρ, S1, R, E, s1, e1.re hS hρ, q, bR.ext e1, bx.ext e1⟩
  | false =>
    rw [if_neg Bool.false_ne_true] at q ⊢
    exact bR _ S1 q H1 _ e1 s1 rfl
theorem ped_or (ha : PED X W a ta) (hb : PED X W (.BoolOp .Or (b :: rest) pos) tb) : PED X W (.BoolOp .Or (a :: b :: rest) pos) (dOrV ta tb) := by
  refine PE_imp (pe_or ha hb) fun σ H Q h => ?_
  obtain ⟨ρ, S, R, E, hS, hρ, ht, bR, bx⟩ := h
  refine ⟨ρ, S, _, E, hS, hρ, ht, fun x S1 r1 H1 v e1 s1 v1 => ?_, bx⟩
  obtain ⟨c, rfl, rfl, q⟩ := isB_of r1 v1
  refine ⟨c, rfl, ?_⟩
  cases c with
  | false =>
    rw [if_neg Bool.false_ne_true] at q ⊢
    exact ⟨ρ, S1, R, E, s1, e1.re hS hρ, q, bR.ext e1, bx.ext e1⟩
  | true =>
    rw [if_pos rfl] at q ⊢
    exact bR _ S1 q H1 _ e1 s1 rfl
def dNotV (ta : TED) : TED := fun ρ S R E => ta ρ S (fun x S1 => truD S1 x fun k => R (.bl (!k)) S1) E
theorem ped_not (ha : PED X W a ta) : PED X W (.UnaryOp .Not a pos) (dNotV ta) := by
  refine PE_imp (pe_notT ha) fun σ H Q h => ?_
  obtain ⟨ρ, S, R, E, hS, hρ, ht, bR, bx⟩ := h
  refine ⟨ρ, S, _, E, hS, hρ, ht, fun x S1 r1 H1 v e1 s1 v1 => ?_, bx⟩
  obtain ⟨k, t, q⟩ := truD_of s1 r1 v1
  exact ⟨k, t, bR _ S1 q H1 _ e1 s1 rfl⟩
def dIf (t : TTD) (ta tb : TED) : TED := fun ρ S R E => t ρ S (fun c S1 => if c = true then ta ρ S1 R E else tb ρ S1 R E) E
theorem ped_if (hc : PTD X W c tt) (ha : PED X W a ta) (hb : PED X W b tb) : PED X W (.IfExp c a b pos) (dIf tt ta tb) := by
  refine PE_imp (pe_ifExp hc ha hb) fun σ H Q h => ?_
  obtain ⟨ρ, S, R, E, hS, hρ, ht, bR, bx⟩ := h
  refine ⟨ρ, S, _, E, hS, hρ, ht, fun k S1 r1 H1 e1 s1 => ?_, bx⟩
  cases k with
  | true =>
    rw [if_pos rfl] at r1 ⊢
    exact ⟨ρ, S1, R, E, s1, e1.re hS hρ, r1, bR.ext e1, bx.ext e1⟩
  | false =>
    rw [if_neg Bool.false_ne_true] at r1 ⊢
    exact ⟨ρ, S1, R, E, s1, e1.re hS hρ, r1, bR.ext e1, bx.ext e1⟩

/-! ### one place: is None, unary -/
def isNon : D → Bool
  | .non => true
  | _ => false
def dIsN (ta : TED) : TED := fun ρ S R E => ta ρ S (fun x S1 => R (.bl (isNon x)) S1) E
def dNotN (ta : TED) : TED := fun ρ S R E => ta ρ S (fun x S1 => R (.bl (!isNon x)) S1) E
theorem rv.isN {K : PySem.W.Frag} {H : Hp} {S : Sto} {d : D} {v : V} (r : rv K H S d v) : decide (v = .non) = isNon d := by
  cases d with
  | non => cases r; rfl
  | bl _ => cases r; rfl
  | int _ => cases r; rfl
  | str _ => cases r; rfl
  | ty _ => cases r; rfl
  | ref _ => cases r; rfl
  | glo _ => cases r; rfl
  | tup _ => obtain ⟨_, _, rfl, _⟩ := r; rfl
  | lst _ => obtain ⟨_, _, rfl, _⟩ := r; rfl
  | dct _ => obtain ⟨_, rfl, _⟩ := r; rfl
  | scr _ => obtain ⟨_, rfl, _⟩ := r; rfl
  | exn _ _ _ _ _ => obtain ⟨rfl, _⟩ := r; rfl
theorem ped_isN {j pos'} (ha : PED X W a ta) : PED X W (.Compare a [.Is] [.Constant .none j pos'] pos) (dIsN ta) := by
  refine PE_imp (pe_cmp (pc_isN ha) rfl) fun σ H Q h => ?_
  obtain ⟨ρ, S, R, E, hS, hρ, ht, bR, bx⟩ := h
  refine ⟨ρ, S, _, E, hS, hρ, ht, fun x S1 r1 H1 v e1 s1 v1 => ?_, bx⟩
  exact bR _ S1 r1 H1 _ e1 s1 (by show V.bl _ = V.bl _; rw [v1.isN])
theorem ped_notN {j pos'} (ha : PED X W a ta) : PED X W (.Compare a [.IsNot] [.Constant .none j pos'] pos) (dNotN ta) := by
  refine PE_imp (pe_cmp (pc_notN ha) rfl) fun σ H Q h => ?_
  obtain ⟨ρ, S, R, E, hS, hρ, ht, bR, bx⟩ := h
  refine ⟨ρ, S, _, E, hS, hρ, ht, fun x S1 r1 H1 v e1 s1 v1 => ?_, bx⟩
  exact bR _ S1 r1 H1 _ e1 s1 (by show V.bl _ = V.bl _; rw [v1.isN])
theorem ptd_val (h : PED X W e te) (he : ∀ whole, isTrue e X.env whole = (do let v ← whole; standAt e.pos; holding [v] (truthy v)) := by intro _; rfl) : PTD X W e (dTest te) := by
  refine PT_imp (pt_val h he) fun σ H Q h => ?_
  exact tTest_up h
theorem ptd_isN {j pos'} (ha : PED X W a ta) : PTD X W (.Compare a [.Is] [.Constant .none j pos'] pos) (dTest (dIsN ta)) := by
  refine PT_imp (pt_cmp (pc_isN ha) rfl) fun σ H Q h => ?_
  obtain ⟨ρ, S, R, E, hS, hρ, ht, bR, bx⟩ := h
  refine ⟨ρ, S, _, E, hS, hρ, ht, fun x S1 r1 H1 v e1 s1 v1 => ?_, bx⟩
  exact ⟨_, rfl, by rw [v1.isN]; exact bR _ S1 r1 H1 e1 s1⟩
theorem ptd_notN {j pos'} (ha : PED X W a ta) : PTD X W (.Compare a [.IsNot] [.Constant .none j pos'] pos) (dTest (dNotN ta)) := by
  refine PT_imp (pt_cmp (pc_notN ha) rfl) fun σ H Q h => ?_
  obtain ⟨ρ, S, R, E, hS, hρ, ht, bR, bx⟩ := h
  refine ⟨ρ, S, _, E, hS, hρ, ht, fun x S1 r1 H1 v e1 s1 v1 => ?_, bx⟩
  exact ⟨_, rfl, by rw [v1.isN]; exact bR _ S1 r1 H1 e1 s1⟩
def dNeg (ta : TED) : TED := fun ρ S R E => ta ρ S (fun x S1 => match x with | .int i => R (.int (-i)) S1 | _ => False) E
theorem ped_neg (ha : PED X W a ta) : PED X W (.UnaryOp .USub a pos) (dNeg ta) := by
  refine PE_imp (pe_un un_neg ha) fun σ H Q h => ?_
  obtain ⟨ρ, S, R, E, hS, hρ, ht, bR, bx⟩ := h
  refine ⟨ρ, S, _, E, hS, hρ, ht, fun x S1 r1 H1 v e1 s1 v1 => ?_, bx⟩
  cases x with
  | int i => cases v1; exact ⟨i, rfl, bR _ S1 r1 H1 _ e1 s1 rfl⟩
  | _ => exact r1.elim
end
end Dl
namespace Dl
open PySem PySem.Spec PyProof.Rows L2

/-! ### heaps that grow -/
section
variable {K : PySem.W.Frag} {H : Hp} {S : Sto}
theorem Ext.new {p : Addr} {o : HO} (hp : H p = none) : Ext H S (upd H p o) S := fun a u h n _ => ⟨by rw [upd_ne (ne_of_none h hp)]; exact h, n⟩
theorem rs_mono_aux {H' : Hp} {S' : Sto} (R : RS K H S) (x : Ext H S H' S') {a : Addr} {o : OB} (q : ro K H S a o) (hk : ∀ u, H a = some u → H' a = some u)
    (hp : ∀ c b u, S c = some (.part b) → H c = some u → H' c = some u ∧ S' c = some (.part b)) : ro K H' S' a o := by
  cases o with
  | lst ds => obtain ⟨vs, e, r⟩ := q; exact ⟨vs, hk _ e, x.rvs R ds vs r⟩
  | ins C ks ds => obtain ⟨dx, vs, e, l, r⟩ := q; exact ⟨dx, vs, hk _ e, l, x.rvs R ds vs r⟩
  | draw v m => cases v with
    | false =>
      obtain ⟨c, cells, n, e, sc, hc, r⟩ := q
      obtain ⟨h1, h2⟩ := hp c a _ sc hc
      exact ⟨c, cells, n, hk _ e, h2, h1, r⟩
    | true =>
      obtain ⟨c, r, cells, rests, n, e, sc, sr, ne, hc, hr, z⟩ := q
      obtain ⟨h1, h2⟩ := hp c a _ sc hc
      obtain ⟨h3, h4⟩ := hp r a _ sr hr
      exact ⟨c, r, cells, rests, n, hk _ e, h2, h4, ne, h1, h3, z⟩
  | part b => obtain ⟨vs, e⟩ := q; exact ⟨vs, hk _ e⟩
  | hst C ks l0 l1 l2 w more =>
    obtain ⟨dx, s, t, e, v0, v1, v2, vw, vm, h, hl, ⟨s1, s2, s3⟩, ne, ⟨h1, h2, h3⟩, ⟨r1, r2, r3⟩, rw', rm⟩ := q
    obtain ⟨k1, p1⟩ := hp s a _ s1 h1
    obtain ⟨k2, p2⟩ := hp t a _ s2 h2
    obtain ⟨k3, p3⟩ := hp e a _ s3 h3
    exact ⟨dx, s, t, e, v0, v1, v2, vw, vm, hk _ h, hl, ⟨p1, p2, p3⟩, ne, ⟨k1, k2, k3⟩, ⟨x.rvs R _ _ r1, x.rvs R _ _ r2, x.rvs R _ _ r3⟩, x.rv R _ _ rw', x.rvs R _ _ rm⟩
/-- a frozen object is laid -/
theorem RS.new {p : Addr} {o : HO} (R : RS K H S) (hp : H p = none) : RS K (upd H p o) S := fun a u e =>
  rs_mono_aux R (Ext.new hp) (R a u e) (fun w hw => by rw [upd_ne (ne_of_none hw hp)]; exact hw) fun c b w sc hw => ⟨by rw [upd_ne (ne_of_none hw hp)]; exact hw, sc⟩
theorem rvs.new {p : Addr} {o : HO} (R : RS K H S) (hp : H p = none) {ds : List D} {vs : List V} (q : rvs K H S ds vs) : rvs K (upd H p o) S ds vs := (Ext.new hp).rvs R ds vs q
theorem rv.new {p : Addr} {o : HO} (R : RS K H S) (hp : H p = none) {d : D} {v : V} (q : rv K H S d v) : rv K (upd H p o) S d v := (Ext.new hp).rv R d v q
theorem rv.tup_new {p : Addr} {ds : List D} {vs : List V} (R : RS K H S) (hp : H p = none) (q : rvs K H S ds vs) : rv K (upd H p (.tup vs)) S (.tup ds) (.ref p) := ⟨p, vs, rfl, upd_same, q.new R hp⟩
theorem rv.lst_new {p : Addr} {ds : List D} {vs : List V} (R : RS K H S) (hp : H p = none) (q : rvs K H S ds vs) : rv K (upd H p (.lst vs)) S (.lst ds) (.ref p) := ⟨p, vs, rfl, upd_same, R.none_of hp, q.new R hp⟩
end

/-! ### arithmetic -/
section
variable {X : Cx}
/-- where a list may be read: frozen or in the store -/
def lsD (S : Sto) (d : D) (Q : List D → Prop) : Prop := match d with
  | .lst ds => Q ds
  | .ref a => (match S a with
    | some (.lst ds) => Q ds
    | _ => False)
  | _ => False
theorem lsD_of {K : PySem.W.Frag} {H : Hp} {S : Sto} {d : D} {v : V} {Q : List D → Prop} (hS : RS K H S) (h : lsD S d Q) (r : rv K H S d v) : ∃ ds a vs, v = .ref a ∧ H a = some (.lst vs) ∧ rvs K H S ds vs ∧ Q ds := by
  cases d with
  | lst ds => obtain ⟨p, vs, rfl, e, _, q⟩ := r; exact ⟨ds, p, vs, rfl, e, q, h⟩
  | ref p =>
    cases r
    unfold lsD at h
    cases hp : S p with
    | none => simp only [hp] at h
    | some o =>
      cases o with
      | lst ds =>
        simp only [hp] at h
        obtain ⟨vs, e, q⟩ := hS p _ hp
        exact ⟨ds, p, vs, rfl, e, q, h⟩
      | _ => simp only [hp] at h
  | _ => exact h.elim
/-- a sequence: list or tuple -/
def sqD (S : Sto) (d : D) (Q : List D → Prop) : Prop := match d with
  | .tup ds => Q ds
  | .lst ds => Q ds
  | .ref a => (match S a with
    | some (.lst ds) => Q ds
    | _ => False)
  | _ => False
theorem sqD_of {K : PySem.W.Frag} {H : Hp} {S : Sto} {d : D} {v : V} {Q : List D → Prop} (hS : RS K H S) (h : sqD S d Q) (r : rv K H S d v) : ∃ ds a vs, v = .ref a ∧ (H a = some (.lst vs) ∨ H a = some (.tup vs)) ∧ rvs K H S ds vs ∧ Q ds := by
  cases d with
  | tup ds => obtain ⟨p, vs, rfl, e, q⟩ := r; exact ⟨ds, p, vs, rfl, .inr e, q, h⟩
  | lst ds => obtain ⟨q, a, vs, e1, e2, e3, e4⟩ := lsD_of (d := .lst ds) hS h r; exact ⟨q, a, vs, e1, .inl e2, e3, e4⟩
  | ref p => obtain ⟨q, a, vs, e1, e2, e3, e4⟩ := lsD_of (d := .ref p) hS h r; exact ⟨q, a, vs, e1, .inl e2, e3, e4⟩
  | _ => exact h.elim

def opAdd : R2D := fun x y S R => match x, y with
  | .int i, .int j => R (.int (i + j)) S
  | .str i, .str j => i.length + j.length ≤ sizeLine ∧ R (.str (i ++ j)) S
  | .tup ds, .tup es => ds.length + es.length ≤ sizeLine ∧ R (.tup (ds ++ es)) S
  | .lst _, _ => lsD S x fun ds => lsD S y fun es => ds.length + es.length ≤ sizeLine ∧ R (.lst (ds ++ es)) S
  | .ref _, _ => lsD S x fun ds => lsD S y fun es => ds.length + es.length ≤ sizeLine ∧ R (.lst (ds ++ es)) S
  | _, _ => False
theorem opd_add : OpR X (binaryOp .Add) (upR X.K opAdd) := by
  refine OpR_imp ((((op_add.or op_add_str).or op_catA).or op_cat)) fun v u H Q h => ?_
  obtain ⟨x, y, S, R, hS, rx, ry, r, bR⟩ := h
  have lsts : (lsD S x fun ds => lsD S y fun es => ds.length + es.length ≤ sizeLine ∧ R (.lst (ds ++ es)) S) → rCat v u H Q := fun h => by
    obtain ⟨ds, a, vs, rfl, ha, qa, h⟩ := lsD_of hS h rx
    obtain ⟨es, b, ws, rfl, hb, qb, hl, h⟩ := lsD_of hS h ry
    refine ⟨a, b, vs, ws, rfl, rfl, ha, hb, ?_, fun p hp => bR _ S h _ _ (Ext.new hp) (hS.new hp) (rv.lst_new hS hp (qa.append qb))⟩
    rw [← qa.len, ← qb.len]; exact hl
  cases x with
  | int i => cases y with
    | int j => cases rx; cases ry; exact .inl (.inl (.inl ⟨i, j, rfl, rfl, bR _ S r H _ (Ext.refl _ _) hS rfl⟩))
    | _ => exact r.elim
  | str i => cases y with
    | str j => cases rx; cases ry; exact .inl (.inl (.inr ⟨i, j, rfl, rfl, r.1, bR _ S r.2 H _ (Ext.refl _ _) hS rfl⟩))
    | _ => exact r.elim
  | tup ds => cases y with
    | tup es =>
      obtain ⟨hl, r⟩ := r
      obtain ⟨a, vs, rfl, ha, qa⟩ := rx
      obtain ⟨b, ws, rfl, hb, qb⟩ := ry
      refine .inl (.inr ⟨a, b, vs, ws, rfl, rfl, SqT.of ha, SqT.of hb, by rw [← qa.len, ← qb.len]; exact hl, fun e => ?_, fun _ e => ?_, fun _ _ p hp => bR _ S r _ _ (Ext.new hp) (hS.new hp) (rv.tup_new hS hp (qa.append qb))⟩)
      · subst e
        have e2 : ds = [] := List.eq_nil_of_length_eq_zero qa.len
        subst e2
        exact bR _ S r H _ (Ext.refl _ _) hS ⟨b, ws, rfl, hb, qb⟩
      · subst e
        have e2 : es = [] := List.eq_nil_of_length_eq_zero qb.len
        subst e2
        rw [List.append_nil] at r
        exact bR _ S r H _ (Ext.refl _ _) hS ⟨a, vs, rfl, ha, qa⟩
    | _ => exact r.elim
  | lst ds => exact .inr (lsts r)
  | ref a => exact .inr (lsts r)
  | _ => exact r.elim
def opInt (C : Int → Int → Prop) (g : Int → Int → D) : R2D := fun x y S R => match x, y with
  | .int i, .int j => C i j ∧ R (g i j) S
  | _, _ => False
theorem opd_int {f : Value → Value → Sem Value} {C : Int → Int → Prop} {g : Int → Int → V} {gd : Int → Int → D} (h : OpR X f (rI C g)) (hg : ∀ H S i j, rv X.K H S (gd i j) (g i j)) : OpR X f (upR X.K (opInt C gd)) := by
  refine OpR_imp h fun v u H Q h => ?_
  obtain ⟨x, y, S, R, hS, rx, ry, r, bR⟩ := h
  cases x with
  | int i => cases y with
    | int j => cases rx; cases ry; exact ⟨i, j, rfl, rfl, r.1, bR _ S r.2 H _ (Ext.refl _ _) hS (hg _ _ _ _)⟩
    | _ => exact r.elim
  | _ => exact r.elim
theorem rI_of {f : Value → Value → Sem Value} {g : Int → Int → V} (h : OpR X f (rI0 g)) : OpR X f (rI (fun _ _ => True) g) := OpR_imp h fun _ _ _ _ ⟨i, j, e1, e2, _, q⟩ => ⟨i, j, e1, e2, q⟩
def opSub : R2D := opInt (fun _ _ => True) fun i j => .int (i - j)
theorem opd_sub : OpR X (binaryOp .Sub) (upR X.K opSub) := opd_int (rI_of op_sub) fun _ _ _ _ => rfl
def opMod : R2D := opInt (fun _ j => 0 < j) fun i j => .int (i % j)
theorem opd_mod : OpR X (binaryOp .Mod) (upR X.K opMod) := opd_int op_mod fun _ _ _ _ => rfl
def opDiv : R2D := opInt CDiv fun i j => .int (i / j)
theorem opd_div : OpR X (binaryOp .FloorDiv) (upR X.K opDiv) := opd_int op_fdiv fun _ _ _ _ => rfl
def opPow : R2D := opInt CPow fun i j => .int (i ^ j.toNat)
theorem opd_pow : OpR X (binaryOp .Pow) (upR X.K opPow) := opd_int op_pow fun _ _ _ _ => rfl
def opMul : R2D := fun x y S R => match x, y with
  | .int i, .int j => CMul i j ∧ R (.int (i * j)) S
  | .lst ds, .int k => -(2 ^ 63) ≤ k ∧ k < 2 ^ 63 ∧ ds.length * k.toNat ≤ sizeLine ∧ R (.lst (List.replicate k.toNat ds).flatten) S
  | _, _ => False
theorem rvs.rep {K : PySem.W.Frag} {H : Hp} {S : Sto} {ds : List D} {vs : List V} (q : rvs K H S ds vs) : ∀ n : Nat, rvs K H S (List.replicate n ds).flatten (List.replicate n vs).flatten
  | 0 => rfl
  | n + 1 => by
    rw [List.replicate_succ, List.replicate_succ, List.flatten_cons, List.flatten_cons]
    exact q.append (rvs.rep q n)
theorem opd_mul : OpR X (binaryOp .Mult) (upR X.K opMul) := by
  refine OpR_imp (op_mul.or op_rep) fun v u H Q h => ?_
  obtain ⟨x, y, S, R, hS, rx, ry, r, bR⟩ := h
  cases x with
  | int i => cases y with
    | int j => cases rx; cases ry; exact .inl ⟨i, j, rfl, rfl, r.1, bR _ S r.2 H _ (Ext.refl _ _) hS rfl⟩
    | _ => exact r.elim
  | lst ds => cases y with
    | int k =>
      obtain ⟨a, vs, rfl, ha, _, qa⟩ := rx
      cases ry
      obtain ⟨h1, h2, h3, r⟩ := r
      exact .inr ⟨a, k, vs, rfl, rfl, ha, h1, h2, by rw [← qa.len]; exact h3, fun p hp => bR _ S r _ _ (Ext.new hp) (hS.new hp) (rv.lst_new hS hp (qa.rep _))⟩
    | _ => exact r.elim
  | _ => exact r.elim

/-! ### order -/
def opOrd (f : Int → Int → Bool) (g : List Nat → List Nat → Bool) : R2D := fun x y S R => match x, y with
  | .int i, .int j => R (.bl (f i j)) S
  | _, _ => False
theorem opd_ord {op : CmpOp} {f : Int → Int → Bool} {g : List Nat → List Nat → Bool} (h : OpR X (compareOp op) (rI0 fun i j => .bl (f i j))) : OpR X (compareOp op) (upR X.K (opOrd f g)) := by
  refine OpR_imp h fun v u H Q h => ?_
  obtain ⟨x, y, S, R, hS, rx, ry, r, bR⟩ := h
  cases x with
  | int i => cases y with
    | int j => cases rx; cases ry; exact ⟨i, j, rfl, rfl, bR _ S r H _ (Ext.refl _ _) hS rfl⟩
    | _ => exact r.elim
  | _ => exact r.elim
def opLt : R2D := opOrd (fun i j => decide (i < j)) fun _ _ => false
def opLe : R2D := opOrd (fun i j => decide (i ≤ j)) fun _ _ => false
def opGt : R2D := opOrd (fun i j => decide (j < i)) fun _ _ => false
def opGe : R2D := opOrd (fun i j => decide (j ≤ i)) fun _ _ => false
theorem opd_lt : OpR X (compareOp .Lt) (upR X.K opLt) := opd_ord op_lt
theorem opd_le : OpR X (compareOp .LtE) (upR X.K opLe) := opd_ord op_le
theorem opd_gt : OpR X (compareOp .Gt) (upR X.K opGt) := opd_ord op_gt
theorem opd_ge : OpR X (compareOp .GtE) (upR X.K opGe) := opd_ord op_ge

/-! ### == of data -/
mutual
/-- the data that a value is, if it is data all through -/
def py : D → Option PyData
  | .non => some .none
  | .bl b => some (.bool b)
  | .int i => some (.int i)
  | .str x => some (.str x)
  | .tup ds => (pys ds).map .tuple
  | .lst ds => (pys ds).map .list
  | _ => none
def pys : List D → Option (List PyData)
  | [] => some []
  | d :: ds => (py d).bind fun p => (pys ds).map (p :: ·)
end
mutual
theorem py_dp {K : PySem.W.Frag} {H : Hp} {S : Sto} : ∀ (d : D) (v : V) (p : PyData), py d = some p → rv K H S d v → Dp K H v p
  | .non, _, _, e, r => by cases e; cases r; exact .non
  | .bl b, _, _, e, r => by cases e; cases r; exact .bl b
  | .int i, _, _, e, r => by cases e; cases r; exact .int i
  | .str x, _, _, e, r => by cases e; cases r; exact .str x
  | .tup ds, _, _, e, r => by
    obtain ⟨a, vs, rfl, ha, q⟩ := r
    unfold py at e
    obtain ⟨ps, e1, rfl⟩ := Option.map_eq_some_iff.mp e
    exact .tup (SqT.of ha) (pys_dp ds vs ps e1 q)
  | .lst ds, _, _, e, r => by
    obtain ⟨a, vs, rfl, ha, _, q⟩ := r
    unfold py at e
    obtain ⟨ps, e1, rfl⟩ := Option.map_eq_some_iff.mp e
    exact .lst (SqL.of ha) (pys_dp ds vs ps e1 q)
  | .ty _, _, _, e, _ => by cases e
  | .ref _, _, _, e, _ => by cases e
  | .glo _, _, _, e, _ => by cases e
  | .dct _, _, _, e, _ => by cases e
  | .scr _, _, _, e, _ => by cases e
  | .exn _ _ _ _ _, _, _, e, _ => by cases e
theorem pys_dp {K : PySem.W.Frag} {H : Hp} {S : Sto} : ∀ (ds : List D) (vs : List V) (ps : List PyData), pys ds = some ps → rvs K H S ds vs → DpAll K H vs ps
  | [], _, _, e, r => by cases e; cases r; exact .nil
  | d :: ds, _, _, e, r => by
    obtain ⟨v, r', rfl, h1, h2⟩ := r
    unfold pys at e
    obtain ⟨p, e1, e2⟩ := Option.bind_eq_some_iff.mp e
    obtain ⟨ps, e3, rfl⟩ := Option.map_eq_some_iff.mp e2
    exact .cons (py_dp d v p e1 h1) (pys_dp ds r' ps e3 h2)
end
/-- .. a list of the store's too -/
def pyS (S : Sto) (d : D) : Option PyData := match d with
  | .ref a => (match S a with
    | some (.lst ds) => py (.lst ds)
    | _ => none)
  | d => py d
theorem pyS_dp {K : PySem.W.Frag} {H : Hp} {S : Sto} (hS : RS K H S) {d : D} {v : V} {p : PyData} (e : pyS S d = some p) (r : rv K H S d v) : Dp K H v p := by
  cases d with
  | ref a =>
    cases r
    unfold pyS at e
    cases ha : S a with
    | none => simp only [ha] at e; cases e
    | some o =>
      cases o with
      | lst ds =>
        simp only [ha] at e
        obtain ⟨vs, h1, q⟩ := hS a _ ha
        unfold py at e
        obtain ⟨ps, e1, rfl⟩ := Option.map_eq_some_iff.mp e
        exact .lst (SqL.of h1) (pys_dp ds vs ps e1 q)
      | _ => simp only [ha] at e; cases e
  | _ => exact py_dp _ v p e r
def opEq : R2D := fun x y S R => ∃ p q, pyS S x = some p ∧ pyS S y = some q ∧ SeqAt.shaped p = true ∧ SeqAt.shaped q = true ∧ R (.bl (PyData.eqv p q)) S
def opNe : R2D := fun x y S R => ∃ p q, pyS S x = some p ∧ pyS S y = some q ∧ SeqAt.shaped p = true ∧ SeqAt.shaped q = true ∧ R (.bl (!PyData.eqv p q)) S
theorem opd_eq (hu : X.A.units + 64 < cLine) : OpR X (compareOp .Eq) (upR X.K opEq) := by
  refine OpR_imp (op_eqD hu) fun v u H Q h => ?_
  obtain ⟨x, y, S, R, hS, rx, ry, ⟨p, q, e1, e2, s1, s2, r⟩, bR⟩ := h
  exact ⟨p, q, pyS_dp hS e1 rx, pyS_dp hS e2 ry, s1, s2, bR _ S r H _ (Ext.refl _ _) hS rfl⟩
theorem opd_ne (hu : X.A.units + 64 < cLine) : OpR X (compareOp .NotEq) (upR X.K opNe) := by
  refine OpR_imp (op_neD hu) fun v u H Q h => ?_
  obtain ⟨x, y, S, R, hS, rx, ry, ⟨p, q, e1, e2, s1, s2, r⟩, bR⟩ := h
  exact ⟨p, q, pyS_dp hS e1 rx, pyS_dp hS e2 ry, s1, s2, bR _ S r H _ (Ext.refl _ _) hS rfl⟩

/-! ### in, not in -/
def flatD : D → Bool
  | .non => true
  | .bl _ => true
  | .int _ => true
  | .str _ => true
  | _ => false
def eqF : D → D → Bool
  | .non, .non => true
  | .bl a, .bl b => a == b
  | .bl a, .int b => (if a then 1 else 0) == b
  | .int a, .bl b => a == (if b then 1 else 0)
  | .int a, .int b => a == b
  | .str a, .str b => a == b
  | _, _ => false
end
end Dl
namespace Dl
open PySem PySem.Spec PyProof.Rows L2

/-! ### the store is written -/
def isPart : Option OB → Bool
  | some (.part _) => true
  | _ => false
section
variable {K : PySem.W.Frag} {H : Hp} {S : Sto}
theorem Ext.put {a : Addr} {u : HO} {o : OB} (c : S a ≠ none ∨ H a = none) : Ext H S (upd H a u) (put S a o) := fun b w hb nb _ => by
  have ne : b ≠ a := by
    rintro rfl
    rcases c with c | c
    · exact c nb
    · rw [c] at hb; cases hb
  exact ⟨by rw [upd_ne ne]; exact hb, by rw [put_ne ne]; exact nb⟩
theorem RS.put {a : Addr} {u : HO} {o : OB} (R : RS K H S) (c : S a ≠ none ∨ H a = none) (np : isPart (S a) = false) (n : ro K (upd H a u) (Dl.put S a o) a o) : RS K (upd H a u) (Dl.put S a o) := fun b o' e => by
  by_cases hb : b = a
  · subst hb
    rw [put_same] at e; cases e; exact n
  · rw [put_ne hb] at e
    refine rs_mono_aux R (Ext.put c) (R b o' e) (fun w hw => by rw [upd_ne hb]; exact hw) fun d q w sd hw => ?_
    have nd : d ≠ a := by
      rintro rfl
      rw [sd] at np; cases np
    exact ⟨by rw [upd_ne nd]; exact hw, by rw [put_ne nd]; exact sd⟩
end
section
variable {X : Cx} {W : WX} {a b c e o : Expr} {es rest : List Expr} {pos : Pos} {ta tb tc te to : TED} {tas tbs : TAD} {tt tu : TTD}
/-! ### in, not in -/
def fv : D → Option V
  | .non => some .non
  | .bl b => some (.bl b)
  | .int i => some (.int i)
  | .str x => some (.str x)
  | _ => none
def fvs : List D → Option (List V)
  | [] => some []
  | d :: ds => (fv d).bind fun v => (fvs ds).map (v :: ·)
theorem fv_of {K : PySem.W.Frag} {H : Hp} {S : Sto} {d : D} {v w : V} (e : fv d = some w) (r : rv K H S d v) : v = w ∧ flatV w = true := by
  cases d with
  | non => cases e; cases r; exact ⟨rfl, rfl⟩
  | bl _ => cases e; cases r; exact ⟨rfl, rfl⟩
  | int _ => cases e; cases r; exact ⟨rfl, rfl⟩
  | str _ => cases e; cases r; exact ⟨rfl, rfl⟩
  | _ => cases e
theorem fvs_of {K : PySem.W.Frag} {H : Hp} {S : Sto} : ∀ {ds : List D} {vs ws : List V}, fvs ds = some ws → rvs K H S ds vs → vs = ws ∧ ws.all flatV = true
  | [], _, _, e, r => by cases e; cases r; exact ⟨rfl, rfl⟩
  | d :: ds, _, _, e, r => by
    obtain ⟨v, r', rfl, h1, h2⟩ := r
    unfold fvs at e
    obtain ⟨p, e1, e2⟩ := Option.bind_eq_some_iff.mp e
    obtain ⟨ps, e3, rfl⟩ := Option.map_eq_some_iff.mp e2
    obtain ⟨rfl, f1⟩ := fv_of e1 h1
    obtain ⟨rfl, f2⟩ := fvs_of e3 h2
    exact ⟨rfl, by rw [List.all_cons, f1, f2]; rfl⟩
/-- among flat items; one sign in a text -/
def opInG (neg : Bool) : R2D := fun x y S R => match y with
  | .str z => (match x with
    | .str w => ∃ n, w = ⟨#[n]⟩ ∧ R (.bl (if neg then !decide (n ∈ z.cps.toList) else decide (n ∈ z.cps.toList))) S
    | _ => False)
  | _ => sqD S y fun ds => ∃ v vs, fv x = some v ∧ fvs ds = some vs ∧ R (.bl (if neg then !inV v vs else inV v vs)) S
theorem opInG_of {neg : Bool} {K : PySem.W.Frag} {H : Hp} {S : Sto} {x y : D} {v u : V} {R : QD} {Q : VK} (hS : RS K H S) (rx : rv K H S x v) (ry : rv K H S y u) (r : opInG neg x y S R) (bR : bE K H S R Q) :
    (∃ (c : Nat) (z : Str), v = .str ⟨#[c]⟩ ∧ u = .str z ∧ Q (.bl (if neg then !decide (c ∈ z.cps.toList) else decide (c ∈ z.cps.toList))) H) ∨ rIn K neg v u H Q := by
  have sq : (sqD S y fun ds => ∃ v vs, fv x = some v ∧ fvs ds = some vs ∧ R (.bl (if neg then !inV v vs else inV v vs)) S) → rIn K neg v u H Q := fun h => by
    obtain ⟨ds, p, vs, rfl, hp, q, v', vs', e1, e2, h⟩ := sqD_of hS h ry
    obtain ⟨rfl, f1⟩ := fv_of e1 rx
    obtain ⟨rfl, f2⟩ := fvs_of e2 q
    exact ⟨p, vs, rfl, hp.elim (fun z => .inl (SqL.of z)) (fun z => .inr (SqT.of z)), f1, f2, bR _ S h H _ (Ext.refl _ _) hS rfl⟩
  cases y with
  | str z => cases x with
    | str w =>
      cases rx; cases ry
      obtain ⟨n, rfl, h⟩ := r
      exact .inl ⟨n, z, rfl, rfl, bR _ S h H _ (Ext.refl _ _) hS rfl⟩
    | _ => exact r.elim
  | _ => exact .inr (sq r)
def opIn : R2D := opInG false
def opNotIn : R2D := opInG true
theorem opd_in : OpR X (compareOp .In) (upR X.K opIn) := by
  refine OpR_imp (op_in_sign.or op_in_seq) fun v u H Q h => ?_
  obtain ⟨x, y, S, R, hS, rx, ry, r, bR⟩ := h
  exact opInG_of (neg := false) hS rx ry r bR
theorem opd_notIn : OpR X (compareOp .NotIn) (upR X.K opNotIn) := by
  refine OpR_imp (op_notIn_sign.or op_notIn_seq) fun v u H Q h => ?_
  obtain ⟨x, y, S, R, hS, rx, ry, r, bR⟩ := h
  exact opInG_of (neg := true) hS rx ry r bR

/-! ### argument lists, displays -/
def dNil : TAD := fun _ S R _ => R [] S
def dCons (t : TED) (ts : TAD) : TAD := fun ρ S R E => t ρ S (fun x S1 => ts ρ S1 (fun xs S2 => R (x :: xs) S2) E) E
theorem pad_nil : PAD X W [] dNil := by
  refine PA_imp pa_nil fun σ H Q h => ?_
  obtain ⟨ρ, S, R, E, hS, hρ, ht, bR, bx⟩ := h
  exact bR [] S ht H [] (Ext.refl _ _) hS rfl
theorem pad_cons (ha : PED X W e te) (hr : PAD X W es tas) (hs : starEach (e :: es) X.env = (false, eval e X.env) :: starEach es X.env := by rfl) : PAD X W (e :: es) (dCons te tas) := by
  refine PA_imp (pa_cons ha hr hs) fun σ H Q h => ?_
  obtain ⟨ρ, S, R, E, hS, hρ, ht, bR, bx⟩ := h
  refine ⟨ρ, S, _, E, hS, hρ, ht, fun x S1 r1 H1 v e1 s1 v1 => ?_, bx⟩
  refine ⟨ρ, S1, _, E, s1, e1.re hS hρ, r1, fun xs S2 r2 H2 vs e2 s2 v2 => ?_, bx.ext e1⟩
  exact bR _ S2 r2 H2 _ (e1.trans e2) s2 ⟨v, vs, rfl, e2.rv s1 x v v1, v2⟩
/-- a tuple; a list that nobody changes; one of the store -/
def dTup (t : TAD) : TED := fun ρ S R E => t ρ S (fun xs S1 => xs.length ≤ sizeLine ∧ R (.tup xs) S1) E
def dLst (t : TAD) : TED := fun ρ S R E => t ρ S (fun xs S1 => xs.length ≤ sizeLine ∧ R (.lst xs) S1) E
def dNew (t : TAD) : TED := fun ρ S R E => t ρ S (fun xs S1 => xs.length ≤ sizeLine ∧ ∀ p, S1 p = none → R (.ref p) (put S1 p (.lst xs))) E
theorem ped_tup {x1} (h : PAD X W es tas) : PED X W (.Tuple es x1 pos) (dTup tas) := by
  refine PE_imp (pe_tup h) fun σ H Q h => ?_
  obtain ⟨ρ, S, R, E, hS, hρ, ht, bR, bx⟩ := h
  refine ⟨ρ, S, _, E, hS, hρ, ht, fun xs S1 r1 H1 vs e1 s1 v1 => ⟨by rw [← v1.len]; exact r1.1, fun p hp => ?_⟩, bx⟩
  exact bR _ S1 r1.2 _ _ (e1.trans (Ext.new hp)) (s1.new hp) (rv.tup_new s1 hp v1)
theorem ped_lst (h : PAD X W es tas) : PED X W (.List es pos) (dLst tas) := by
  refine PE_imp (pe_lst h) fun σ H Q h => ?_
  obtain ⟨ρ, S, R, E, hS, hρ, ht, bR, bx⟩ := h
  refine ⟨ρ, S, _, E, hS, hρ, ht, fun xs S1 r1 H1 vs e1 s1 v1 => ⟨by rw [← v1.len]; exact r1.1, fun p hp => ?_⟩, bx⟩
  exact bR _ S1 r1.2 _ _ (e1.trans (Ext.new hp)) (s1.new hp) (rv.lst_new s1 hp v1)
theorem ped_new (h : PAD X W es tas) : PED X W (.List es pos) (dNew tas) := by
  refine PE_imp (pe_lst h) fun σ H Q h => ?_
  obtain ⟨ρ, S, R, E, hS, hρ, ht, bR, bx⟩ := h
  refine ⟨ρ, S, _, E, hS, hρ, ht, fun xs S1 r1 H1 vs e1 s1 v1 => ⟨by rw [← v1.len]; exact r1.1, fun p hp => ?_⟩, bx⟩
  have np : S1 p = none := s1.none_of hp
  have ex : Ext H1 S1 (upd H1 p (.lst vs)) (put S1 p (.lst xs)) := Ext.put (.inr hp)
  exact bR _ _ (r1.2 p np) _ _ (e1.trans ex) (s1.put (.inr hp) (by rw [np]; rfl) ⟨vs, upd_same, ex.rvs s1 _ _ v1⟩) rfl
/-- {} -/
theorem ped_dict0 : PED X W (.Dict [] [] pos) (dC (.dct [])) := by
  refine PE_imp pe_dnewK fun σ H Q h => ?_
  obtain ⟨ρ, S, R, E, hS, hρ, ht, bR, bx⟩ := h
  intro d hd
  exact bR _ S ht _ _ (Ext.new hd) (hS.new hd) ⟨d, rfl, upd_same, hS.none_of hd⟩

/-! ### list + list, a new one of the store -/
def opAddN : R2D := fun x y S R => lsD S x fun ds => lsD S y fun es => ds.length + es.length ≤ sizeLine ∧ ∀ p, S p = none → R (.ref p) (put S p (.lst (ds ++ es)))
theorem opd_addN : OpR X (binaryOp .Add) (upR X.K opAddN) := by
  refine OpR_imp op_cat fun v u H Q h => ?_
  obtain ⟨x, y, S, R, hS, rx, ry, h, bR⟩ := h
  obtain ⟨ds, a, vs, rfl, ha, qa, h⟩ := lsD_of hS h rx
  obtain ⟨es, b, ws, rfl, hb, qb, hl, h⟩ := lsD_of hS h ry
  refine ⟨a, b, vs, ws, rfl, rfl, ha, hb, ?_, fun p hp => ?_⟩
  · rw [← qa.len, ← qb.len]; exact hl
  · have np : S p = none := hS.none_of hp
    have ex : Ext H S (upd H p (.lst (vs ++ ws))) (put S p (.lst (ds ++ es))) := Ext.put (.inr hp)
    exact bR _ _ (h p np) _ _ ex (hS.put (.inr hp) (by rw [np]; rfl) ⟨_, upd_same, ex.rvs hS _ _ (qa.append qb)⟩) rfl
/-! ### subscripts, slices -/
def opIx : R2D := fun x y S R => match y with
  | .int i => (match x with
    | .str z => z.length ≤ sizeLine ∧ ∃ c, atI z.cps.toList i = some c ∧ R (.str ⟨#[c]⟩) S
    | _ => sqD S x fun ds => ∃ d, atI ds i = some d ∧ R d S)
  | _ => False
theorem atI_rvs {K : PySem.W.Frag} {H : Hp} {S : Sto} {ds : List D} {vs : List V} {i : Int} {d : D} (q : rvs K H S ds vs) (e : atI ds i = some d) : ∃ v, atI vs i = some v ∧ rv K H S d v := by
  unfold atI at e ⊢
  rw [← q.len]
  cases h : ixN ds.length i with
  | none => rw [h] at e; cases e
  | some j =>
    rw [h] at e
    exact q.get e
theorem ixd : IxR X (upR X.K opIx) := by
  have all : IxR X (rIx X.K) := ix_seq
  intro value slice pins s σ H x y v u Q I rx ry q hs
  refine all value slice pins s σ H x y v u Q I rx ry ?_ hs
  obtain ⟨d, f, S, R, hS, r1, r2, r, bR⟩ := q
  cases f with
  | int i =>
    cases r2
    have sq : (sqD S d fun ds => ∃ d, atI ds i = some d ∧ R d S) → rIx X.K x (.int i) H Q := fun h => by
      obtain ⟨ds, p, vs, rfl, hp, q, d', e, h⟩ := sqD_of hS h r1
      obtain ⟨w, e2, r2⟩ := atI_rvs q e
      have fin := bR _ S h H w (Ext.refl _ _) hS r2
      rcases hp with hp | hp
      · exact .inl ⟨p, vs, i, w, rfl, rfl, SqL.of hp, e2, fin⟩
      · exact .inr (.inl ⟨p, vs, i, w, rfl, rfl, SqT.of hp, e2, fin⟩)
    cases d with
    | str z =>
      cases r1
      obtain ⟨h1, c, e, h⟩ := r
      exact .inr (.inr ⟨z, i, c, rfl, rfl, h1, e, bR _ S h H _ (Ext.refl _ _) hS rfl⟩)
    | _ => exact sq r
  | _ => exact r.elim
theorem ped_ix (ha : PED X W a ta) (hb : PED X W b tb) (hs : PlainIx b := by intro _ _; rfl) : PED X W (.Subscript a b pos) (dOp opIx ta tb) :=
  PE_imp (pe_ix ixd ha hb hs) fun _ _ _ h => tOp_up h
abbrev TOD := DEnv → Sto → (Option Int → Sto → Prop) → XD → Prop
def bO (K : PySem.W.Frag) (H : Hp) (S : Sto) (R : Option Int → Sto → Prop) (Q : Option Int → Hp → Prop) : Prop := ∀ o S', R o S' → ∀ H', Ext H S H' S' → RS K H' S' → Q o H'
def upO (K : PySem.W.Frag) (W : WX) (t : TOD) : TO := fun σ H Q => ∃ ρ S R E, RS K H S ∧ re K H S ρ σ ∧ t ρ S R E ∧ bO K H S R Q ∧ bX K W σ H S E
abbrev POD (X : Cx) (W : WX) (e : Option Expr) (t : TOD) : Prop := PO X e (upO X.K W t)
def dNo : TOD := fun _ S R _ => R none S
def dPt (t : TED) : TOD := fun ρ S R E => t ρ S (fun x S1 => match x with | .int i => R (some i) S1 | _ => False) E
theorem PO_imp {X : Cx} {e : Option Expr} {t t' : TO} (p : PO X e t) (h : ∀ σ H Q, t' σ H Q → t σ H Q) : PO X e t' := ⟨fun pins s σ H Q I q => p.run pins s σ H Q I (h σ H Q q)⟩
theorem pod_none : POD X W none dNo := by
  refine PO_imp po_none fun σ H Q h => ?_
  obtain ⟨ρ, S, R, E, hS, hρ, ht, bR, bx⟩ := h
  exact bR _ S ht H (Ext.refl _ _) hS
theorem pod_some (h : PED X W e te) : POD X W (some e) (dPt te) := by
  refine PO_imp (po_some h) fun σ H Q h => ?_
  obtain ⟨ρ, S, R, E, hS, hρ, ht, bR, bx⟩ := h
  refine ⟨ρ, S, _, E, hS, hρ, ht, fun x S1 r1 H1 v e1 s1 v1 => ?_, bx⟩
  cases x with
  | int i => cases v1; exact ⟨i, rfl, bR _ S1 r1 H1 e1 s1⟩
  | _ => exact r1.elim
def cutD {α : Type} (xs : List α) (lo hi : Option Int) : List α := (xs.drop (HT.sIx xs.length 0 lo)).take (HT.sIx xs.length xs.length hi - HT.sIx xs.length 0 lo)
theorem rvs.cut {K : PySem.W.Frag} {H : Hp} {S : Sto} {ds : List D} {vs : List V} (q : rvs K H S ds vs) (lo hi : Option Int) : rvs K H S (cutD ds lo hi) (cutV vs lo hi) := by
  unfold cutD cutV
  rw [← q.len]
  exact (q.drop _).take _
theorem cutD_whole {α : Type} {xs : List α} {lo hi : Option Int} (h : HT.sIx xs.length 0 lo = 0 ∧ HT.sIx xs.length xs.length hi = xs.length) : cutD xs lo hi = xs := by
  unfold cutD
  rw [h.1, h.2]
  simp
def slD (x : D) (lo hi : Option Int) (S : Sto) (R : QD) : Prop := match x with
  | .str z => z.length ≤ sizeLine ∧ R (.str (cutS z lo hi)) S
  | .tup ds => R (.tup (cutD ds lo hi)) S
  | .scr ns => R (.lst ((cutD ns lo hi).map D.int)) S
  | _ => lsD S x fun ds => R (.lst (cutD ds lo hi)) S
def upSl (K : PySem.W.Frag) (r : D → Option Int → Option Int → Sto → QD → Prop) : V → Option Int → Option Int → Hp → VK → Prop := fun v lo hi H Q => ∃ x S R, RS K H S ∧ rv K H S x v ∧ r x lo hi S R ∧ bE K H S R Q
theorem cutV_map (ns : List Int) (lo hi : Option Int) : cutV (ns.map V.int) lo hi = (cutD ns lo hi).map V.int := by
  unfold cutV cutD
  rw [List.length_map, List.map_take, List.map_drop]
theorem scr_sq {K : PySem.W.Frag} {H : Hp} {a : Addr} {ns : List Int} (h : (∃ o : Obj, H a = some (.frz o (.lst (ns.map V.int)))) ∨ KL K a ns) : SqL K H a (ns.map V.int) := h.elim (fun ⟨o, z⟩ => .inl (.inr ⟨o, z⟩)) .inr
theorem SlR_imp {r r' : V → Option Int → Option Int → Hp → VK → Prop} (p : SlR X r) (h : ∀ x lo hi H Q, r' x lo hi H Q → r x lo hi H Q) : SlR X r' := fun pins s σ H x v vl vu lo hi sl Q I a b c d q => p pins s σ H x v vl vu lo hi sl Q I a b c d (h x lo hi H Q q)
theorem sld : SlR X (upSl X.K slD) := by
  refine SlR_imp ((sl_str.or sl_tupA).or sl_list) fun v lo hi H Q h => ?_
  obtain ⟨x, S, R, hS, rx, r, bR⟩ := h
  have ls : (lsD S x fun ds => R (.lst (cutD ds lo hi)) S) → rSlL X.K v lo hi H Q := fun h => by
    obtain ⟨ds, p, vs, rfl, hp, q, h⟩ := lsD_of hS h rx
    exact ⟨p, vs, rfl, SqL.of hp, fun n hn => bR _ S h _ _ (Ext.new hn) (hS.new hn) (rv.lst_new hS hn (q.cut lo hi))⟩
  cases x with
  | str z => cases rx; exact .inl (.inl ⟨z, rfl, r.1, bR _ S r.2 H _ (Ext.refl _ _) hS rfl⟩)
  | tup ds =>
    obtain ⟨p, vs, rfl, hp, q⟩ := rx
    refine .inl (.inr ⟨p, vs, rfl, SqT.of hp, fun hw => ?_, fun _ n hn => bR _ S r _ _ (Ext.new hn) (hS.new hn) (rv.tup_new hS hn (q.cut lo hi))⟩)
    have e : cutD ds lo hi = ds := cutD_whole (by rw [q.len]; exact hw)
    exact bR _ S r H _ (Ext.refl _ _) hS (by rw [e]; exact ⟨p, vs, rfl, hp, q⟩)
  | scr ns =>
    obtain ⟨p, rfl, hp⟩ := rx
    refine .inr ⟨p, _, rfl, scr_sq hp, fun n hn => bR _ S r _ _ (Ext.new hn) (hS.new hn) ?_⟩
    rw [cutV_map]
    exact rv.lst_new hS hn rvs.of_ints
  | _ => exact .inr (ls r)
def dSl (r : D → Option Int → Option Int → Sto → QD → Prop) (t : TED) (tl th : TOD) : TED := fun ρ S R E => t ρ S (fun x S1 => tl ρ S1 (fun l S2 => th ρ S2 (fun u S3 => r x l u S3 R) E) E) E
theorem ped_slice {lo hi : Option Expr} {tl th : TOD} {p2 : Pos} (he : PED X W e te) (hl : POD X W lo tl) (hu : POD X W hi th) : PED X W (.Subscript e (.Slice lo hi none p2) pos) (dSl slD te tl th) := by
  refine PE_imp (pe_slice sld he hl hu) fun σ H Q h => ?_
  obtain ⟨ρ, S, R, E, hS, hρ, ht, bR, bx⟩ := h
  refine ⟨ρ, S, _, E, hS, hρ, ht, fun x S1 r1 H1 v e1 s1 v1 => ?_, bx⟩
  refine ⟨ρ, S1, _, E, s1, e1.re hS hρ, r1, fun l S2 r2 H2 e2 s2 => ?_, bx.ext e1⟩
  have e12 := e1.trans e2
  refine ⟨ρ, S2, _, E, s2, e12.re hS hρ, r2, fun u S3 r3 H3 e3 s3 => ?_, bx.ext e12⟩
  exact ⟨x, S3, R, s3, (e2.trans e3).rv s1 x v v1, r3, bR.ext (e12.trans e3)⟩
end
end Dl
namespace Dl
open PySem PySem.Spec PyProof.Rows L2

section
variable {K : PySem.W.Frag} {W : WX} {H H1 : Hp} {S S1 : Sto} {σ : L2.St}
/-- behind a statement -/
def bN (K : PySem.W.Frag) (H : Hp) (S : Sto) (R : DEnv → Sto → Prop) (Q : L2.St → Hp → Prop) : Prop := ∀ ρ' S', R ρ' S' → ∀ σ' H', Ext H S H' S' → RS K H' S' → re K H' S' ρ' σ' → Q σ' H'
def bXN (K : PySem.W.Frag) (W : WX) (H : Hp) (S : Sto) (R : Exn → DEnv → Sto → Prop) : Prop := ∀ x ρ' S', R x ρ' S' → ∀ σ' H' cls d, Ext H S H' S' → RS K H' S' → re K H' S' ρ' σ' → rx K H' S' x cls d → W cls d σ' H'
theorem bN.ext {R : DEnv → Sto → Prop} {Q : L2.St → Hp → Prop} (b : bN K H S R Q) (x : Ext H S H1 S1) : bN K H1 S1 R Q := fun ρ' S' r σ' H' e => b ρ' S' r σ' H' (x.trans e)
theorem bXN.ext {R : Exn → DEnv → Sto → Prop} (b : bXN K W H S R) (x : Ext H S H1 S1) : bXN K W H1 S1 R := fun y ρ' S' r σ' H' c d e => b y ρ' S' r σ' H' c d (x.trans e)
theorem bXN.at {R : Exn → DEnv → Sto → Prop} {ρ : DEnv} (b : bXN K W H S R) (hS : RS K H S) (hρ : re K H S ρ σ) : bX K W σ H S (fun x S' => R x ρ S') := fun x S' r H' c d e s' z => b x ρ S' r σ H' c d e s' (e.re hS hρ) z
theorem upS_eq {t : TSD} {D : L2.Ends} : upS K W t D σ H ↔ ∃ ρ S R, RS K H S ∧ re K H S ρ σ ∧ t R ρ S ∧ bN K H S R.nx D.nx ∧ bE K H S R.rt D.rt ∧ bN K H S R.bk D.bk ∧ bN K H S R.ct D.ct ∧ bXN K W H S R.xc := Iff.rfl
end

section
variable {X : Cx} {W : WX} {a b c e o : Expr} {es rest : List Expr} {st : Stmt} {sts sts2 : List Stmt} {pos : Pos} {ta tb tc te to : TED} {tas tbs : TAD} {tt : TTD} {t u : TSD}
/-! ### blocks -/
def sNext : TSD := fun D ρ S => D.nx ρ S
def sSeq (t u : TSD) : TSD := fun D ρ S => t { D with nx := u D } ρ S
theorem pssd_nil : PSsD X W [] sNext := PSs_imp pss_nil fun D σ H h => by
  obtain ⟨ρ, S, R, hS, hρ, ht, b1, b2, b3, b4, b5⟩ := upS_eq.mp h
  exact b1 ρ S ht σ H (Ext.refl _ _) hS hρ
theorem pssd_cons (h1 : PSD X W st t) (h2 : PSsD X W sts u) : PSsD X W (st :: sts) (sSeq t u) := PSs_imp (pss_cons h1 h2) fun D σ H h => by
  obtain ⟨ρ, S, R, hS, hρ, ht, b1, b2, b3, b4, b5⟩ := upS_eq.mp h
  refine upS_eq.mpr ⟨ρ, S, { R with nx := u R }, hS, hρ, ht, fun ρ1 S1 r1 σ1 H1 e1 s1 v1 => ?_, b2, b3, b4, b5⟩
  exact upS_eq.mpr ⟨ρ1, S1, R, s1, v1, r1, b1.ext e1, b2.ext e1, b3.ext e1, b4.ext e1, b5.ext e1⟩
theorem pssd_one (h1 : PSD X W st t) : PSsD X W [st] t := pss_one h1
def sBreak : TSD := fun D ρ S => D.bk ρ S
def sCont : TSD := fun D ρ S => D.ct ρ S
theorem psd_pass : PSD X W (.Pass pos) sNext := PS_imp ps_pass fun D σ H h => by
  obtain ⟨ρ, S, R, hS, hρ, ht, b1, b2, b3, b4, b5⟩ := upS_eq.mp h
  exact b1 ρ S ht σ H (Ext.refl _ _) hS hρ
theorem psd_break : PSD X W (.Break pos) sBreak := PS_imp ps_break fun D σ H h => by
  obtain ⟨ρ, S, R, hS, hρ, ht, b1, b2, b3, b4, b5⟩ := upS_eq.mp h
  exact b3 ρ S ht σ H (Ext.refl _ _) hS hρ
theorem psd_continue : PSD X W (.Continue pos) sCont := PS_imp ps_continue fun D σ H h => by
  obtain ⟨ρ, S, R, hS, hρ, ht, b1, b2, b3, b4, b5⟩ := upS_eq.mp h
  exact b4 ρ S ht σ H (Ext.refl _ _) hS hρ
def sDrop (te : TED) : TSD := fun D ρ S => te ρ S (fun _ S1 => D.nx ρ S1) (fun x S1 => D.xc x ρ S1)
theorem psd_expr (he : PED X W e te) (hs : swapsWith e none pos.line X.env = pure false := by rfl) : PSD X W (.Expr e pos) (sDrop te) := PS_imp (ps_expr he hs) fun D σ H h => by
  obtain ⟨ρ, S, R, hS, hρ, ht, b1, b2, b3, b4, b5⟩ := upS_eq.mp h
  exact ⟨ρ, S, _, _, hS, hρ, ht, fun x S1 r1 H1 v e1 s1 v1 => b1 ρ S1 r1 σ H1 e1 s1 (e1.re hS hρ), b5.at hS hρ⟩
def sRet (te : TED) : TSD := fun D ρ S => te ρ S D.rt (fun x S1 => D.xc x ρ S1)
theorem psd_ret (he : PED X W e te) : PSD X W (.Return (some e) pos) (sRet te) := PS_imp (ps_ret he) fun D σ H h => by
  obtain ⟨ρ, S, R, hS, hρ, ht, b1, b2, b3, b4, b5⟩ := upS_eq.mp h
  exact ⟨ρ, S, _, _, hS, hρ, ht, b2, b5.at hS hρ⟩
def sRetN : TSD := fun D _ S => D.rt .non S
theorem psd_retN : PSD X W (.Return none pos) sRetN := PS_imp ps_retN fun D σ H h => by
  obtain ⟨ρ, S, R, hS, hρ, ht, b1, b2, b3, b4, b5⟩ := upS_eq.mp h
  exact b2 _ S ht H _ (Ext.refl _ _) hS rfl
def sIf (c : TTD) (t u : TSD) : TSD := fun D ρ S => c ρ S (fun b S1 => if b = true then t D ρ S1 else u D ρ S1) (fun x S1 => D.xc x ρ S1)
theorem psd_if (hc : PTD X W c tt) (ha : PSsD X W sts t) (hb : PSsD X W sts2 u) : PSD X W (.If c sts sts2 pos) (sIf tt t u) := PS_imp (ps_if hc ha hb) fun D σ H h => by
  obtain ⟨ρ, S, R, hS, hρ, ht, b1, b2, b3, b4, b5⟩ := upS_eq.mp h
  refine ⟨ρ, S, _, _, hS, hρ, ht, fun k S1 r1 H1 e1 s1 => ?_, b5.at hS hρ⟩
  cases k with
  | true =>
    rw [if_pos rfl] at r1 ⊢
    exact upS_eq.mpr ⟨ρ, S1, R, s1, e1.re hS hρ, r1, b1.ext e1, b2.ext e1, b3.ext e1, b4.ext e1, b5.ext e1⟩
  | false =>
    rw [if_neg Bool.false_ne_true] at r1 ⊢
    exact upS_eq.mpr ⟨ρ, S1, R, s1, e1.re hS hρ, r1, b1.ext e1, b2.ext e1, b3.ext e1, b4.ext e1, b5.ext e1⟩
/-! ### targets -/
abbrev TGD := D → DEnv → Sto → (DEnv → Sto → Prop) → (Exn → DEnv → Sto → Prop) → Prop
abbrev TGsD := List D → DEnv → Sto → (DEnv → Sto → Prop) → (Exn → DEnv → Sto → Prop) → Prop
def upG (K : PySem.W.Frag) (W : WX) (t : TGD) : TG := fun v σ H Q => ∃ d ρ S R E, RS K H S ∧ re K H S ρ σ ∧ rv K H S d v ∧ t d ρ S R E ∧ bN K H S R Q ∧ bXN K W H S E
def upGs (K : PySem.W.Frag) (W : WX) (t : TGsD) : TGs := fun vs σ H Q => ∃ ds ρ S R E, RS K H S ∧ re K H S ρ σ ∧ rvs K H S ds vs ∧ t ds ρ S R E ∧ bN K H S R Q ∧ bXN K W H S E
abbrev PGD (X : Cx) (W : WX) (e : Expr) (t : TGD) : Prop := PG X e (upG X.K W t)
abbrev PGsD (X : Cx) (W : WX) (es : List Expr) (t : TGsD) : Prop := PGs X es (upGs X.K W t)
theorem PG_imp {X : Cx} {e : Expr} {t t' : TG} (p : PG X e t) (h : ∀ v σ H Q, t' v σ H Q → t v σ H Q) : PG X e t' := ⟨fun pins s σ H v u Q I r q => p.run pins s σ H v u Q I r (h v σ H Q q)⟩
theorem PGs_imp {X : Cx} {e : List Expr} {t t' : TGs} (p : PGs X e t) (h : ∀ v σ H Q, t' v σ H Q → t v σ H Q) : PGs X e t' := ⟨fun pins s σ H v u Q I r q => p.run pins s σ H v u Q I r (h v σ H Q q)⟩
variable {tg : TGD} {tgs : TGsD}
def gN (i : Nat) : TGD := fun d ρ S Q _ => Q (ρ.set i (some d)) S
theorem pgd_name {i : Nat} {x : Str} (hN : X.N.Nodup) (hi : X.N[i]? = some x) (hx : Loc X.env.scope x) (hf : X.fn x = true ∨ X.env.scope.names.lookup x = some .local := by first | exact .inl rfl | exact .inr rfl | assumption) : PGD X W (.Name x pos) (gN i) :=
  PG_imp (pg_name hN hi hx hf) fun v σ H Q h => by
    obtain ⟨d, ρ, S, R, E, hS, hρ, rd, ht, b1, b2⟩ := h
    exact b1 _ S ht _ H (Ext.refl _ _) hS (hρ.set rd i)
theorem pgd (i : Nat) (hN : X.N.Nodup) {x : Str} (hi : X.N[i]? = some x := by rfl) (hx : Loc X.env.scope x := by first | exact Or.inl rfl | exact Or.inr rfl) (hf : X.fn x = true ∨ X.env.scope.names.lookup x = some .local := by first | exact .inl rfl | exact .inr rfl | assumption) : PGD X W (.Name x pos) (gN i) := pgd_name hN hi hx hf
def gNil' : TGsD := fun ds ρ S Q _ => ds = [] ∧ Q ρ S
def gCons' (t : TGD) (u : TGsD) : TGsD := fun ds ρ S Q E => match ds with
  | [] => False
  | d :: r => t d ρ S (fun ρ1 S1 => u r ρ1 S1 Q E) E
theorem pgsd_nil : PGsD X W [] gNil' := PGs_imp pgs_nil fun v σ H Q h => by
  obtain ⟨d, ρ, S, R, E, hS, hρ, rd, ⟨e1, ht⟩, b1, b2⟩ := h
  subst e1
  cases rd
  exact ⟨rfl, b1 _ S ht _ H (Ext.refl _ _) hS hρ⟩
theorem pgsd_cons (h1 : PGD X W e tg) (h2 : PGsD X W es tgs) (hs : (assignEach (e :: es) X.env).map (·.2) = assign e X.env :: (assignEach es X.env).map (·.2) := by rfl) : PGsD X W (e :: es) (gCons' tg tgs) :=
  PGs_imp (pgs_cons h1 h2 hs) fun v σ H Q h => by
    obtain ⟨ds, ρ, S, R, E, hS, hρ, rd, ht, b1, b2⟩ := h
    cases ds with
    | nil => exact ht.elim
    | cons d r =>
      obtain ⟨w, ws, rfl, r1, r2⟩ := rd
      refine ⟨w, ws, rfl, d, ρ, S, _, E, hS, hρ, r1, ht, fun ρ1 S1 q1 σ1 H1 e1 s1 v1 => ?_, b2⟩
      exact ⟨r, ρ1, S1, R, E, s1, v1, e1.rvs hS _ _ r2, q1, b1.ext e1, b2.ext e1⟩
/-- a, b, .. = a tuple -/
def gTupD (n : Nat) (t : TGsD) : TGD := fun d ρ S Q E => match d with
  | .tup ds => ds.length = n ∧ t ds ρ S Q E
  | _ => False
theorem pgd_tup {k n : Nat} (hc : X.calm = true) (h : PGsD X W es tgs) (hn : (assignEach es X.env).length = n := by rfl) (hst : (assignEach es X.env).findIdx? (·.1) = none := by rfl) : PGD X W (.Tuple es k pos) (gTupD n tgs) :=
  PG_imp (pg_tup hc h hn hst) fun v σ H Q h => by
    obtain ⟨d, ρ, S, R, E, hS, hρ, rd, ht, b1, b2⟩ := h
    cases d with
    | tup ds =>
      obtain ⟨hl, ht⟩ := ht
      obtain ⟨a, vs, rfl, ha, q⟩ := rd
      exact ⟨a, vs, rfl, SqT.of ha, by rw [← q.len]; exact hl, ds, ρ, S, R, E, hS, hρ, q, ht, b1, b2⟩
    | _ => exact ht.elim
/-- .. = a list -/
def gLstD (n : Nat) (t : TGsD) : TGD := fun d ρ S Q E => lsD S d fun ds => ds.length = n ∧ t ds ρ S Q E
theorem pgd_lst {k n : Nat} (hc : X.calm = true) (h : PGsD X W es tgs) (hn : (assignEach es X.env).length = n := by rfl) (hst : (assignEach es X.env).findIdx? (·.1) = none := by rfl) : PGD X W (.Tuple es k pos) (gLstD n tgs) :=
  PG_imp (pg_lst hc h hn hst) fun v σ H Q h => by
    obtain ⟨d, ρ, S, R, E, hS, hρ, rd, ht, b1, b2⟩ := h
    obtain ⟨ds, a, vs, rfl, ha, q, hl, ht⟩ := lsD_of hS ht rd
    exact ⟨a, vs, rfl, SqL.of ha, by rw [← q.len]; exact hl, ds, ρ, S, R, E, hS, hρ, q, ht, b1, b2⟩
def sAsg (te : TED) (g : TGD) : TSD := fun D ρ S => te ρ S (fun x S1 => g x ρ S1 D.nx D.xc) (fun x S1 => D.xc x ρ S1)
theorem psd_asg {tgt : Expr} (he : PED X W e te) (hg : PGD X W tgt tg) (hs : swapsWithSole [tgt] e pos.line X.env = pure false := by rfl) (hw : swappedStores [tgt] e X.env = pure none := by rfl)
    (h1 : (assignEach [tgt] X.env).map (·.2) = [assign tgt X.env] := by rfl) : PSD X W (.Assign [tgt] e pos) (sAsg te tg) := PS_imp (ps_asg he hg hs hw h1) fun D σ H h => by
  obtain ⟨ρ, S, R, hS, hρ, ht, b1, b2, b3, b4, b5⟩ := upS_eq.mp h
  refine ⟨ρ, S, _, _, hS, hρ, ht, fun x S1 r1 H1 v e1 s1 v1 => ?_, b5.at hS hρ⟩
  exact ⟨x, ρ, S1, _, _, s1, e1.re hS hρ, v1, r1, b1.ext e1, b5.ext e1⟩
def sSet (i : Nat) (te : TED) : TSD := fun D ρ S => te ρ S (fun x S1 => D.nx (ρ.set i (some x)) S1) (fun x S1 => D.xc x ρ S1)
theorem psd_set {x : Str} {pos' : Pos} (i : Nat) (hN : X.N.Nodup) (he : PED X W e te) (hi : X.N[i]? = some x := by rfl) (hx : Loc X.env.scope x := by first | exact Or.inl rfl | exact Or.inr rfl) (hs : swapsWith e (some (.Name x pos')) pos.line X.env = pure false := by rfl)
    (hf : X.fn x = true ∨ X.env.scope.names.lookup x = some .local := by first | exact .inl rfl | exact .inr rfl | assumption) : PSD X W (.Assign [.Name x pos'] e pos) (sSet i te) := by
  refine PS_imp (ps_set hN hi hx he hs hf) fun D σ H h => ?_
  obtain ⟨ρ, S, R, hS, hρ, ht, b1, b2, b3, b4, b5⟩ := upS_eq.mp h
  refine ⟨ρ, S, _, _, hS, hρ, ht, fun x S1 r1 H1 v e1 s1 v1 => ?_, b5.at hS hρ⟩
  exact b1 _ S1 r1 _ H1 e1 s1 ((e1.re hS hρ).set v1 i)
/-- a, b = x, y with local names -/
def sPar (i j : Nat) (tas : TAD) : TSD := fun D ρ S => tas ρ S (fun ds S1 => match ds with
  | [x, y] => D.nx ((ρ.set i (some x)).set j (some y)) S1
  | _ => False) (fun x S1 => D.xc x ρ S1)
theorem psd_par {x y : Str} {px py pt : Pos} {kt k2 pt2} (i j : Nat) (hc : X.calm = true) (hN : X.N.Nodup) (ha : PAD X W [a, b] tas) (hi : X.N[i]? = some x := by rfl) (hj : X.N[j]? = some y := by rfl) (hij : i ≠ j := by decide)
    (hx : X.env.scope.names.lookup x = some .local := by rfl) (hy : X.env.scope.names.lookup y = some .local := by rfl)
    (hw : swappedStores [.Tuple [.Name x px, .Name y py] kt pt] (.Tuple [a, b] k2 pt2) X.env = pure (some [x, y]) := by rfl)
    (hs : swapsWithSole [.Tuple [.Name x px, .Name y py] kt pt] (.Tuple [a, b] k2 pt2) pos.line X.env = pure false := by rfl) :
    PSD X W (.Assign [.Tuple [.Name x px, .Name y py] kt pt] (.Tuple [a, b] k2 pt2) pos) (sPar i j tas) := by
  refine PS_imp (ps_par hc hN hi hj hij hx hy ha hw hs) fun D σ H h => ?_
  obtain ⟨ρ, S, R, hS, hρ, ht, b1, b2, b3, b4, b5⟩ := upS_eq.mp h
  refine ⟨ρ, S, _, _, hS, hρ, ht, fun ds S1 r1 H1 vs e1 s1 v1 => ?_, b5.at hS hρ⟩
  match ds, v1, r1 with
  | [x, y], v1, r1 =>
    obtain ⟨v, r, rfl, q1, w, r', rfl, q2, rfl⟩ := v1
    exact ⟨v, w, rfl, b1 _ S1 r1 _ H1 e1 s1 (((e1.re hS hρ).set q1 i).set q2 j)⟩
/-- x op= e -/
def sAug (i : Nat) (r : R2D) (te : TED) : TSD := fun D ρ S => ∃ x, ρ[i]? = some (some x) ∧ te ρ S (fun y S1 => r x y S1 fun z S2 => D.nx (ρ.set i (some z)) S2) (fun x S1 => D.xc x ρ S1)
theorem psd_aug {op : Operator} {r : R2D} {x : Str} {pos' : Pos} (i : Nat) (hN : X.N.Nodup) (ho : OpR X (inplaceOp op) (upR X.K r)) (he : PED X W e te) (hi : X.N[i]? = some x := by rfl) (hx : Loc X.env.scope x := by first | exact Or.inl rfl | exact Or.inr rfl)
    (hf : X.fn x = true ∨ X.env.scope.names.lookup x = some .local := by first | exact .inl rfl | exact .inr rfl | assumption) : PSD X W (.AugAssign (.Name x pos') op e pos) (sAug i r te) := by
  refine PS_imp (ps_aug hN hi hx he ho hf) fun D σ H h => ?_
  obtain ⟨ρ, S, R, hS, hρ, ⟨x, ex, ht⟩, b1, b2, b3, b4, b5⟩ := upS_eq.mp h
  obtain ⟨v, ev, rx⟩ := hρ.get ex
  refine ⟨v, ev, ρ, S, _, _, hS, hρ, ht, fun y S1 r1 H1 w e1 s1 v1 => ?_, b5.at hS hρ⟩
  refine ⟨x, y, S1, _, s1, e1.rv hS _ _ rx, v1, r1, fun z S2 r2 H2 u e2 s2 v2 => ?_⟩
  exact b1 _ S2 r2 _ H2 (e1.trans e2) s2 (((e1.trans e2).re hS hρ).set v2 i)
theorem iopd_add : OpR X (inplaceOp .Add) (upR X.K (opInt (fun _ _ => True) fun i j => .int (i + j))) := opd_int (rI_of iop_add) fun _ _ _ _ => rfl

/-! ### calls -/
abbrev SpD := List D → Sto → QD → XD → Prop
def upSp (K : PySem.W.Frag) (sp : SpD) : Sp := fun vs H Q E => ∃ ds S R EE, RS K H S ∧ rvs K H S ds vs ∧ sp ds S R EE ∧ bE K H S R Q ∧ ∀ x S', EE x S' → ∀ H' cls d, Ext H S H' S' → RS K H' S' → rx K H' S' x cls d → E cls d H'
/-- a def keeps its promise (where no repr is under way) -/
structure FnD (P : Program) (w : World) (K : PySem.W.Frag) (mg : Str → Option Value) (base : Heap) (k : Nat) (f : Addr) (fd : FuncData) (ps : List Str) (sp : SpD) : Prop where
  len : ∀ ds S R E, sp ds S R E → ds.length = ps.length
  run : ∀ (A : Around) (outer : List PySem.Env) (s : Shared) (H : Hp) (args : Args) (us : List Value) (vs : List V) (Q : VK) (E : XK), Room k A → A.guards = some [] → Env0 P w K mg base A outer s H → BindsTo s fd args (ps.zip us) → Vals vs us → upSp K sp vs H Q E →
    codeAny (model P w) A (.call (.ref f) args) (CR (L2.CX P w) outer P w H s Q E) s
theorem FnD.lenV {P : Program} {w : World} {K : PySem.W.Frag} {mg : Str → Option Value} {base : Heap} {k : Nat} {f : Addr} {fd : FuncData} {ps : List Str} {sp : SpD} (F : FnD P w K mg base k f fd ps sp) {vs : List V} {H : Hp} {Q : VK} {E : XK} (h : upSp K sp vs H Q E) : vs.length = ps.length := by
  obtain ⟨ds, S, R, EE, _, q, hsp, _⟩ := h
  rw [← q.len]; exact F.len _ _ _ _ hsp
theorem FnD.imp {P : Program} {w : World} {K : PySem.W.Frag} {mg : Str → Option Value} {base : Heap} {k : Nat} {f : Addr} {fd : FuncData} {ps : List Str} {sp sp' : SpD} (F : FnD P w K mg base k f fd ps sp) (h : ∀ ds S R E, sp' ds S R E → sp ds S R E) : FnD P w K mg base k f fd ps sp' :=
  ⟨fun ds S R E q => F.len ds S R E (h _ _ _ _ q), fun A outer s H args us vs Q E hr hg e0 hb r ⟨ds, S, R, EE, a, b, c, d⟩ => F.run A outer s H args us vs Q E hr hg e0 hb r ⟨ds, S, R, EE, a, b, h _ _ _ _ c, d⟩⟩
theorem FnD.mono {P : Program} {w : World} {K : PySem.W.Frag} {mg : Str → Option Value} {base : Heap} {j k : Nat} {f : Addr} {fd : FuncData} {ps : List Str} {sp : SpD} (F : FnD P w K mg base j f fd ps sp) (h : j ≤ k) : FnD P w K mg base k f fd ps sp :=
  ⟨F.len, fun A outer s H args us vs Q E hr => F.run A outer s H args us vs Q E (hr.mono h)⟩
theorem run_fnG {X : Cx} {W : WX} {k : Nat} {f : Addr} {fd : FuncData} {ps : List Str} {sp : SpD} {pins : List (Addr × Obj)} {σ : L2.St} {H : Hp} {s : Shared} {Q : VK} {us : List Value} {vs : List V} (F : FnD X.prog X.w X.K X.mg X.base k f fd ps sp) (hr : Room k X.A) (hgd : X.A.guards = some []) (hb : Binds X.K fd ps [])
    (tk : Takes X W) (I : Inv X pins σ H s) (r : Vals vs us) (h : upSp X.K sp vs H Q (WE W σ)) : wpAny (model X.prog X.w) X.A (call (.ref f) us) (EP X pins σ Q) X.xe s := by
  have hl : (us ++ []).length = ps.length := by rw [List.append_nil, ← r.length]; exact F.lenV h
  have hb' := hb s us I.kIn hl
  rw [List.append_nil] at hb'
  refine wpAny_call (codeAny_mono (F.run X.A X.stack s H ⟨us, []⟩ us vs Q (WE W σ) hr hgd I.env0 hb' r h) fun r s' hq => ?_)
  cases r with
  | error e => exact passAt tk σ pins H s e s' I hq
  | ok fl =>
    cases fl with
    | ret u => exact I.after hq
    | next => exact False.elim hq
    | brk => exact False.elim hq
    | cont => exact False.elim hq
theorem pe_callG {X : Cx} {W : WX} {k : Nat} {f : Addr} {fd : FuncData} {ps : List Str} {sp : SpD} {x : Str} {p pos : Pos} {e : Expr} {es : List Expr} {t : TA} (F : FnD X.prog X.w X.K X.mg X.base k f fd ps sp) (hr : Room k X.A) (hgd : X.A.guards = some []) (hg : Gl X x) (hm : X.mg x = some (.ref f)) (hk : PySem.W.keepIn X.K (.ref f) = true) (hb : Binds X.K fd ps []) (tk : Takes X W)
    (ha : PA X (e :: es) t) (hdb : (x == ("__debug__" : Str)) = false := by decide) (he : starEach (e :: es) X.env = (false, eval e X.env) :: starEach es X.env := by rfl) (hpl : (backTo pos (starEach es X.env)).any (·.1) = false := by rfl) :
    PE X (.Call (.Name x p) (e :: es) [] pos) (tCallS (upSp X.K sp) (WE W) t) := by
  refine ⟨fun pins s σ H Q I h => ?_⟩
  refine wpAny_Call_Name_kw (ld_glob I hg hm ?_ hdb)
  refine PySem.W.callWith_K (h₀ := X.base) I.ok.mod.kin hk (thn (ha.run pos pins s σ H _ I h) fun us s1 ⟨vs, H1, I1, r, q⟩ => ⟨I1.kIn, ?_⟩) he hpl
  exact run_fnG F hr hgd hb tk I1 r q
def dCall (sp : SpD) (tas : TAD) : TED := fun ρ S R E => tas ρ S (fun ds S1 => sp ds S1 R E) E
theorem upSp_of {sp : SpD} {K : PySem.W.Frag} {H : Hp} {S : Sto} {Q : VK} {R : QD} {E : XD} {ds : List D} {vs : List V} {σ : L2.St} (s : RS K H S) (q : rvs K H S ds vs) (h : sp ds S R E) (b1 : bE K H S R Q) (b2 : bX K W σ H S E) : upSp K sp vs H Q (WE W σ) :=
  ⟨ds, S, R, E, s, q, h, b1, b2⟩
section
variable {k : Nat} {f : Addr} {fd : FuncData} {ps : List Str} {sp : SpD} {x m : Str} {p apos : Pos}
theorem ped_call (F : FnD X.prog X.w X.K X.mg X.base k f fd ps sp) (hr : Room k X.A) (hgd : X.A.guards = some []) (tk : Takes X W) (hm : X.mg x = some (.ref f)) (hk : PySem.W.keepIn X.K (.ref f) = true) (hb : Binds X.K fd ps []) (ha : PAD X W (e :: es) tas) (hg : Gl X x := by rfl)
    (hdb : (x == ("__debug__" : Str)) = false := by decide) (he : starEach (e :: es) X.env = (false, eval e X.env) :: starEach es X.env := by rfl) (hpl : (backTo pos (starEach es X.env)).any (·.1) = false := by rfl) :
    PED X W (.Call (.Name x p) (e :: es) [] pos) (dCall sp tas) := by
  refine PE_imp (pe_callG F hr hgd hg hm hk hb tk ha hdb he hpl) fun σ H Q h => ?_
  obtain ⟨ρ, S, R, E, hS, hρ, ht, bR, bx⟩ := h
  exact ⟨ρ, S, _, E, hS, hρ, ht, fun ds S1 r1 H1 vs e1 s1 v1 => upSp_of s1 v1 r1 (bR.ext e1) (bx.ext e1), bx⟩
end
end

/-! ### a def by its body -/
/-- the store forgets -/
def Sub (S S' : Sto) : Prop := (∀ b o, S b = some o → S' b = some o ∨ ∃ v n n', o = .draw v n ∧ S' b = some (.draw v n') ∧ n' ≤ n) ∧ ∀ c b, S' c = some (.part b) → S b ≠ none → S c = some (.part b)
theorem Sub.refl (S : Sto) : Sub S S := ⟨fun _ _ h => .inl h, fun _ _ h _ => h⟩
theorem Sub.none {S S' : Sto} (u : Sub S S') {a : Addr} (h : S' a = none) : S a = none := by
  cases e : S a with
  | none => rfl
  | some o => rcases u.1 a o e with q | ⟨v, n, n', _, q, _⟩ <;> rw [h] at q <;> cases q
/-- what S' bears, S bears too -/
def Wk (K : PySem.W.Frag) (S S' : Sto) : Prop := (∀ H, RS K H S' → RS K H S) ∧ ∀ a, S' a = none → S a = none
section
variable {K : PySem.W.Frag} {H H' : Hp} {S S' S'' : Sto}
theorem Ext.ofNone (u : ∀ a, S' a = none → S'' a = none) : Ext H S' H S'' := fun a o h n f => ⟨h, u a n⟩
theorem RS.sub (R : RS K H S') (u : Sub S'' S') : RS K H S'' := fun a o e => by
  have go : ∀ o', S' a = some o' → (o' = o ∨ ∃ v n n', o = .draw v n ∧ o' = .draw v n' ∧ n' ≤ n) → ro K H S'' a o := fun o' e1 c => by
    have q := R a o' e1
    have there : S'' a ≠ Option.none := by rw [e]; exact fun z => nomatch z
    have ls : Ext H S' H S'' := Ext.ofNone fun _ => u.none
    cases o' with
    | lst ds =>
      rcases c with rfl | ⟨v, n, n', _, z, _⟩
      · obtain ⟨vs, h1, r⟩ := q; exact ⟨vs, h1, ls.rvs R ds vs r⟩
      · cases z
    | ins C ks ds =>
      rcases c with rfl | ⟨v, n, n', _, z, _⟩
      · obtain ⟨dx, vs, h1, l, r⟩ := q; exact ⟨dx, vs, h1, l, ls.rvs R ds vs r⟩
      · cases z
    | part b =>
      rcases c with rfl | ⟨v, n, n', _, z, _⟩
      · exact q
      · cases z
    | hst C ks l0 l1 l2 w more =>
      rcases c with rfl | ⟨v, n, n', _, z, _⟩
      · obtain ⟨dx, s, t, e, v0, v1, v2, vw, vm, h, hl, ⟨s1, s2, s3⟩, ne, hh, ⟨r1, r2, r3⟩, rw', rm⟩ := q
        exact ⟨dx, s, t, e, v0, v1, v2, vw, vm, h, hl, ⟨u.2 s a s1 there, u.2 t a s2 there, u.2 e a s3 there⟩, ne, hh, ⟨ls.rvs R _ _ r1, ls.rvs R _ _ r2, ls.rvs R _ _ r3⟩, ls.rv R _ _ rw', ls.rvs R _ _ rm⟩
      · cases z
    | draw v m =>
      have hm : ∃ m', o = .draw v m' ∧ m ≤ m' := by
        rcases c with rfl | ⟨v', n, n', e3, z, hn⟩
        · exact ⟨m, rfl, Nat.le_refl _⟩
        · cases z; exact ⟨n, e3, hn⟩
      obtain ⟨m', rfl, hmm⟩ := hm
      cases v with
      | false =>
        obtain ⟨c, cells, n, h1, sc, hc, n0, n1, r⟩ := q
        exact ⟨c, cells, n, h1, u.2 c a sc there, hc, n0, by omega, r⟩
      | true =>
        obtain ⟨c, r, cells, rests, n, h1, sc, sr, ne, hc, hr, n0, n1, z⟩ := q
        exact ⟨c, r, cells, rests, n, h1, u.2 c a sc there, u.2 r a sr there, ne, hc, hr, n0, by omega, z⟩
  rcases u.1 a o e with q | ⟨v, n, n', e1, q, hn⟩
  · exact go o q (.inl rfl)
  · exact go _ q (.inr ⟨v, n, n', e1, rfl, hn⟩)
theorem Sub.wk (u : Sub S S') : Wk K S S' := ⟨fun H R => R.sub u, fun _ => u.none⟩
theorem Wk.refl (S : Sto) : Wk K S S := ⟨fun _ R => R, fun _ h => h⟩
theorem Wk.trans (a : Wk K S S') (b : Wk K S' S'') : Wk K S S'' := ⟨fun H R => a.1 H (b.1 H R), fun x h => a.2 x (b.2 x h)⟩
theorem Ext.sub (x : Ext H S H' S') (u : Wk K S'' S') : Ext H S H' S'' := fun a o h n f => let ⟨h1, n1⟩ := x a o h n f; ⟨h1, u.2 _ n1⟩
theorem Ext.less (u : Wk K S'' S') : Ext H S' H S'' := (Ext.refl H S').sub u
end
/-- a list of the store is handed on as one that nobody changes any more -/
def Frz (S' S'' : Sto) (d d' : D) : Prop := d' = d ∨ ∃ a ds, d = .ref a ∧ S' a = some (.lst ds) ∧ S'' a = none ∧ d' = .lst ds
def fin (K : PySem.W.Frag) (R : QD) : QD := fun d S' => ∃ S'' d', Wk K S'' S' ∧ Frz S' S'' d d' ∧ R d' S''
theorem fin_same {K : PySem.W.Frag} {R : QD} {d : D} {S : Sto} (h : R d S) : fin K R d S := ⟨S, d, Wk.refl S, .inl rfl, h⟩
theorem fin_wk {K : PySem.W.Frag} {R : QD} {d : D} {S S' : Sto} (u : Wk K S S') (h : R d S) : fin K R d S' := ⟨S, d, u, .inl rfl, h⟩
theorem fin_sub {K : PySem.W.Frag} {R : QD} {d : D} {S S' : Sto} (u : Sub S S') (h : R d S) : fin K R d S' := ⟨S, d, u.wk, .inl rfl, h⟩
def startD (N : List Str) (ds : List D) : DEnv := ds.map some ++ List.replicate (N.length - ds.length) none
def endsF (K : PySem.W.Frag) (R : QD) (E : XD) : DEnds := { nx := fun _ S' => fin K R .non S', rt := fin K R, bk := fun _ _ => False, ct := fun _ _ => False, xc := fun x _ S' => ∃ S'', Wk K S'' S' ∧ E x S'' }
theorem rv.fin {K : PySem.W.Frag} {H : Hp} {S' S'' : Sto} {d d' : D} {v : V} (hS : RS K H S') (u : Wk K S'' S') (f : Frz S' S'' d d') (r : rv K H S' d v) : rv K H S'' d' v := by
  rcases f with rfl | ⟨a, ds, rfl, h1, h2, rfl⟩
  · exact (Ext.less u).rv hS _ v r
  · cases r
    obtain ⟨vs, e, q⟩ := hS a _ h1
    exact ⟨a, vs, rfl, e, h2, (Ext.less u).rvs hS _ _ q⟩
theorem re_start {K : PySem.W.Frag} {H : Hp} {S : Sto} {N : List Str} {ds : List D} {vs : List V} (q : rvs K H S ds vs) : re K H S (startD N ds) (L2.start N vs) := by
  have rep : ∀ n : Nat, re K H S (List.replicate n none) (List.replicate n none) := fun n => by
    induction n with
    | zero => rfl
    | succ n ih => exact ⟨none, _, rfl, (fun d e => nomatch e), ih⟩
  have go : ∀ (ds : List D) (vs : List V) (ρ : DEnv) (σ : L2.St), rvs K H S ds vs → re K H S ρ σ → re K H S (ds.map some ++ ρ) (vs.map some ++ σ) := by
    intro ds
    induction ds with
    | nil => intro vs ρ σ q z; cases q; exact z
    | cons d ds ih =>
      intro vs ρ σ q z
      obtain ⟨v, r, rfl, h1, h2⟩ := q
      exact ⟨some v, _, rfl, (fun d' e => by cases e; exact ⟨v, rfl, h1⟩), ih r ρ σ h2 z⟩
  unfold startD L2.start
  rw [q.len]
  exact go ds vs _ _ q (rep _)
section
variable {P : Program} {w : World} {K : PySem.W.Frag} {mg : Str → Option Value} {base : Heap} {x qual : Str} {st : Stmt} {dvs : List V} {kws : List (Str × V)} {f : Addr} {fd : FuncData} {N ps : List Str} {k : Nat} {sp : SpD}
abbrev WF (E : XK) : WX := fun cls d _ H => E cls d H
/-- THE RULE for a def -/
theorem fnDO (F : FunD K x qual (defArgs st) (defBody st) (defScope st) dvs kws f fd) (Sc : FnScope N ps (defScope st)) (len : ∀ ds S R E, sp ds S R E → ds.length = ps.length) (tB : TSD)
    (hb : ∀ (cdv : Value) (A : Around) (outer : List PySem.Env) (s : Shared) (H : Hp) (E : XK), Room k (A.deeper (envOfC qual (defScope st) s.heap.objs.size f cdv)) → A.guards = some [] →
      Takes (cxOf (L2.CX P w) P w K mg base N qual (defScope st) f cdv A outer s H E) (WF E) →
      PSsD (cxOf (L2.CX P w) P w K mg base N qual (defScope st) f cdv A outer s H E) (WF E) (defBody st) tB)
    (pure : ∀ H ds S R E, RS K H S → sp ds S R E → ∃ S2, RS K H S2 ∧ (∀ a, S a = none → S2 a = none) ∧ tB (endsF K R E) (startD N ds) S2) : FnD P w K mg base (k + 1) f fd ps sp := by
  obtain ⟨oc, od, dV, kV, doc, pm, an, cdv, ct, osl, rfl, lk, hcd, _, _⟩ := F.ex
  refine ⟨len, fun A outer s H args us vs Q E hr hg e0 hbd r hsp => ?_⟩
  have hl : vs.length = ps.length := by
    obtain ⟨ds, S, R, EE, _, q, z, _⟩ := hsp
    rw [← q.len]; exact len _ _ _ _ z
  have KX : K.In s.heap := e0.mod.kin.keeps fun b o e => (e0.bs b o e).1
  have lim : s.heap.NoLimit := e0.mod.nolimit.keeps fun b o e => (e0.bs b o e).1
  have hkind : ∀ y ∈ ps.zip us, (defScope st).names.lookup y.1 = some .local ∨ ((defScope st).names.lookup y.1 = some .cell ∧ ((cellsFrom (s.heap.objs.size + 1) (defScope st).names []).lookup y.1).isSome = true) := fun ⟨n, v⟩ hy => by
    rcases Sc.par n (List.of_mem_zip hy).1 with q | q
    · exact .inl q
    · exact .inr ⟨q, PySem.W.cellsFrom_some _ _ _ (.inl q)⟩
  refine codeAny_call_function hr.depth (KX _ _ lk) rfl Sc.co Sc.gen rfl (PySem.W.codeRec_of KX hcd) (hbd _ _ _ _ ?_)
  refine wpAny_newFunctionEnv_cells Sc.kind hkind fun env he s1 x => ?_
  subst he
  refine ⟨lim.keeps x.toInCall.keep, codeAny_func ?_⟩
  have ht := hb cdv A outer s H E (hr.deeper _) hg (takes_of rfl rfl rfl rfl)
  have I : Inv (cxOf (L2.CX P w) P w K mg base N qual (defScope st) f cdv A outer s H E) [] (L2.start N vs) H s1 := inv_start Sc hr.hd e0 hl r x
  have hq : upS K (WF E) tB { nx := fun _ H' => Q .non H', rt := Q } (L2.start N vs) H := by
    obtain ⟨ds, S, R, EE, hS, q, hsp, bR, bx⟩ := hsp
    obtain ⟨S2, hS2, n2, ht2⟩ := pure H ds S R EE hS hsp
    have e2 : Ext H S H S2 := Ext.ofNone n2
    refine upS_eq.mpr ⟨startD N ds, S2, endsF K R EE, hS2, re_start (e2.rvs hS _ _ q), ht2, ?_, ?_, (fun _ _ z => z.elim), (fun _ _ z => z.elim), ?_⟩
    · intro ρ' S' r σ' H' e s' _
      obtain ⟨S'', d', u, fz, r⟩ := r
      exact bR d' S'' r H' _ ((e2.trans e).sub u) (u.1 _ s') (rv.fin s' u fz rfl)
    · intro d S' r H' v e s' v1
      obtain ⟨S'', d', u, fz, r⟩ := r
      exact bR d' S'' r H' _ ((e2.trans e).sub u) (u.1 _ s') (rv.fin s' u fz v1)
    · intro y ρ' S' r σ' H' cls d e s' _ rxx
      obtain ⟨S'', u, r⟩ := r
      refine bx y S'' r H' cls d ((e2.trans e).sub u) (u.1 _ s') ?_
      obtain ⟨e1, h⟩ := rxx
      refine ⟨e1, ?_⟩
      rcases h with h | ⟨b, vs, h1, h2, h3, h4⟩
      · exact .inl h
      · exact .inr ⟨b, vs, h1, h2, h3, (Ext.less u).rvs s' _ _ h4⟩
  refine wpAny_mono (ht.run [] s1 (L2.start N vs) H _ I hq) (fun fl s' hs => ?_) fun e s' hs => hs
  have fin : ∀ {σ' : L2.St} {H' : Hp} {v : V} {u : Value}, Inv (cxOf (L2.CX P w) P w K mg base N qual (defScope st) f cdv A outer s H E) [] σ' H' s' → RelV v u → Q v H' → CE outer P w H s Q u s' :=
    fun {σ' H' v u} J rv q => ⟨v, H', J.os, J.bare, J.base, J.hok, rv, q⟩
  cases fl with
  | ret u =>
    obtain ⟨v, σ', H', J, rv, q⟩ := hs
    exact fin J rv q
  | next =>
    obtain ⟨σ', H', J, q⟩ := hs
    exact fin (v := V.non) (u := Value.none) J rfl q
  | brk =>
    obtain ⟨_, _, _, q⟩ := hs
    exact False.elim q
  | cont =>
    obtain ⟨_, _, _, q⟩ := hs
    exact False.elim q
theorem fnD (F : FunD K x qual (defArgs st) (defBody st) (defScope st) dvs kws f fd) (Sc : FnScope N ps (defScope st)) (len : ∀ ds S R E, sp ds S R E → ds.length = ps.length) (tB : TSD)
    (hb : ∀ (cdv : Value) (A : Around) (outer : List PySem.Env) (s : Shared) (H : Hp) (E : XK), Room k (A.deeper (envOfC qual (defScope st) s.heap.objs.size f cdv)) → A.guards = some [] →
      Takes (cxOf (L2.CX P w) P w K mg base N qual (defScope st) f cdv A outer s H E) (WF E) →
      PSsD (cxOf (L2.CX P w) P w K mg base N qual (defScope st) f cdv A outer s H E) (WF E) (defBody st) tB)
    (pure : ∀ ds S R E, sp ds S R E → tB (endsF K R E) (startD N ds) S) : FnD P w K mg base (k + 1) f fd ps sp :=
  fnDO F Sc len tB hb fun H ds S R E hS h => ⟨S, hS, fun _ n => n, pure ds S R E h⟩
end
end Dl
namespace Dl
open PySem PySem.Spec PyProof.Rows L2

/-! ### what is walked: its items -/
abbrev TID := DEnv → Sto → (List D → (Sto → Prop) → Sto → Prop) → XD → Prop
/-- the iterator J gives the items ds, as long as keep stands -/
def JOk (K : PySem.W.Frag) (J : It) (ds : List D) (keep : Sto → Prop) (H0 : Hp) (S0 : Sto) : Prop := ∀ H S, Ext H0 S0 H S → RS K H S → keep S →
  (∀ i, i < ds.length → J.go i H) ∧ J.stop ds.length H ∧ ∀ i d, ds[i]? = some d → ∀ x H', J.yld i H x H' → Ext H S H' S ∧ RS K H' S ∧ rv K H' S d x
def upI (K : PySem.W.Frag) (W : WX) (t : TID) : TI := fun σ H Q => ∃ ρ S R E, RS K H S ∧ re K H S ρ σ ∧ t ρ S R E ∧ bX K W σ H S E ∧
  ∀ ds keep S', R ds keep S' → ∀ H', Ext H S H' S' → RS K H' S' → ∀ J, JOk K J ds keep H' S' → Q J H'
abbrev PID (X : Cx) (W : WX) (tg iter : Expr) (t : TID) : Prop := PI X tg iter (upI X.K W t)
theorem PI_imp {X : Cx} {tg e : Expr} {t t' : TI} (p : PI X tg e t) (h : ∀ σ H Q, t' σ H Q → t σ H Q) : PI X tg e t' := ⟨fun pins s σ H Q I q => p.run pins s σ H Q I (h σ H Q q)⟩
section
variable {X : Cx} {W : WX} {tg a b c e l : Expr} {es : List Expr} {pos : Pos} {ta tb te tl : TED} {tas : TAD} {tt : TTD}
def always : Sto → Prop := fun _ => True
/-- a list -/
def iLs (t : TED) : TID := fun ρ S R E => t ρ S (fun x S1 => match x with
  | .lst ds => R ds always S1
  | .ref a => (match S1 a with
    | some (.lst ds) => R ds (fun S => S a = some (.lst ds)) S1
    | _ => False)
  | _ => False) E
theorem jok_list {K : PySem.W.Frag} {H0 : Hp} {S0 : Sto} {a : Addr} {ds : List D} {keep : Sto → Prop} (h : ∀ H S, Ext H0 S0 H S → RS K H S → keep S → ∃ vs, H a = some (.lst vs) ∧ rvs K H S ds vs) : JOk K (Itl K a) ds keep H0 S0 := fun H S e s k => by
  obtain ⟨vs, ha, q⟩ := h H S e s k
  refine ⟨fun i hi => ?_, ⟨vs, SqL.of ha, by rw [q.len]; exact Nat.le_refl _⟩, fun i d hd x H' y => ?_⟩
  · obtain ⟨d, hd⟩ : ∃ d, ds[i]? = some d := ⟨_, List.getElem?_eq_getElem hi⟩
    obtain ⟨v, hv, _⟩ := q.get hd
    exact ⟨vs, v, SqL.of ha, hv⟩
  · obtain ⟨rfl, y2⟩ := y
    obtain ⟨v, hv, r⟩ := q.get hd
    have e2 := y2 vs (SqL.of ha)
    rw [hv] at e2; cases e2
    exact ⟨Ext.refl _ _, s, r⟩
theorem pid_list (hl : PED X W l tl) : PID X W tg l (iLs tl) := by
  refine PI_imp (pi_list hl) fun σ H Q h => ?_
  obtain ⟨ρ, S, R, E, hS, hρ, ht, bx, bQ⟩ := h
  refine ⟨ρ, S, _, E, hS, hρ, ht, fun x S1 r1 H1 v e1 s1 v1 => ?_, bx⟩
  cases x with
  | lst ds =>
    have v1' := v1
    obtain ⟨p, vs, rfl, hp, _, q⟩ := v1
    refine ⟨p, rfl, ⟨vs, SqL.of hp⟩, bQ ds always S1 r1 H1 e1 s1 _ (jok_list fun H' S' e s _ => ?_)⟩
    obtain ⟨p', vs', e1', h2, _, q2⟩ := e.rv s1 _ _ v1'
    cases e1'
    exact ⟨vs', h2, q2⟩
  | ref p =>
    cases v1
    cases hp : S1 p with
    | none => simp only [hp] at r1
    | some o =>
      cases o with
      | lst ds =>
        simp only [hp] at r1
        obtain ⟨vs, h1, q⟩ := s1 p _ hp
        exact ⟨p, rfl, ⟨vs, SqL.of h1⟩, bQ ds _ S1 r1 H1 e1 s1 _ (jok_list fun H' S' e s k => s p _ k)⟩
      | _ => simp only [hp] at r1
  | _ => exact r1.elim
/-- a tuple -/
def iTp (t : TED) : TID := fun ρ S R E => t ρ S (fun x S1 => match x with
  | .tup ds => R ds always S1
  | _ => False) E
theorem pid_tup (hl : PED X W l tl) : PID X W tg l (iTp tl) := by
  refine PI_imp (pi_tup hl) fun σ H Q h => ?_
  obtain ⟨ρ, S, R, E, hS, hρ, ht, bx, bQ⟩ := h
  refine ⟨ρ, S, _, E, hS, hρ, ht, fun x S1 r1 H1 v e1 s1 v1 => ?_, bx⟩
  cases x with
  | tup ds =>
    have v1' := v1
    obtain ⟨p, vs, rfl, hp, q⟩ := v1
    refine ⟨p, rfl, ⟨vs, SqT.of hp⟩, bQ ds always S1 r1 H1 e1 s1 _ fun H' S' e s _ => ?_⟩
    obtain ⟨p', vs', e1', h2, q2⟩ := e.rv s1 _ _ v1'
    cases e1'
    refine ⟨fun i hi => ?_, ⟨vs', SqT.of h2, by rw [q2.len]; exact Nat.le_refl _⟩, fun i d hd x H' y => ?_⟩
    · obtain ⟨d, hd⟩ : ∃ d, ds[i]? = some d := ⟨_, List.getElem?_eq_getElem hi⟩
      obtain ⟨v, hv, _⟩ := q2.get hd
      exact ⟨vs', v, SqT.of h2, hv⟩
    · obtain ⟨rfl, y2⟩ := y
      obtain ⟨v, hv, r⟩ := q2.get hd
      have e2 := y2 vs' (SqT.of h2)
      rw [hv] at e2; cases e2
      exact ⟨Ext.refl _ _, s, r⟩
  | _ => exact r1.elim
/-- ranges -/
def upto (lo : Int) (n : Nat) : List D := (List.range n).map fun i => .int (lo + (i : Nat))
theorem upto_length (lo : Int) (n : Nat) : (upto lo n).length = n := by unfold upto; simp
theorem upto_get {lo : Int} {n i : Nat} {d : D} (h : (upto lo n)[i]? = some d) : i < n ∧ d = .int (lo + (i : Nat)) := by
  unfold upto at h
  rw [List.getElem?_map] at h
  cases e : (List.range n)[i]? with
  | none => rw [e] at h; cases h
  | some j =>
    rw [e] at h
    have lt : i < n := by
      have := (List.getElem?_eq_some_iff.mp e).1
      simpa using this
    have ej : i = j := by simpa [List.getElem?_range, lt] using e
    subst ej
    exact ⟨lt, (Option.some.inj h).symm⟩
theorem jok_range {K : PySem.W.Frag} {H0 : Hp} {S0 : Sto} {lo : Int} {n : Nat} : JOk K (Itr lo n) (upto lo n) always H0 S0 := fun H S e s _ => by
  refine ⟨fun i hi => by rw [upto_length] at hi; exact hi, by rw [upto_length]; exact Nat.le_refl n, fun i d hd x H' y => ?_⟩
  obtain ⟨rfl, rfl⟩ := y
  obtain ⟨_, rfl⟩ := upto_get hd
  exact ⟨Ext.refl _ _, s, rfl⟩
def iR1 (t : TAD) : TID := fun ρ S R E => t ρ S (fun ds S1 => match ds with
  | [.int j] => (-(2 ^ 62) ≤ j ∧ j < 2 ^ 62) ∧ R (upto 0 j.toNat) always S1
  | _ => False) E
def iR2 (t : TAD) : TID := fun ρ S R E => t ρ S (fun ds S1 => match ds with
  | [.int i, .int j] => (-(2 ^ 62) ≤ i ∧ i < 2 ^ 62 ∧ -(2 ^ 62) ≤ j ∧ j < 2 ^ 62) ∧ R (upto i (j - i).toNat) always S1
  | _ => False) E
theorem rvs.one {K : PySem.W.Frag} {H : Hp} {S : Sto} {d : D} {vs : List V} (q : rvs K H S [d] vs) : ∃ v, vs = [v] ∧ rv K H S d v := by
  obtain ⟨v, r, rfl, q1, rfl⟩ := q
  exact ⟨v, rfl, q1⟩
theorem rvs.two {K : PySem.W.Frag} {H : Hp} {S : Sto} {d e : D} {vs : List V} (q : rvs K H S [d, e] vs) : ∃ v u, vs = [v, u] ∧ rv K H S d v ∧ rv K H S e u := by
  obtain ⟨v, r, rfl, q1, u, r', rfl, q2, rfl⟩ := q
  exact ⟨v, u, rfl, q1, q2⟩
theorem pid_range1 {p : Pos} (hm : X.mg "range" = none) (ha : PAD X W [a] tas) (hg : Gl X "range" := by rfl) (hs : starEach [a] X.env = [(false, eval a X.env)] := by rfl) : PID X W tg (.Call (.Name "range" p) [a] [] pos) (iR1 tas) := by
  refine PI_imp (pi_range1 hg hm ha hs) fun σ H Q h => ?_
  obtain ⟨ρ, S, R, E, hS, hρ, ht, bx, bQ⟩ := h
  refine ⟨ρ, S, _, E, hS, hρ, ht, fun ds S1 r1 H1 vs e1 s1 v1 => ?_, bx⟩
  match ds, r1, v1 with
  | [.int j], r1, v1 =>
    obtain ⟨v, rfl, rfl⟩ := v1.one
    exact ⟨j, rfl, r1.1.1, r1.1.2, bQ _ _ S1 r1.2 H1 e1 s1 _ jok_range⟩
theorem pid_range2 {p : Pos} (hm : X.mg "range" = none) (ha : PAD X W [a, b] tas) (hg : Gl X "range" := by rfl) (hs : starEach [a, b] X.env = [(false, eval a X.env), (false, eval b X.env)] := by rfl) (hs2 : starEach [b] X.env = [(false, eval b X.env)] := by rfl) :
    PID X W tg (.Call (.Name "range" p) [a, b] [] pos) (iR2 tas) := by
  refine PI_imp (pi_range2 hg hm ha hs hs2) fun σ H Q h => ?_
  obtain ⟨ρ, S, R, E, hS, hρ, ht, bx, bQ⟩ := h
  refine ⟨ρ, S, _, E, hS, hρ, ht, fun ds S1 r1 H1 vs e1 s1 v1 => ?_, bx⟩
  match ds, r1, v1 with
  | [.int i, .int j], r1, v1 =>
    obtain ⟨v, u, rfl, rfl, rfl⟩ := v1.two
    exact ⟨i, j, rfl, r1.1, bQ _ _ S1 r1.2 H1 e1 s1 _ jok_range⟩
/-- the signs of a text -/
def iSt (t : TED) : TID := fun ρ S R E => t ρ S (fun x S1 => match x with
  | .str z => R (z.cps.toList.map fun c => .str ⟨#[c]⟩) always S1
  | _ => False) E
theorem pid_str (he : PED X W e te) : PID X W tg e (iSt te) := by
  refine PI_imp (pi_str he) fun σ H Q h => ?_
  obtain ⟨ρ, S, R, E, hS, hρ, ht, bx, bQ⟩ := h
  refine ⟨ρ, S, _, E, hS, hρ, ht, fun x S1 r1 H1 v e1 s1 v1 => ?_, bx⟩
  cases x with
  | str z =>
    cases v1
    refine ⟨z, rfl, bQ _ _ S1 r1 H1 e1 s1 _ fun H' S' e s _ => ⟨fun i hi => ?_, ?_, fun i d hd x H' y => ?_⟩⟩
    · show i < z.cps.size
      simpa using hi
    · show z.cps.size ≤ _
      simp
    · obtain ⟨rfl, c, hc, rfl⟩ := y
      have ed : d = .str ⟨#[c]⟩ := by
        rw [List.getElem?_map, Array.getElem?_toList, hc] at hd
        exact (Option.some.inj hd).symm
      subst ed
      exact ⟨Ext.refl _ _, s, rfl⟩
  | _ => exact r1.elim

/-! ### for -/
variable {body : List Stmt} {g : TGD} {t u : TSD} {c' : TTD}
def sFor (ti : TID) (g : TGD) (tb : TSD) : TSD := fun D ρ S => ti ρ S (fun ds keep S1 => ∃ Wd : Nat → DEnv → Sto → Prop, Wd 0 ρ S1 ∧ (∀ i ρ' S', Wd i ρ' S' → keep S') ∧
  (∀ i d ρ' S', ds[i]? = some d → Wd i ρ' S' → g d ρ' S' (fun ρ2 S2 => tb { D with nx := Wd (i + 1), ct := Wd (i + 1), bk := D.nx } ρ2 S2) D.xc) ∧
  (∀ ρ' S', Wd ds.length ρ' S' → D.nx ρ' S')) (fun x S1 => D.xc x ρ S1)
theorem psd_for {iter : Expr} {ti : TID} (hp : PassesOwn (model X.prog X.w) X.A X.env X.xe) (hc : X.calm = true) (hi : PID X W tg iter ti) (hg : PGD X W tg g) (hb : PSsD X W body t) (hs : ∀ x, foldedSetIterable iter X.env x = pure x := by intro _; rfl) :
    PSD X W (.For tg iter body [] pos) (sFor ti g t) := by
  refine PS_imp (ps_for hp hc hi hg hb hs) fun D σ H h => ?_
  obtain ⟨ρ, S, R, hS, hρ, ht, b1, b2, b3, b4, b5⟩ := upS_eq.mp h
  refine ⟨ρ, S, _, _, hS, hρ, ht, b5.at hS hρ, fun ds keep S1 r1 H1 e1 s1 J hJ => ?_⟩
  obtain ⟨Wd, w0, wk, wt, wd⟩ := r1
  refine ⟨fun i m σ' H' => i ≤ ds.length ∧ m = ds.length - i ∧ ∃ ρ' S', Ext H1 S1 H' S' ∧ RS X.K H' S' ∧ re X.K H' S' ρ' σ' ∧ Wd i ρ' S', ⟨_, Nat.zero_le _, rfl, ρ, S1, Ext.refl _ _, s1, e1.re hS hρ, w0⟩, ?_⟩
  rintro i m σ' H' ⟨hi, rfl, ρ', S', e', s', r', w'⟩
  obtain ⟨j1, j2, j3⟩ := hJ H' S' e' s' (wk _ _ _ w')
  have ex := e1.trans e'
  by_cases hl : i = ds.length
  · subst hl
    exact .inl ⟨j2, b1 ρ' S' (wd ρ' S' w') σ' H' ex s' r'⟩
  · have lt : i < ds.length := Nat.lt_of_le_of_ne hi hl
    refine .inr ⟨j1 i lt, fun σ2 H2 => ∃ ρ2 S2, Ext H1 S1 H2 S2 ∧ RS X.K H2 S2 ∧ re X.K H2 S2 ρ2 σ2 ∧ Wd (i + 1) ρ2 S2, ?_, fun x H2 y => ?_⟩
    · rintro σ2 H2 ⟨ρ2, S2, q1, q2, q3, q4⟩
      exact ⟨_, by omega, lt, rfl, ρ2, S2, q1, q2, q3, q4⟩
    · obtain ⟨d, hd⟩ : ∃ d, ds[i]? = some d := ⟨_, List.getElem?_eq_getElem lt⟩
      obtain ⟨y1, y2, y3⟩ := j3 i d hd x H2 y
      have ex2 := ex.trans y1
      refine ⟨d, ρ', S', _, _, y2, y1.re s' r', y3, wt i d ρ' S' hd w', fun ρ3 S3 r3 σ3 H3 e3 s3 v3 => ?_, b5.ext ex2⟩
      have ex3 := ex2.trans e3
      have ex13 := (e'.trans y1).trans e3
      refine upS_eq.mpr ⟨ρ3, S3, _, s3, v3, r3, ?_, b2.ext ex3, b1.ext ex3, ?_, b5.ext ex3⟩
      · intro ρ4 S4 r4 σ4 H4 e4 s4 v4
        exact ⟨ρ4, S4, ex13.trans e4, s4, v4, r4⟩
      · intro ρ4 S4 r4 σ4 H4 e4 s4 v4
        exact ⟨ρ4, S4, ex13.trans e4, s4, v4, r4⟩
/-- while: a word and a measure of the state -/
def sWhile (c : TTD) (tb : TSD) : TSD := fun D ρ S => ∃ (Wd : DEnv → Sto → Prop) (μ : DEnv → Sto → Nat), Wd ρ S ∧ ∀ ρ' S', Wd ρ' S' →
  c ρ' S' (fun k S1 => if k = true then tb { D with nx := fun ρ2 S2 => Wd ρ2 S2 ∧ μ ρ2 S2 < μ ρ' S', ct := fun ρ2 S2 => Wd ρ2 S2 ∧ μ ρ2 S2 < μ ρ' S', bk := D.nx } ρ' S1 else D.nx ρ' S1) (fun x S1 => D.xc x ρ' S1)
theorem psd_while {c : Expr} (hp : PassesOwn (model X.prog X.w) X.A X.env X.xe) (hc : PTD X W c c') (hb : PSsD X W body t) : PSD X W (.While c body [] pos) (sWhile c' t) := by
  refine PS_imp (ps_while hp hc hb) fun D σ H h => ?_
  obtain ⟨ρ, S, R, hS, hρ, ⟨Wd, μ, w0, wt⟩, b1, b2, b3, b4, b5⟩ := upS_eq.mp h
  refine ⟨fun m σ' H' => ∃ ρ' S', m = μ ρ' S' ∧ Ext H S H' S' ∧ RS X.K H' S' ∧ re X.K H' S' ρ' σ' ∧ Wd ρ' S', ⟨_, ρ, S, rfl, Ext.refl _ _, hS, hρ, w0⟩, ?_⟩
  rintro m σ' H' ⟨ρ', S', rfl, e', s', r', w'⟩
  refine ⟨ρ', S', _, _, s', r', wt ρ' S' w', fun k S1 r1 H1 e1 s1 => ?_, (b5.ext e').at s' r'⟩
  have ex := e'.trans e1
  cases k with
  | true =>
    rw [if_pos rfl] at r1
    refine iteT ⟨fun σ2 H2 => ∃ ρ2 S2, Ext H S H2 S2 ∧ RS X.K H2 S2 ∧ re X.K H2 S2 ρ2 σ2 ∧ Wd ρ2 S2 ∧ μ ρ2 S2 < μ ρ' S', ?_, ?_⟩
    · rintro σ2 H2 ⟨ρ2, S2, q1, q2, q3, q4, q5⟩
      exact ⟨_, q5, ρ2, S2, rfl, q1, q2, q3, q4⟩
    · refine upS_eq.mpr ⟨ρ', S1, _, s1, e1.re s' r', r1, ?_, b2.ext ex, b1.ext ex, ?_, b5.ext ex⟩
      · intro ρ4 S4 r4 σ4 H4 e4 s4 v4
        exact ⟨ρ4, S4, ex.trans e4, s4, v4, r4⟩
      · intro ρ4 S4 r4 σ4 H4 e4 s4 v4
        exact ⟨ρ4, S4, ex.trans e4, s4, v4, r4⟩
  | false =>
    rw [if_neg Bool.false_ne_true] at r1
    exact iteF (b1 ρ' S1 r1 σ' H1 ex s1 (e1.re s' r'))
end
end Dl
namespace Dl
open PySem PySem.Spec PyProof.Rows L2
section
variable {X : Cx} {W : WX} {o i : Expr} {pos : Pos} {to ti : TED}
/-- o[i] = .. : a list of the store -/
def subAt (x y d : D) (S : Sto) (Q : Sto → Prop) : Prop := match x with
  | .ref a => (match y with
    | .int k => (match S a with
      | some (.lst ds) => ∃ j, ixN ds.length k = some j ∧ Q (put S a (.lst (ds.set j d)))
      | _ => False)
    | _ => False)
  | _ => False
theorem subAt_of {x y d : D} {S : Sto} {Q : Sto → Prop} (h : subAt x y d S Q) : ∃ a k ds j, x = .ref a ∧ y = .int k ∧ S a = some (.lst ds) ∧ ixN ds.length k = some j ∧ Q (put S a (.lst (ds.set j d))) := by
  cases x with
  | ref a =>
    cases y with
    | int k =>
      unfold subAt at h
      cases hc : S a with
      | none => simp only [hc] at h
      | some ob =>
        cases ob with
        | lst ds =>
          simp only [hc] at h
          obtain ⟨j, hj, r⟩ := h
          exact ⟨a, k, ds, j, rfl, rfl, hc, hj, r⟩
        | _ => simp only [hc] at h
    | _ => exact h.elim
  | _ => exact h.elim
theorem subAt_in {a : Addr} {k : Int} {d : D} {S : Sto} {Q : Sto → Prop} {ds : List D} {j : Nat} (e : S a = some (.lst ds)) (hj : ixN ds.length k = some j) (q : Q (put S a (.lst (ds.set j d)))) : subAt (.ref a) (.int k) d S Q := by
  unfold subAt
  simp only [e]
  exact ⟨j, hj, q⟩
def gSubD (to ti : TED) : TGD := fun d ρ S Q E => to ρ S (fun x S1 => ti ρ S1 (fun y S2 => subAt x y d S2 fun S3 => Q ρ S3) (fun x S' => E x ρ S')) (fun x S' => E x ρ S')
theorem pgd_sub (ho : PED X W o to) (hi : PED X W i ti) (ha : ∀ v, assign (.Subscript o i pos) X.env v = (do
      let ov ← holding [v] (eval o X.env)
      let iv ← holding [v, ov] (eval i X.env)
      standAt pos
      holding [v, ov, iv] (setItem ov iv v)
      release [v, ov, iv] []) := by intro _; rfl) : PGD X W (.Subscript o i pos) (gSubD to ti) :=
  PG_imp (pg_sub ho hi set_list ha) fun v σ H Q h => by
    obtain ⟨d, ρ, S, R, E, hS, hρ, rd, ht, b1, b2⟩ := h
    refine ⟨ρ, S, _, _, hS, hρ, ht, fun x S1 r1 H1 w e1 s1 v1 => ?_, b2.at hS hρ⟩
    refine ⟨ρ, S1, _, _, s1, e1.re hS hρ, r1, fun y S2 r2 H2 u e2 s2 v2 => ?_, (b2.ext e1).at s1 (e1.re hS hρ)⟩
    have e12 := e1.trans e2
    obtain ⟨a, k, ds, j, rfl, rfl, hc, hj, r2⟩ := subAt_of r2
    cases v1
    cases v2
    obtain ⟨vs, hv, q⟩ := s2 a _ hc
    have c : S2 a ≠ none ∨ H2 a = none := .inl (by rw [hc]; exact fun z => nomatch z)
    have ex : Ext H2 S2 (upd H2 a (.lst (vs.set j v))) (put S2 a (.lst (ds.set j d))) := Ext.put c
    refine ⟨a, vs, k, j, rfl, rfl, hv, by rw [← q.len]; exact hj, b1 ρ _ r2 σ _ (e12.trans ex) (s2.put c (by rw [hc]; rfl) ⟨_, upd_same, ?_⟩) ((e12.trans ex).re hS hρ)⟩
    exact (ex.rvs s2 _ _ q).set (ex.rv s2 _ _ (e12.rv hS _ _ rd)) j
end
end Dl
namespace Dl
open PySem PySem.Spec PyProof.Rows L2

/-! ### slots forgotten -/
theorem wipe_get {σ : L2.St} {i : Nat} : ∀ {vs : List Nat}, (wipe σ vs)[i]? = if i ∈ vs then (if i < σ.length then some none else none) else σ[i]?
  | [] => by simp [wipe]
  | v :: vs => by
    unfold wipe
    by_cases hi : v = i
    · subst hi
      by_cases hv : v < σ.length
      · rw [List.getElem?_set_self (by rw [wipe_length]; exact hv)]; simp [hv]
      · rw [List.getElem?_eq_none (by simpa [wipe_length] using hv)]; simp [hv]
    · rw [List.getElem?_set_ne hi, wipe_get]
      have : (i = v) = False := by simp; exact fun e => hi e.symm
      simp [this]
theorem wipe_set {σ : L2.St} {vs : List Nat} {i : Nat} {w : Option V} (h : i ∈ vs) : wipe (σ.set i w) vs = wipe σ vs := by
  apply List.ext_getElem?
  intro j
  rw [wipe_get, wipe_get]
  by_cases hj : j ∈ vs
  · simp [hj]
  · have : i ≠ j := fun e => hj (e ▸ h)
    simp [hj, List.getElem?_set_ne this]
theorem wipe_wipe {σ : L2.St} {vs : List Nat} : wipe (wipe σ vs) vs = wipe σ vs := by
  apply List.ext_getElem?
  intro j
  rw [wipe_get, wipe_get]
  by_cases hj : j ∈ vs
  · simp [hj, wipe_length]
  · simp [hj, wipe_get]
def wipeD (ρ : DEnv) : List Nat → DEnv
  | [] => ρ
  | v :: vs => (wipeD ρ vs).set v none
theorem re.wipe {K : PySem.W.Frag} {H : Hp} {S : Sto} {ρ : DEnv} {σ : L2.St} (r : re K H S ρ σ) : ∀ vs : List Nat, re K H S (wipeD ρ vs) (wipe σ vs)
  | [] => r
  | v :: vs => (re.wipe r vs).unset v none

/-! ### the targets of a comprehension: a name, or names -/
structure Bnd where
  own : List (Str × Nat)
  g : PySem.W.Frag → TG
  bd : D → DEnv → Option DEnv
  ok : ∀ (K : PySem.W.Frag) (H : Hp) (S : Sto) (d : D) (v : V) (ρ ρ2 : DEnv) (σ : L2.St) (Q : L2.St → Hp → Prop), RS K H S → rv K H S d v → re K H S ρ σ → bd d (wipeD ρ (own.map (·.2))) = some ρ2 →
    (∀ σ2, L2.wipe σ2 (own.map (·.2)) = L2.wipe σ (own.map (·.2)) → re K H S ρ2 σ2 → Q σ2 H) → g K v (L2.wipe σ (own.map (·.2))) H Q
def bd1 (x : Str) (i : Nat) : Bnd where
  own := [(x, i)]
  g := fun _ => gName i
  bd := fun d ρ => some (ρ.set i (some d))
  ok := fun K H S d v ρ ρ2 σ Q hS r hρ e q => by
    cases e
    refine q _ ?_ ((hρ.wipe _).set r i)
    rw [wipe_set (by simp), wipe_wipe]
def bdf2 (i j : Nat) (d : D) (ρ : DEnv) : Option DEnv := match d with
  | .tup ds => (match ds with
    | a :: r => (match r with
      | b :: q => (match q with
        | [] => some ((ρ.set i (some a)).set j (some b))
        | _ => none)
      | _ => none)
    | _ => none)
  | _ => none
theorem bdf2_some {i j : Nat} {d : D} {ρ ρ2 : DEnv} (e : bdf2 i j d ρ = some ρ2) : ∃ a b, d = .tup [a, b] ∧ ρ2 = (ρ.set i (some a)).set j (some b) := by
  cases d with
  | tup ds =>
    cases ds with
    | nil => cases e
    | cons a r =>
      cases r with
      | nil => cases e
      | cons b q =>
        cases q with
        | nil => exact ⟨a, b, rfl, (Option.some.inj e).symm⟩
        | cons _ _ => cases e
  | _ => cases e
theorem bd2_ok (i j : Nat) (K : PySem.W.Frag) (H : Hp) (S : Sto) (d : D) (v : V) (ρ ρ2 : DEnv) (σ : L2.St) (Q : L2.St → Hp → Prop) (r : rv K H S d v) (hρ : re K H S ρ σ) (e : bdf2 i j d (wipeD ρ [i, j]) = some ρ2)
    (q : ∀ σ2, L2.wipe σ2 [i, j] = L2.wipe σ [i, j] → re K H S ρ2 σ2 → Q σ2 H) : gTup K 2 (gCons (gName i) (gCons (gName j) gNil)) v (L2.wipe σ [i, j]) H Q := by
  obtain ⟨a, b, rfl, rfl⟩ := bdf2_some e
  obtain ⟨p, vs, rfl, hp, w, r', rfl, q1, u, r'', rfl, q2, rfl⟩ := r
  have h1 : i ∈ [i, j] := List.mem_cons_self
  have h2 : j ∈ [i, j] := List.mem_cons_of_mem _ List.mem_cons_self
  refine ⟨p, _, rfl, SqT.of hp, rfl, w, _, rfl, u, _, rfl, rfl, q _ ?_ (((hρ.wipe _).set q1 i).set q2 j)⟩
  rw [wipe_set h2, wipe_set h1, wipe_wipe]
def bd2 (x y : Str) (i j : Nat) : Bnd where
  own := [(x, i), (y, j)]
  g := fun K => gTup K 2 (gCons (gName i) (gCons (gName j) gNil))
  bd := bdf2 i j
  ok := fun K H S d v ρ ρ2 σ Q _ r hρ e q => bd2_ok i j K H S d v ρ ρ2 σ Q r hρ e q

section
variable {X : Cx} {W : WX} {tg a b c e l elt iter : Expr} {ifs : List Expr} {es : List Expr} {pos : Pos} {ta tb te tl : TED} {tas : TAD} {tt : TTD} {ti : TID} {scope : Scope}
abbrev W0 : WX := fun _ _ _ _ => False
abbrev E0D : XD := fun _ _ => False
abbrev PTsD (X : Cx) (W : WX) (ifs : List Expr) (t : TTD) : Prop := PTs X ifs (upT X.K W t)
def dYes : TTD := fun _ S R _ => R true S
theorem PTs_imp {X : Cx} {e : List Expr} {t t' : TT} (p : PTs X e t) (h : ∀ σ H Q, t' σ H Q → t σ H Q) : PTs X e t' := ⟨fun pins s σ H Q I q => p.run pins s σ H Q I (h σ H Q q)⟩
theorem ptsd_nil : PTsD X W [] dYes := PTs_imp pts_nil fun σ H Q h => by
  obtain ⟨ρ, S, R, E, hS, hρ, ht, bR, _⟩ := h
  exact bR _ S ht H (Ext.refl _ _) hS
theorem ptsd_one (h : PTD X W c tt) : PTsD X W [c] tt := pts_one h

/-- what a comprehension asks -/
def LcAsks (B : Bnd) (tt : TTD) (te : TED) (ρ : DEnv) (ds : List D) (keep : Sto → Prop) (S1 : Sto) (R : QD) : Prop := ∃ Wd : Nat → List D → Sto → Prop, Wd 0 [] S1 ∧
  (∀ k acc S' p, Wd k acc S' → S' p = none → keep (put S' p (.lst acc))) ∧
  (∀ k d acc S' p, ds[k]? = some d → Wd k acc S' → S' p = none → ∃ ρ2, B.bd d (wipeD ρ (B.own.map (·.2))) = some ρ2 ∧ tt ρ2 (put S' p (.lst acc)) (fun b S3 =>
    if b = true then te ρ2 S3 (fun y S4 => acc.length < sizeLine ∧ ∃ S5, S4 = put S5 p (.lst acc) ∧ S5 p = none ∧ Wd (k + 1) (acc ++ [y]) S5) E0D
    else ∃ S5, S3 = put S5 p (.lst acc) ∧ S5 p = none ∧ Wd (k + 1) acc S5) E0D) ∧
  (∀ acc S', Wd ds.length acc S' → R (.lst acc) S')
def dLc (ti : TID) (B : Bnd) (tt : TTD) (te : TED) : TED := fun ρ S R E => ti ρ S (fun ds keep S1 => LcAsks B tt te ρ ds keep S1 R) E
theorem sub_put {S : Sto} {p : Addr} {ds : List D} (h : S p = none) : Sub S (put S p (.lst ds)) := ⟨fun b o e => .inl (by
  have ne : b ≠ p := fun z => by rw [z, h] at e; cases e
  rw [put_ne ne]; exact e), fun c b e _ => by
    by_cases hc : c = p
    · subst hc; rw [put_same] at e; cases e
    · rw [put_ne hc] at e; exact e⟩
theorem tLc_up {B : Bnd} {σ : L2.St} {H : Hp} {Q : VK} (h : upE X.K W (dLc ti B tt te) σ H Q) : tLc (upI X.K W ti) (B.g X.K) (upT X.K W0 tt) (upE X.K W0 te) (B.own.map (·.2)) σ H Q := by
  obtain ⟨ρ, S, R, E, hS, hρ, ht, bR, bx⟩ := h
  refine ⟨ρ, S, _, _, hS, hρ, ht, bx, fun ds keep S1 r1 H1 e1 s1 J hJ => ?_⟩
  obtain ⟨Wd, w0, wk, wt, wd⟩ := r1
  intro Dd hD
  have n1 : S1 Dd = none := s1.none_of hD
  refine ⟨fun k m H' => k ≤ ds.length ∧ m = ds.length - k ∧ ∃ acc S', Wd k acc S' ∧ S' Dd = none ∧ RS X.K H' (put S' Dd (.lst acc)) ∧ Ext H1 S1 H' (put S' Dd (.lst acc)),
    ⟨_, Nat.zero_le _, rfl, [], S1, w0, n1, s1.put (.inr hD) (by rw [n1]; rfl) ⟨[], upd_same, rfl⟩, Ext.put (.inr hD)⟩, ?_⟩
  rintro k m H' ⟨hk, rfl, acc, S', w', n', s', e'⟩
  obtain ⟨j1, j2, j3⟩ := hJ H' _ e' s' (wk _ _ _ _ w' n')
  by_cases hl : k = ds.length
  · subst hl
    refine .inl ⟨j2, ?_⟩
    have sb := sub_put (ds := acc) n'
    obtain ⟨vs, hv, q⟩ := s' Dd _ put_same
    exact bR _ S' (wd acc S' w') H' _ (e1.trans (e'.sub (sb.wk (K := X.K)))) (s'.sub sb) ⟨Dd, vs, rfl, hv, n', (Ext.less (sb.wk (K := X.K))).rvs s' _ _ q⟩
  · have lt : k < ds.length := Nat.lt_of_le_of_ne hk hl
    refine .inr ⟨j1 k lt, fun H2 => ∃ acc2 S2, Wd (k + 1) acc2 S2 ∧ S2 Dd = none ∧ RS X.K H2 (put S2 Dd (.lst acc2)) ∧ Ext H1 S1 H2 (put S2 Dd (.lst acc2)), ?_, fun x H2 y => ?_⟩
    · rintro H2 ⟨acc2, S2, q1, q2, q3, q4⟩
      exact ⟨_, by omega, lt, rfl, acc2, S2, q1, q2, q3, q4⟩
    · obtain ⟨d, hd⟩ : ∃ d, ds[k]? = some d := ⟨_, List.getElem?_eq_getElem lt⟩
      obtain ⟨y1, y2, y3⟩ := j3 k d hd x H2 y
      obtain ⟨ρ2, eb, ht2⟩ := wt k d acc S' Dd hd w' n'
      have ex2 := e'.trans y1
      refine B.ok X.K H2 _ d x ρ ρ2 σ _ y2 y3 ((e1.trans ex2).re hS hρ) eb fun σ2 hw hρ2 => ⟨hw, ρ2, _, _, _, y2, hρ2, ht2, fun b S3 r3 H3 e3 s3 => ?_, fun _ _ z => z.elim⟩
      cases b with
      | true =>
        rw [if_pos rfl] at r3
        refine iteT ⟨ρ2, S3, _, _, s3, e3.re y2 hρ2, r3, fun yv S4 r4 H4 v e4 s4 v4 => ?_, fun _ _ z => z.elim⟩
        obtain ⟨hz, S5, rfl, n5, w5⟩ := r4
        obtain ⟨vs, hv, q⟩ := s4 Dd _ put_same
        have px : S5 Dd = none := n5
        refine ⟨vs, hv, by rw [← q.len]; exact hz, acc ++ [yv], S5, w5, n5, ?_, ?_⟩
        · have e5 : Ext H4 (put S5 Dd (.lst acc)) (upd H4 Dd (.lst (vs ++ [v]))) (put (put S5 Dd (.lst acc)) Dd (.lst (acc ++ [yv]))) := Ext.put (.inl (by rw [put_same]; exact fun z => nomatch z))
          have pp : put (put S5 Dd (.lst acc)) Dd (.lst (acc ++ [yv])) = put S5 Dd (.lst (acc ++ [yv])) := by funext z; unfold put; split <;> rfl
          rw [pp] at e5
          have r5 := s4.put (a := Dd) (u := .lst (vs ++ [v])) (o := .lst (acc ++ [yv])) (.inl (by rw [put_same]; exact fun z => nomatch z)) (by rw [put_same]; rfl)
            ⟨_, upd_same, by
              rw [pp]
              exact (e5.rvs s4 _ _ q).append ⟨v, [], rfl, e5.rv s4 _ _ v4, rfl⟩⟩
          rw [pp] at r5
          exact r5
        · have e5 : Ext H4 (put S5 Dd (.lst acc)) (upd H4 Dd (.lst (vs ++ [v]))) (put (put S5 Dd (.lst acc)) Dd (.lst (acc ++ [yv]))) := Ext.put (.inl (by rw [put_same]; exact fun z => nomatch z))
          have pp : put (put S5 Dd (.lst acc)) Dd (.lst (acc ++ [yv])) = put S5 Dd (.lst (acc ++ [yv])) := by funext z; unfold put; split <;> rfl
          rw [pp] at e5
          exact ((ex2.trans e3).trans e4).trans e5
      | false =>
        rw [if_neg Bool.false_ne_true] at r3
        obtain ⟨S5, rfl, n5, w5⟩ := r3
        exact iteF ⟨acc, S5, w5, n5, s3, ex2.trans e3⟩
/-- .. its list in the store -/
def LcAsksN (B : Bnd) (tt : TTD) (te : TED) (ρ : DEnv) (ds : List D) (keep : Sto → Prop) (S1 : Sto) (R : QD) : Prop := ∃ Wd : Nat → List D → Sto → Prop, Wd 0 [] S1 ∧
  (∀ k acc S' p, Wd k acc S' → S' p = none → keep (put S' p (.lst acc))) ∧
  (∀ k d acc S' p, ds[k]? = some d → Wd k acc S' → S' p = none → ∃ ρ2, B.bd d (wipeD ρ (B.own.map (·.2))) = some ρ2 ∧ tt ρ2 (put S' p (.lst acc)) (fun b S3 =>
    if b = true then te ρ2 S3 (fun y S4 => acc.length < sizeLine ∧ ∃ S5, S4 = put S5 p (.lst acc) ∧ S5 p = none ∧ Wd (k + 1) (acc ++ [y]) S5) E0D
    else ∃ S5, S3 = put S5 p (.lst acc) ∧ S5 p = none ∧ Wd (k + 1) acc S5) E0D) ∧
  (∀ acc S' p, Wd ds.length acc S' → S' p = none → R (.ref p) (put S' p (.lst acc)))
def dLcN (ti : TID) (B : Bnd) (tt : TTD) (te : TED) : TED := fun ρ S R E => ti ρ S (fun ds keep S1 => LcAsksN B tt te ρ ds keep S1 R) E
theorem tLcN_up {B : Bnd} {σ : L2.St} {H : Hp} {Q : VK} (h : upE X.K W (dLcN ti B tt te) σ H Q) : tLc (upI X.K W ti) (B.g X.K) (upT X.K W0 tt) (upE X.K W0 te) (B.own.map (·.2)) σ H Q := by
  obtain ⟨ρ, S, R, E, hS, hρ, ht, bR, bx⟩ := h
  refine ⟨ρ, S, _, _, hS, hρ, ht, bx, fun ds keep S1 r1 H1 e1 s1 J hJ => ?_⟩
  obtain ⟨Wd, w0, wk, wt, wd⟩ := r1
  intro Dd hD
  have n1 : S1 Dd = none := s1.none_of hD
  refine ⟨fun k m H' => k ≤ ds.length ∧ m = ds.length - k ∧ ∃ acc S', Wd k acc S' ∧ S' Dd = none ∧ RS X.K H' (put S' Dd (.lst acc)) ∧ Ext H1 S1 H' (put S' Dd (.lst acc)),
    ⟨_, Nat.zero_le _, rfl, [], S1, w0, n1, s1.put (.inr hD) (by rw [n1]; rfl) ⟨[], upd_same, rfl⟩, Ext.put (.inr hD)⟩, ?_⟩
  rintro k m H' ⟨hk, rfl, acc, S', w', n', s', e'⟩
  obtain ⟨j1, j2, j3⟩ := hJ H' _ e' s' (wk _ _ _ _ w' n')
  by_cases hl : k = ds.length
  · subst hl
    refine .inl ⟨j2, ?_⟩
    exact bR _ _ (wd acc S' Dd w' n') H' _ (e1.trans e') s' rfl
  · have lt : k < ds.length := Nat.lt_of_le_of_ne hk hl
    refine .inr ⟨j1 k lt, fun H2 => ∃ acc2 S2, Wd (k + 1) acc2 S2 ∧ S2 Dd = none ∧ RS X.K H2 (put S2 Dd (.lst acc2)) ∧ Ext H1 S1 H2 (put S2 Dd (.lst acc2)), ?_, fun x H2 y => ?_⟩
    · rintro H2 ⟨acc2, S2, q1, q2, q3, q4⟩
      exact ⟨_, by omega, lt, rfl, acc2, S2, q1, q2, q3, q4⟩
    · obtain ⟨d, hd⟩ : ∃ d, ds[k]? = some d := ⟨_, List.getElem?_eq_getElem lt⟩
      obtain ⟨y1, y2, y3⟩ := j3 k d hd x H2 y
      obtain ⟨ρ2, eb, ht2⟩ := wt k d acc S' Dd hd w' n'
      have ex2 := e'.trans y1
      refine B.ok X.K H2 _ d x ρ ρ2 σ _ y2 y3 ((e1.trans ex2).re hS hρ) eb fun σ2 hw hρ2 => ⟨hw, ρ2, _, _, _, y2, hρ2, ht2, fun b S3 r3 H3 e3 s3 => ?_, fun _ _ z => z.elim⟩
      cases b with
      | true =>
        rw [if_pos rfl] at r3
        refine iteT ⟨ρ2, S3, _, _, s3, e3.re y2 hρ2, r3, fun yv S4 r4 H4 v e4 s4 v4 => ?_, fun _ _ z => z.elim⟩
        obtain ⟨hz, S5, rfl, n5, w5⟩ := r4
        obtain ⟨vs, hv, q⟩ := s4 Dd _ put_same
        have px : S5 Dd = none := n5
        refine ⟨vs, hv, by rw [← q.len]; exact hz, acc ++ [yv], S5, w5, n5, ?_, ?_⟩
        · have e5 : Ext H4 (put S5 Dd (.lst acc)) (upd H4 Dd (.lst (vs ++ [v]))) (put (put S5 Dd (.lst acc)) Dd (.lst (acc ++ [yv]))) := Ext.put (.inl (by rw [put_same]; exact fun z => nomatch z))
          have pp : put (put S5 Dd (.lst acc)) Dd (.lst (acc ++ [yv])) = put S5 Dd (.lst (acc ++ [yv])) := by funext z; unfold put; split <;> rfl
          rw [pp] at e5
          have r5 := s4.put (a := Dd) (u := .lst (vs ++ [v])) (o := .lst (acc ++ [yv])) (.inl (by rw [put_same]; exact fun z => nomatch z)) (by rw [put_same]; rfl)
            ⟨_, upd_same, by
              rw [pp]
              exact (e5.rvs s4 _ _ q).append ⟨v, [], rfl, e5.rv s4 _ _ v4, rfl⟩⟩
          rw [pp] at r5
          exact r5
        · have e5 : Ext H4 (put S5 Dd (.lst acc)) (upd H4 Dd (.lst (vs ++ [v]))) (put (put S5 Dd (.lst acc)) Dd (.lst (acc ++ [yv]))) := Ext.put (.inl (by rw [put_same]; exact fun z => nomatch z))
          have pp : put (put S5 Dd (.lst acc)) Dd (.lst (acc ++ [yv])) = put S5 Dd (.lst (acc ++ [yv])) := by funext z; unfold put; split <;> rfl
          rw [pp] at e5
          exact ((ex2.trans e3).trans e4).trans e5
      | false =>
        rw [if_neg Bool.false_ne_true] at r3
        obtain ⟨S5, rfl, n5, w5⟩ := r3
        exact iteF ⟨acc, S5, w5, n5, s3, ex2.trans e3⟩
theorem ped_lc {B : Bnd} (hc : X.calm = true) (hN : X.N.Nodup) (hi : PID X W tg iter ti) (ok : BlkOk X.N X.env.scope scope B.own)
    (hg : ∀ (s : Shared) (H : Hp) (C : Addr) (cl : List (Str × Addr)) (fp : List Addr), PG (X.blk s H scope (compEnvC scope cl C X.env) fp) tg (B.g X.K))
    (ht : ∀ (s : Shared) (H : Hp) (C : Addr) (cl : List (Str × Addr)) (fp : List Addr), PTsD (X.blk s H scope (compEnvC scope cl C X.env) fp) W0 ifs tt)
    (he : ∀ (s : Shared) (H : Hp) (C : Addr) (cl : List (Str × Addr)) (fp : List Addr), PED (X.blk s H scope (compEnvC scope cl C X.env) fp) W0 elt te) (hs : ∀ x, foldedSetIterable iter X.env x = pure x := by intro _; rfl) :
    PED X W (.ListComp elt [⟨tg, iter, ifs, 0⟩] scope pos) (dLc ti B tt te) :=
  PE_imp (pe_lc hc hN hi ok hg ht he hs) fun _ _ _ h => tLc_up h
theorem ped_lcN {B : Bnd} (hc : X.calm = true) (hN : X.N.Nodup) (hi : PID X W tg iter ti) (ok : BlkOk X.N X.env.scope scope B.own)
    (hg : ∀ (s : Shared) (H : Hp) (C : Addr) (cl : List (Str × Addr)) (fp : List Addr), PG (X.blk s H scope (compEnvC scope cl C X.env) fp) tg (B.g X.K))
    (ht : ∀ (s : Shared) (H : Hp) (C : Addr) (cl : List (Str × Addr)) (fp : List Addr), PTsD (X.blk s H scope (compEnvC scope cl C X.env) fp) W0 ifs tt)
    (he : ∀ (s : Shared) (H : Hp) (C : Addr) (cl : List (Str × Addr)) (fp : List Addr), PED (X.blk s H scope (compEnvC scope cl C X.env) fp) W0 elt te) (hs : ∀ x, foldedSetIterable iter X.env x = pure x := by intro _; rfl) :
    PED X W (.ListComp elt [⟨tg, iter, ifs, 0⟩] scope pos) (dLcN ti B tt te) :=
  PE_imp (pe_lc hc hN hi ok hg ht he hs) fun _ _ _ h => tLcN_up h
/-- name = [..] on one line -/
theorem psd_setLc {B : Bnd} {y : Str} {py spos : Pos} (i : Nat) (hc : X.calm = true) (hN : X.N.Nodup) (hsw : swapsWith (.ListComp elt [⟨tg, iter, ifs, 0⟩] scope pos) (some (.Name y py)) spos.line X.env = pure true) (hi : PID X W tg iter ti) (ok : BlkOk X.N X.env.scope scope B.own)
    (hg : ∀ (s : Shared) (H : Hp) (C : Addr) (cl : List (Str × Addr)) (fp : List Addr), PG (X.blk s H scope (compEnvC scope cl C X.env) fp) tg (B.g X.K))
    (ht : ∀ (s : Shared) (H : Hp) (C : Addr) (cl : List (Str × Addr)) (fp : List Addr), PTsD (X.blk s H scope (compEnvC scope cl C X.env) fp) W0 ifs tt)
    (he : ∀ (s : Shared) (H : Hp) (C : Addr) (cl : List (Str × Addr)) (fp : List Addr), PED (X.blk s H scope (compEnvC scope cl C X.env) fp) W0 elt te)
    (hy : X.N[i]? = some y := by rfl) (hyl : X.env.scope.names.lookup y = some .local := by rfl) (hs : ∀ x, foldedSetIterable iter X.env x = pure x := by intro _; rfl) :
    PSD X W (.Assign [.Name y py] (.ListComp elt [⟨tg, iter, ifs, 0⟩] scope pos) spos) (sSet i (dLc ti B tt te)) := by
  refine PS_imp (ps_setLc (tt := upT X.K W0 tt) (te := upE X.K W0 te) hc hN hy hyl hsw hi ok hg ht he hs) fun D σ H h => ?_
  obtain ⟨ρ, S, R, hS, hρ, ht, b1, b2, b3, b4, b5⟩ := upS_eq.mp h
  refine tLc_up (W := W) ⟨ρ, S, _, _, hS, hρ, ht, fun x S1 r1 H1 v e1 s1 v1 => ?_, b5.at hS hρ⟩
  exact b1 _ S1 r1 _ H1 e1 s1 ((e1.re hS hρ).set v1 i)
end
/-! ### the reading of a comprehension that leaves the store as it is -/
theorem take_snoc {α : Type} {ds : List α} {k : Nat} {d : α} (e : ds[k]? = some d) : ds.take (k + 1) = ds.take k ++ [d] := by
  rw [List.take_succ, e]; rfl
theorem paired_snoc {α β : Type} {P : α → β → Prop} {l : List α} {l' : List β} {d : α} {o : β} (q : Paired P l l') (z : P d o) : Paired P (l ++ [d]) (l' ++ [o]) := by
  induction q with
  | nil => exact .cons z .nil
  | cons r _ ih => exact .cons r ih
/-- S' is S and more -/
def More (S S' : Sto) : Prop := ∀ a o, S a = some o → S' a = some o
theorem More.refl (S : Sto) : More S S := fun _ _ h => h
theorem More.put {S : Sto} {p : Addr} {o : OB} (n : S p = none) : More S (Dl.put S p o) := fun a u e => by
  have ne : a ≠ p := fun z => by rw [z, n] at e; cases e
  rw [put_ne ne]; exact e
/-- each item d gives one of P d: nothing (left out), or an item -/
theorem lc_calm {B : Bnd} {tt : TTD} {te : TED} {ρ : DEnv} {ds : List D} {S1 : Sto} {R : QD} {keep : Sto → Prop} (P : D → Option D → Prop) (hz : ds.length ≤ sizeLine)
    (hk : ∀ S', More S1 S' → keep S')
    (h : ∀ d ∈ ds, ∀ S', More S1 S' → ∀ (Rt : QD) (Rn : Sto → Prop), (∀ y, P d (some y) → Rt y S') → (P d none → Rn S') → ∃ ρ2, B.bd d (wipeD ρ (B.own.map (·.2))) = some ρ2 ∧ tt ρ2 S' (fun b S3 => if b = true then te ρ2 S3 Rt E0D else Rn S3) E0D)
    (hR : ∀ os : List (Option D), Paired P ds os → R (.lst (os.filterMap id)) S1) : LcAsks B tt te ρ ds keep S1 R := by
  refine ⟨fun k acc S' => S' = S1 ∧ acc.length ≤ k ∧ ∃ os, Paired P (ds.take k) os ∧ acc = os.filterMap id, ⟨rfl, Nat.zero_le _, [], .nil, rfl⟩, ?_, ?_, ?_⟩
  · rintro k acc S' p ⟨rfl, _⟩ n
    exact hk _ (More.put n)
  · rintro k d acc S' p hd ⟨rfl, hl, os, q, rfl⟩ n
    have lt := (List.getElem?_eq_some_iff.mp hd).1
    refine h d (List.mem_of_getElem? hd) _ (More.put n) _ _ (fun y pd => ?_) fun pd => ?_
    · refine ⟨by omega, S', rfl, n, rfl, by rw [List.length_append]; simp; exact hl, os ++ [some y], ?_, by simp⟩
      rw [take_snoc hd]; exact paired_snoc q pd
    · refine ⟨S', rfl, n, rfl, by omega, os ++ [none], ?_, by simp⟩
      rw [take_snoc hd]; exact paired_snoc q pd
  · rintro acc S' ⟨rfl, _, os, q, rfl⟩
    rw [List.take_length] at q
    exact hR os q
/-- the items xs, as enc shows them: those of p, each to f -/
theorem lc_map {α : Type} {B : Bnd} {tt : TTD} {te : TED} {ρ : DEnv} {ds : List D} {S1 : Sto} {R : QD} {keep : Sto → Prop} (xs : List α) (enc : α → D) (p : α → Bool) (f : α → D) (e : ds = xs.map enc) (hz : xs.length ≤ sizeLine)
    (hk : ∀ S', More S1 S' → keep S')
    (h : ∀ a ∈ xs, ∀ S', More S1 S' → ∀ (Rt : QD) (Rn : Sto → Prop), (p a = true → Rt (f a) S') → (p a = false → Rn S') → ∃ ρ2, B.bd (enc a) (wipeD ρ (B.own.map (·.2))) = some ρ2 ∧ tt ρ2 S' (fun b S3 => if b = true then te ρ2 S3 Rt E0D else Rn S3) E0D)
    (hR : R (.lst ((xs.filter p).map f)) S1) : LcAsks B tt te ρ ds keep S1 R := by
  subst e
  refine ⟨fun k acc S' => S' = S1 ∧ acc = ((xs.take k).filter p).map f, ⟨rfl, rfl⟩, ?_, ?_, ?_⟩
  · rintro k acc S' q ⟨rfl, _⟩ n
    exact hk _ (More.put n)
  · rintro k d acc S' q hd ⟨rfl, rfl⟩ n
    rw [List.getElem?_map] at hd
    cases ha : xs[k]? with
    | none => rw [ha] at hd; cases hd
    | some a =>
      rw [ha] at hd
      have hd : enc a = d := Option.some.inj hd
      subst hd
      have lt := (List.getElem?_eq_some_iff.mp ha).1
      have ll : (((xs.take k).filter p).map f).length < sizeLine := by
        rw [List.length_map]
        have := List.length_filter_le p (xs.take k)
        rw [List.length_take] at this
        omega
      refine h a (List.mem_of_getElem? ha) _ (More.put n) _ _ (fun pa => ⟨ll, S', rfl, n, rfl, ?_⟩) fun pa => ⟨S', rfl, n, rfl, ?_⟩
      · rw [take_snoc ha, List.filter_append, List.map_append, List.filter_cons_of_pos pa]; rfl
      · rw [take_snoc ha, List.filter_append, List.map_append, List.filter_cons_of_neg (by rw [pa]; exact Bool.false_ne_true)]; simp
  · rintro acc S' ⟨rfl, rfl⟩
    rw [List.length_map, List.take_length]
    exact hR
end Dl
namespace Dl
open PySem PySem.Spec PyProof.Rows L2

/-! ### built-in functions and classes, called -/
abbrev RCD := List D → Sto → QD → Prop
def upC (K : PySem.W.Frag) (r : RCD) : List V → Hp → VK → Prop := fun vs H Q => ∃ ds S R, RS K H S ∧ rvs K H S ds vs ∧ r ds S R ∧ bE K H S R Q
def one (ds : List D) (k : D → Prop) : Prop := match ds with
  | [] => False
  | x :: r => (match r with
    | [] => k x
    | _ => False)
theorem one_of {ds : List D} {k : D → Prop} (h : one ds k) : ∃ x, ds = [x] ∧ k x := by
  cases ds with
  | nil => exact h.elim
  | cons x r => cases r with
    | nil => exact ⟨x, rfl, h⟩
    | cons _ _ => exact h.elim
def two (ds : List D) (k : D → D → Prop) : Prop := match ds with
  | [] => False
  | x :: r => one r (k x)
theorem two_of {ds : List D} {k : D → D → Prop} (h : two ds k) : ∃ x y, ds = [x, y] ∧ k x y := by
  cases ds with
  | nil => exact h.elim
  | cons x r =>
    obtain ⟨y, rfl, h⟩ := one_of h
    exact ⟨x, y, rfl, h⟩
def dCB (r : RCD) (t : TAD) : TED := fun ρ S R E => t ρ S (fun ds S1 => r ds S1 R) E
section
variable {X : Cx} {W : WX} {a b c e o : Expr} {es rest : List Expr} {pos : Pos} {ta tb tc te to : TED} {tas : TAD} {r : RCD}
theorem ped_callB {x : Str} {p : Pos} {id : String} (hc : CallR X (.builtin id) (upC X.K r)) (hm : X.mg x = none) (hv : bootBuiltins x = some (.builtin id)) (ha : PAD X W (e :: es) tas) (hg : Gl X x := by rfl) (hn : x ≠ "__name__" := by decide) (hdb : (x == ("__debug__" : Str)) = false := by decide)
    (he : starEach (e :: es) X.env = (false, eval e X.env) :: starEach es X.env := by rfl) (hpl : (backTo pos (starEach es X.env)).any (·.1) = false := by rfl) : PED X W (.Call (.Name x p) (e :: es) [] pos) (dCB r tas) := by
  refine PE_imp (pe_callB hc hg hm hv ha hn hdb he hpl) fun σ H Q h => ?_
  obtain ⟨ρ, S, R, E, hS, hρ, ht, bR, bx⟩ := h
  exact ⟨ρ, S, _, E, hS, hρ, ht, fun ds S1 r1 H1 vs e1 s1 v1 => ⟨ds, S1, R, s1, v1, r1, bR.ext e1⟩, bx⟩
theorem ped_callTy {x : Str} {p : Pos} {T : String} (hc : CallR X (.type T) (upC X.K r)) (hm : X.mg x = none) (hv : bootBuiltins x = some (.type T)) (ha : PAD X W (e :: es) tas) (hg : Gl X x := by rfl) (hn : x ≠ "__name__" := by decide) (hdb : (x == ("__debug__" : Str)) = false := by decide)
    (he : starEach (e :: es) X.env = (false, eval e X.env) :: starEach es X.env := by rfl) (hpl : (backTo pos (starEach es X.env)).any (·.1) = false := by rfl) : PED X W (.Call (.Name x p) (e :: es) [] pos) (dCB r tas) := by
  refine PE_imp (pe_callTy hc hg hm hv ha hn hdb he hpl) fun σ H Q h => ?_
  obtain ⟨ρ, S, R, E, hS, hρ, ht, bR, bx⟩ := h
  exact ⟨ρ, S, _, E, hS, hρ, ht, fun ds S1 r1 H1 vs e1 s1 v1 => ⟨ds, S1, R, s1, v1, r1, bR.ext e1⟩, bx⟩
/-- a built-in class as a value -/
theorem ped_type {x : Str} {T : String} (hm : X.mg x = none) (hv : bootBuiltins x = some (.type T)) (hg : Gl X x := by rfl) (hn : x ≠ "__name__" := by decide) (hd : (x == ("__debug__" : Str)) = false := by decide) : PED X W (.Name x pos) (dC (.ty T)) :=
  ped_c (pe_bltn (v := .ty T) hg hm hv rfl hn hd) fun _ _ => rfl

/-! ### len -/
def cLen1 (x : D) (S : Sto) (R : QD) : Prop := match x with
  | .str z => z.length ≤ sizeLine ∧ R (.int (z.length : Nat)) S
  | .scr ns => R (.int (ns.length : Nat)) S
  | _ => sqD S x fun ds => R (.int (ds.length : Nat)) S
def cLen : RCD := fun ds S R => one ds fun x => cLen1 x S R
theorem cd_len : CallR X (.builtin "len") (upC X.K cLen) := by
  refine CallR_imp call_len fun vs H Q h => ?_
  obtain ⟨ds, S, R, hS, q, r, bR⟩ := h
  obtain ⟨x, rfl, r⟩ := one_of r
  obtain ⟨v, rfl, rx⟩ := q.one
  have sq : (sqD S x fun ds => R (.int (ds.length : Nat)) S) → ∃ y n, [v] = [y] ∧ LenV X.K y H n ∧ Q (.int n) H := fun h => by
    obtain ⟨ds, p, ws, rfl, hp, q, h⟩ := sqD_of hS h rx
    refine ⟨_, ws.length, rfl, ?_, bR _ S h H _ (Ext.refl _ _) hS (by rw [q.len]; rfl)⟩
    rcases hp with hp | hp
    · exact .inl ⟨ws, SqL.of hp, rfl⟩
    · exact .inr ⟨ws, SqT.of hp, rfl⟩
  cases x with
  | str z => cases rx; exact ⟨_, z.length, rfl, ⟨r.1, rfl⟩, bR _ S r.2 H _ (Ext.refl _ _) hS rfl⟩
  | scr ns =>
    obtain ⟨p, rfl, hp⟩ := rx
    exact ⟨_, ns.length, rfl, .inl ⟨_, scr_sq hp, by rw [List.length_map]⟩, bR _ S r H _ (Ext.refl _ _) hS rfl⟩
  | _ => exact sq r
/-! ### isinstance -/
def tyD (S : Sto) : D → Option String
  | .non => some "NoneType"
  | .bl _ => some "bool"
  | .int _ => some "int"
  | .str _ => some "str"
  | .tup _ => some "tuple"
  | .lst _ => some "list"
  | .dct _ => some "dict"
  | .ref a => (match S a with
    | some (.lst _) => some "list"
    | _ => none)
  | _ => none
def tyNames : List String := ["NoneType", "bool", "int", "str", "tuple", "list", "dict"]
def isTy (a b : String) : Bool := a == b || (a == "bool" && b == "int")
theorem kitB_tab : ∀ a ∈ tyNames, ∀ b ∈ tyNames, kitB a b = some (isTy a b) := by decide +kernel
theorem tyD_names {S : Sto} {d : D} {T : String} (h : tyD S d = some T) : T ∈ tyNames := by
  cases d with
  | ref a =>
    unfold tyD at h
    cases ha : S a with
    | none => simp only [ha] at h; cases h
    | some o => cases o <;> simp only [ha] at h <;> first | (cases h; decide) | cases h
  | _ => first | (cases h; decide) | cases h
theorem tyD_of {K : PySem.W.Frag} {H : Hp} {S : Sto} (hS : RS K H S) {d : D} {v : V} {T : String} (h : tyD S d = some T) (r : rv K H S d v) : TyX K H v (.type T) := by
  cases d with
  | non => cases h; cases r; exact .base .non
  | bl b => cases h; cases r; exact .base (.bl b)
  | int b => cases h; cases r; exact .base (.int b)
  | str b => cases h; cases r; exact .base (.str b)
  | tup ds => cases h; obtain ⟨p, vs, rfl, hp, _⟩ := r; exact .base (.tup hp)
  | lst ds => cases h; obtain ⟨p, vs, rfl, hp, _⟩ := r; exact .base (.lst hp)
  | dct kvs => cases h; obtain ⟨p, rfl, hp, _⟩ := r; exact .base (.dK hp)
  | ref a =>
    cases r
    unfold tyD at h
    cases ha : S a with
    | none => simp only [ha] at h; cases h
    | some o =>
      cases o with
      | lst ds =>
        simp only [ha] at h; cases h
        obtain ⟨vs, hp, _⟩ := hS a _ ha
        exact .base (.lst hp)
      | _ => simp only [ha] at h; cases h
  | _ => cases h
/-- the classes that a value names -/
def tysD : List D → Option (List String)
  | [] => some []
  | .ty T :: r => (tysD r).map (T :: ·)
  | _ => none
def cIsi2 (x t : D) (S : Sto) (R : QD) : Prop := match t with
  | .ty T => ∃ U, tyD S x = some U ∧ T ∈ tyNames ∧ R (.bl (isTy U T)) S
  | .tup cs => ∃ U Ts, tyD S x = some U ∧ tysD cs = some Ts ∧ (∀ T ∈ Ts, T ∈ tyNames) ∧ R (.bl (Ts.any fun T => isTy U T)) S
  | _ => False
def cIsi : RCD := fun ds S R => two ds fun x t => cIsi2 x t S R
theorem tysD_of {K : PySem.W.Frag} {H : Hp} {S : Sto} : ∀ {cs : List D} {Ts : List String} {vs : List V}, tysD cs = some Ts → rvs K H S cs vs → Paired ClsV vs (Ts.map Value.type)
  | [], _, _, h, q => by cases h; cases q; exact .nil
  | d :: cs, Ts, _, h, q => by
    obtain ⟨v, r, rfl, h1, h2⟩ := q
    cases d with
    | ty T =>
      unfold tysD at h
      obtain ⟨Ts', e, rfl⟩ := Option.map_eq_some_iff.mp h
      cases h1
      exact .cons (.ty T) (tysD_of e h2)
    | _ => cases h
theorem kitAny_tab {K : PySem.W.Frag} {U : String} (hU : U ∈ tyNames) : ∀ {Ts : List String}, (∀ T ∈ Ts, T ∈ tyNames) → PySem.W.kitAny K (.type U) (Ts.map Value.type) = some (Ts.any fun T => isTy U T)
  | [], _ => kitAny_nil
  | T :: Ts, h => by
    have h1 := kit_ty (K := K) (kitB_tab U hU T (h T List.mem_cons_self))
    have h2 := kitAny_tab (K := K) hU (Ts := Ts) fun T' h' => h T' (List.mem_cons_of_mem _ h')
    refine kitAny_cons h1 (fun e => ?_) fun e => by rw [List.any_cons, e]; rfl
    rw [h2, List.any_cons, e]; rfl
theorem cd_isi : CallR X (.builtin "isinstance") (upC X.K cIsi) := by
  have two : CallR X (.builtin "isinstance") (fun vs H Q => rIsi X.K vs H Q ∨ rIsiT X.K vs H Q) := fun pins s σ H xs us Q I r h => h.elim (call_isi pins s σ H xs us Q I r) (call_isiT pins s σ H xs us Q I r)
  refine CallR_imp two fun vs H Q h => ?_
  obtain ⟨ds, S, R, hS, q, r, bR⟩ := h
  obtain ⟨x, t, rfl, r⟩ := two_of r
  obtain ⟨v, u, rfl, rx, ry⟩ := q.two
  cases t with
  | ty T =>
    cases ry
    obtain ⟨U, h1, h2, h3⟩ := r
    exact .inl ⟨v, .ty T, _, _, _, rfl, .ty T, tyD_of hS h1 rx, kit_ty (kitB_tab U (tyD_names h1) T h2), bR _ S h3 H _ (Ext.refl _ _) hS rfl⟩
  | tup cs =>
    obtain ⟨p, ws, rfl, hp, qs⟩ := ry
    obtain ⟨U, Ts, h1, h2, h3, h4⟩ := r
    exact .inr ⟨v, p, ws, _, _, _, rfl, hp, tysD_of h2 qs, tyD_of hS h1 rx, kitAny_tab (tyD_names h1) h3, bR _ S h4 H _ (Ext.refl _ _) hS rfl⟩
  | _ => exact r.elim

/-! ### repr, str, int, bool -/
def pyR (S : Sto) (d : D) : Option PyData := match d with
  | .dct [] => some (.dict [])
  | _ => pyS S d
def cRepr : RCD := fun ds S R => one ds fun x => ∃ p, pyR S x = some p ∧ p.showable = true ∧ p.depth ≤ 60 ∧ p.shown.length ≤ sizeLine ∧ R (.str p.shown) S
mutual
theorem nodict : ∀ (d : D) (p : PyData), py d = some p → p.hasDict = false
  | .non, _, e => by cases e; rfl
  | .bl b, _, e => by cases e; rfl
  | .int i, _, e => by cases e; rfl
  | .str x, _, e => by cases e; rfl
  | .tup ds, _, e => by
    unfold py at e
    obtain ⟨ps, e1, rfl⟩ := Option.map_eq_some_iff.mp e
    unfold PyData.hasDict
    exact nodicts ds ps e1
  | .lst ds, _, e => by
    unfold py at e
    obtain ⟨ps, e1, rfl⟩ := Option.map_eq_some_iff.mp e
    unfold PyData.hasDict
    exact nodicts ds ps e1
  | .ty _, _, e => by cases e
  | .ref _, _, e => by cases e
  | .glo _, _, e => by cases e
  | .dct _, _, e => by cases e
  | .scr _, _, e => by cases e
  | .exn _ _ _ _ _, _, e => by cases e
theorem nodicts : ∀ (ds : List D) (ps : List PyData), pys ds = some ps → PyData.hasDictAll ps = false
  | [], _, e => by cases e; rfl
  | d :: ds, _, e => by
    unfold pys at e
    obtain ⟨p, e1, e2⟩ := Option.bind_eq_some_iff.mp e
    obtain ⟨ps, e3, rfl⟩ := Option.map_eq_some_iff.mp e2
    unfold PyData.hasDictAll
    rw [nodict d p e1, nodicts ds ps e3]; rfl
end
theorem nodictS {S : Sto} {d : D} {p : PyData} (e : pyS S d = some p) : p.hasDict = false := by
  cases d with
  | ref a =>
    unfold pyS at e
    cases ha : S a with
    | none => simp only [ha] at e; cases e
    | some o => cases o <;> simp only [ha] at e <;> first | exact nodict _ _ e | cases e
  | _ => exact nodict _ _ e
theorem dK_nil_reads {P : Program} {w : World} {H : Hp} {h : Heap} {a : Addr} (x : ObjOk P w H h a (.dK [])) : (a == sysModules) = false ∧ Reads h (.ref a) (.dict []) [a] := by
  obtain ⟨_, ns, vs, kv, o, es, ep, e, ex, d, r⟩ := x
  cases kv
  refine ⟨ns, ?_⟩
  have hes : es = #[] := by
    obtain ⟨_, pr, _⟩ := r
    cases e : es.toList with
    | nil => exact Array.toList_eq_nil_iff.mp e
    | cons x xs => rw [e] at pr; cases pr
  subst hes
  exact Reads.dict (kvs := []) e ex.1 d (by simpa using ReadsAll.nil) (by simpa using ReadsAll.nil)
theorem cd_repr (hg : X.A.guards = some []) (hu : X.A.units + 64 < cLine) : CallR X (.builtin "repr") (upC X.K cRepr) := by
  intro pins s σ H vs us Q I rr h
  obtain ⟨ds, S, R, hS, q, r, bR⟩ := h
  obtain ⟨x, rfl, r⟩ := one_of r
  · obtain ⟨v, rfl, rx⟩ := q.one
    obtain ⟨u, rfl, ru⟩ := vals1 rr
    obtain ⟨p, hp, h1, h2, h3, h4⟩ := r
    have fin : ∀ (h' : Heap) (t : Tok) (tk : Nat), (∀ b o, s.heap.get? b = some o → h'.get? b = some o) → EP X pins σ Q (.str p.shown t) { s with heap := h', toks := tk } := fun h' t tk hk =>
      ⟨.str p.shown, H, I.kept hk, ⟨_, rfl⟩, bR _ S h4 H _ (Ext.refl _ _) hS rfl⟩
    have data : pyS S x = some p → wpAny (model X.prog X.w) X.A (call (.builtin "repr") [u]) (EP X pins σ Q) X.xe s := fun hp => by
      obtain ⟨as, rd⟩ := Dp.reads I p v u (pyS_dp hS hp rx) ru
      cases rd with
      | none => exact PySem.P.repr_of_none (fin s.heap _ _ fun _ _ z => z)
      | bool b => exact PySem.P.repr_of_bool (fin s.heap _ _ fun _ _ z => z)
      | int i t => exact PySem.P.repr_of_int (of_decide_eq_true h1) (fin s.heap _ _ fun _ _ z => z)
      | str z t => exact PySem.P.repr_of_str (fin s.heap _ _ fun _ _ z => z) h3
      | list e1 e2 e3 e4 =>
        have rd := Reads.list e1 e2 e3 e4
        refine repr_of_reads' rd h1 (fun hd => ?_) hg (by omega) (fun _ _ z => z) (fun h' t tk hk => fin h' t tk hk) h3
        rw [nodictS hp] at hd; cases hd
      | tuple e1 e2 e3 e4 =>
        have rd := Reads.tuple e1 e2 e3 e4
        refine repr_of_reads' rd h1 (fun hd => ?_) hg (by omega) (fun _ _ z => z) (fun h' t tk hk => fin h' t tk hk) h3
        rw [nodictS hp] at hd; cases hd
      | dict e1 e2 e3 e4 e5 =>
        have := nodictS hp
        simp [PyData.hasDict] at this
    cases x with
    | dct kvs =>
      cases kvs with
      | nil =>
        cases hp
        obtain ⟨a, rfl, ha, _⟩ := rx
        cases ru
        obtain ⟨ns, rd⟩ := dK_nil_reads (I.hok a _ ha)
        refine repr_of_reads' rd h1 (fun _ hm => ?_) hg (by omega) (fun _ _ z => z) (fun h' t tk hk => fin h' t tk hk) h3
        have e : sysModules = a := by simpa using hm
        rw [← e] at ns
        simp at ns
      | cons _ _ => cases hp
    | _ => exact data hp
end
end Dl
namespace Dl
open PySem PySem.Spec PyProof.Rows L2
section
variable {X : Cx} {W : WX} {a b c e o : Expr} {es rest : List Expr} {pos : Pos} {ta tb tc te to : TED} {tas : TAD} {r : RCD}
/-! ### classes called -/
def cStr1 (x : D) (S : Sto) (R : QD) : Prop := match x with
  | .int i => i.natAbs.log2 < 1920 ∧ R (.str (toString i)) S
  | .str z => R (.str z) S
  | _ => False
def cStr : RCD := fun ds S R => one ds fun x => cStr1 x S R
theorem cd_str : CallR X (.type "str") (upC X.K cStr) := by
  have two : CallR X (.type "str") (fun vs H Q => (∃ i, vs = [.int i] ∧ i.natAbs.log2 < 1920 ∧ Q (.str (toString i)) H) ∨ ∃ a, vs = [.str a] ∧ Q (.str a) H) := fun pins s σ H xs us Q I r h => h.elim (call_str_int pins s σ H xs us Q I r) (SkE.call_str_str pins s σ H xs us Q I r)
  refine CallR_imp two fun vs H Q h => ?_
  obtain ⟨ds, S, R, hS, q, r, bR⟩ := h
  obtain ⟨x, rfl, r⟩ := one_of r
  obtain ⟨v, rfl, rx⟩ := q.one
  cases x with
  | int i => cases rx; exact .inl ⟨i, rfl, r.1, bR _ S r.2 H _ (Ext.refl _ _) hS rfl⟩
  | str z => cases rx; exact .inr ⟨z, rfl, bR _ S r H _ (Ext.refl _ _) hS rfl⟩
  | _ => exact r.elim
def cInt1 (x : D) (S : Sto) (R : QD) : Prop := match x with
  | .int i => R (.int i) S
  | .bl k => R (.int (if k then 1 else 0)) S
  | .str z => ∃ n, PySem.intText? z = some n ∧ z.length ≤ 640 ∧ R (.int n) S
  | _ => False
def cInt : RCD := fun ds S R => one ds fun x => cInt1 x S R
theorem cd_int : CallR X (.type "int") (upC X.K cInt) := by
  have two : CallR X (.type "int") (fun vs H Q => ((∃ i, vs = [.int i] ∧ Q (.int i) H) ∨ ∃ k, vs = [.bl k] ∧ Q (.int (if k then 1 else 0)) H) ∨ ∃ a n, vs = [.str a] ∧ PySem.intText? a = some n ∧ a.length ≤ 640 ∧ Q (.int n) H) := fun pins s σ H xs us Q I r h => h.elim (call_int1 pins s σ H xs us Q I r) (call_int_str pins s σ H xs us Q I r)
  refine CallR_imp two fun vs H Q h => ?_
  obtain ⟨ds, S, R, hS, q, r, bR⟩ := h
  obtain ⟨x, rfl, r⟩ := one_of r
  obtain ⟨v, rfl, rx⟩ := q.one
  cases x with
  | int i => cases rx; exact .inl (.inl ⟨i, rfl, bR _ S r H _ (Ext.refl _ _) hS rfl⟩)
  | bl k => cases rx; exact .inl (.inr ⟨k, rfl, bR _ S r H _ (Ext.refl _ _) hS rfl⟩)
  | str z => cases rx; obtain ⟨n, h1, h2, h3⟩ := r; exact .inr ⟨z, n, rfl, h1, h2, bR _ S h3 H _ (Ext.refl _ _) hS rfl⟩
  | _ => exact r.elim
def cTuple : RCD := fun ds S R => one ds fun x => sqD S x fun es => R (.tup es) S
theorem cd_tuple : CallR X (.type "tuple") (upC X.K cTuple) := by
  refine CallR_imp call_tuple_of fun vs H Q h => ?_
  obtain ⟨ds, S, R, hS, q, r, bR⟩ := h
  obtain ⟨x, rfl, r⟩ := one_of r
  obtain ⟨v, rfl, rx⟩ := q.one
  obtain ⟨es, p, ws, rfl, hp, q, h⟩ := sqD_of hS r rx
  rcases hp with hp | hp
  · exact ⟨p, ws, rfl, .inl ⟨SqL.of hp, fun l hl => bR _ S h _ _ (Ext.new hl) (hS.new hl) (rv.tup_new hS hl q)⟩⟩
  · exact ⟨p, ws, rfl, .inr ⟨SqT.of hp, bR _ S h _ _ (Ext.refl _ _) hS ⟨p, ws, rfl, hp, q⟩⟩⟩
/-- list(x): one that nobody changes; one of the store -/
def cList : RCD := fun ds S R => one ds fun x => sqD S x fun es => R (.lst es) S
def cListN : RCD := fun ds S R => one ds fun x => sqD S x fun es => ∀ p, S p = none → R (.ref p) (put S p (.lst es))
theorem cd_list : CallR X (.type "list") (upC X.K cList) := by
  refine CallR_imp call_list_of fun vs H Q h => ?_
  obtain ⟨ds, S, R, hS, q, r, bR⟩ := h
  obtain ⟨x, rfl, r⟩ := one_of r
  obtain ⟨v, rfl, rx⟩ := q.one
  obtain ⟨es, p, ws, rfl, hp, q, h⟩ := sqD_of hS r rx
  exact ⟨p, ws, rfl, hp.elim (fun z => .inl (SqL.of z)) (fun z => .inr (SqT.of z)), fun l hl => bR _ S h _ _ (Ext.new hl) (hS.new hl) (rv.lst_new hS hl q)⟩
theorem cd_listN : CallR X (.type "list") (upC X.K cListN) := by
  refine CallR_imp call_list_of fun vs H Q h => ?_
  obtain ⟨ds, S, R, hS, q, r, bR⟩ := h
  obtain ⟨x, rfl, r⟩ := one_of r
  obtain ⟨v, rfl, rx⟩ := q.one
  obtain ⟨es, p, ws, rfl, hp, q, h⟩ := sqD_of hS r rx
  refine ⟨p, ws, rfl, hp.elim (fun z => .inl (SqL.of z)) (fun z => .inr (SqT.of z)), fun l hl => ?_⟩
  have nl := hS.none_of hl
  have ex : Ext H S (upd H l (.lst ws)) (put S l (.lst es)) := Ext.put (.inr hl)
  exact bR _ _ (h l nl) _ _ ex (hS.put (.inr hl) (by rw [nl]; rfl) ⟨ws, upd_same, ex.rvs hS _ _ q⟩) rfl
def cAbs : RCD := fun ds S R => one ds fun x => match x with
  | .int i => R (.int (if i < 0 then -i else i)) S
  | _ => False
theorem cd_abs : CallR X (.builtin "abs") (upC X.K cAbs) := by
  refine CallR_imp call_abs fun vs H Q h => ?_
  obtain ⟨ds, S, R, hS, q, r, bR⟩ := h
  obtain ⟨x, rfl, r⟩ := one_of r
  obtain ⟨v, rfl, rx⟩ := q.one
  cases x with
  | int i => cases rx; exact ⟨i, rfl, bR _ S r H _ (Ext.refl _ _) hS rfl⟩
  | _ => exact r.elim
def c2I (f : Int → Int → Int) : RCD := fun ds S R => two ds fun x y => opInt (fun _ _ => True) (fun i j => .int (f i j)) x y S R
theorem cd_2I {id : String} {f : Int → Int → Int} (h : CallR X (.builtin id) (fun xs H Q => ∃ i j, xs = [.int i, .int j] ∧ Q (.int (f i j)) H)) : CallR X (.builtin id) (upC X.K (c2I f)) := by
  refine CallR_imp h fun vs H Q h => ?_
  obtain ⟨ds, S, R, hS, q, r, bR⟩ := h
  obtain ⟨x, y, rfl, r⟩ := two_of r
  obtain ⟨v, u, rfl, rx, ry⟩ := q.two
  cases x with
  | int i => cases y with
    | int j => cases rx; cases ry; exact ⟨i, j, rfl, bR _ S r.2 H _ (Ext.refl _ _) hS rfl⟩
    | _ => exact r.elim
  | _ => exact r.elim
def cMax2 : RCD := c2I fun i j => if j > i then j else i
def cMin2 : RCD := c2I fun i j => if j < i then j else i
theorem cd_max2 (hc : X.calm = true) : CallR X (.builtin "max") (upC X.K cMax2) := cd_2I (call_max2 hc)
theorem cd_min2 (hc : X.calm = true) : CallR X (.builtin "min") (upC X.K cMin2) := cd_2I (call_min2 hc)
/-- ints -/
def insD : List D → Option (List Int)
  | [] => some []
  | .int i :: r => (insD r).map (i :: ·)
  | _ => none
theorem insD_of : ∀ {ds : List D} {ns : List Int}, insD ds = some ns → ds = ns.map D.int
  | [], _, h => by cases h; rfl
  | .int i :: r, _, h => by
    unfold insD at h
    obtain ⟨ns, e, rfl⟩ := Option.map_eq_some_iff.mp h
    rw [insD_of e]; rfl
  | .non :: _, _, h => by cases h
  | .bl _ :: _, _, h => by cases h
  | .str _ :: _, _, h => by cases h
  | .ty _ :: _, _, h => by cases h
  | .ref _ :: _, _, h => by cases h
  | .glo _ :: _, _, h => by cases h
  | .tup _ :: _, _, h => by cases h
  | .lst _ :: _, _, h => by cases h
  | .dct _ :: _, _, h => by cases h
  | .scr _ :: _, _, h => by cases h
  | .exn _ _ _ _ _ :: _, _, h => by cases h
theorem insD_map (ns : List Int) : insD (ns.map D.int) = some ns := by
  induction ns with
  | nil => rfl
  | cons n ns ih => rw [List.map_cons]; unfold insD; rw [ih]; rfl
/-- the library's sum over a tuple of ints -/
theorem sum_tup {prog : Program} {w : World} {A : Around} {E : Value → Shared → Prop} {s : Shared} {l : Addr} {its : List Value} {ns : List Int} {Q : Value → Shared → Prop} (hh : A.handled = none) (hl : s.heap.IsTuple l its.toArray) (hi : IntsAre its ns)
    (h : ∀ h' tk t', (∀ b o, s.heap.get? b = some o → h'.get? b = some o) → Q (.int ns.sum t') { s with heap := h', toks := tk }) : wpAny (model prog w) A (call (.builtin "sum") [.ref l]) Q E s := by
  obtain ⟨xs, e⟩ := hi.allInts.items
  have hn : numsOf (intItems xs).toList = ns := by rw [← e]; exact hi.numsOf
  rw [nums_intItems] at hn
  rw [e] at hl
  have hlt : l < s.heap.objs.size := by obtain ⟨_, e, _⟩ := hl; exact Heap.lt_size e
  have hk0 : ∀ b o, s.heap.get? b = some o → (s.heap.push { cls := .type "tuple_iterator", data := .fields #[.ref l, .int 0 0] }).get? b = some o := fun b o e => Heap.get?_push_of_some _ e
  refine call_sum_walkG (wpAny_pyIter_tuple hl ⟨_, _, _, _, _, _, numAt xs, rfl, Walks.tuple (A := A.in1) hh _ l (Nat.ne_of_lt hlt) (intItems xs), ⟨⟨_, Heap.get?_push_size _ rfl, rfl, rfl⟩, hl.at fun o e => hk0 _ o e⟩, ?_, (fun _ _ => intItems_at), fun h' tk t' hk => ?_⟩)
  · intro b hb
    show b < (s.heap.push _).objs.size
    rw [Heap.size_push]
    simp at hb
    rcases hb with rfl | rfl
    · exact Nat.lt_succ_self _
    · exact Nat.lt_succ_of_lt hlt
  · have := h h' tk t' fun b o e => hk b o (fun z => by simp at z; subst z; exact absurd (Heap.lt_size e) (Nat.lt_irrefl _)) (hk0 b o e)
    have e1 : preSum (numAt xs) (intItems xs).size = ns.sum := by rw [preSum_eq, List.take_of_length_le (by simp [intItems]), hn]
    rw [e1]; exact this
def cSum : RCD := fun ds S R => one ds fun x => sqD S x fun es => ∃ ns, insD es = some ns ∧ R (.int ns.sum) S
theorem cd_sum (hc : X.calm = true) : CallR X (.builtin "sum") (upC X.K cSum) := by
  have two : CallR X (.builtin "sum") (fun vs H Q => rSum X.K vs H Q ∨ ∃ (a : Addr) (ns : List Int), vs = [V.ref a] ∧ SqT X.K H a (ns.map V.int) ∧ Q (.int ns.sum) H) := fun pins s σ H xs us Q I r h => by
    rcases h with h | ⟨a, ns, rfl, hs, q⟩
    · exact cr_sum hc pins s σ H xs us Q I r h
    · obtain ⟨its, rv, hl, _⟩ := I.tuple hs
      rw [Vals.ref1 r]
      obtain ⟨o, ho, hcl, n, hd⟩ := hl
      exact sum_tup (I.ok.hd hc) ⟨o, ho, hcl, n, hd⟩ rv.ints fun h' tk t' hk => ⟨.int _, H, I.kept hk, ⟨_, rfl⟩, q⟩
  refine CallR_imp two fun vs H Q h => ?_
  obtain ⟨ds, S, R, hS, q, r, bR⟩ := h
  obtain ⟨x, rfl, r⟩ := one_of r
  obtain ⟨v, rfl, rx⟩ := q.one
  obtain ⟨es, p, ws, rfl, hp, q, ns, hn, h⟩ := sqD_of hS r rx
  have e := insD_of hn
  subst e
  rw [q.ints] at hp
  have fin := bR _ S h H (.int ns.sum) (Ext.refl _ _) hS rfl
  rcases hp with hp | hp
  · exact .inl ⟨p, ns, rfl, SqL.of hp, fin⟩
  · exact .inr ⟨p, ns, rfl, SqT.of hp, fin⟩
/-! ### methods -/
abbrev RMD := D → List D → Sto → QD → Prop
def upM (K : PySem.W.Frag) (r : RMD) : V → List V → Hp → VK → Prop := fun v vs H Q => ∃ x ds S R, RS K H S ∧ rv K H S x v ∧ rvs K H S ds vs ∧ r x ds S R ∧ bE K H S R Q
/-- the type that a method is looked up in -/
def mTy (S : Sto) (x : D) (T : String) : Prop := match x with
  | .str _ => T = "str"
  | .int _ => T = "int"
  | .lst _ => T = "list"
  | .ref a => (match S a with
    | some (.lst _) => T = "list"
    | _ => False)
  | _ => False
theorem mTy_of {K : PySem.W.Frag} {H : Hp} {S : Sto} {x : D} {v : V} {T : String} (hS : RS K H S) (h : mTy S x T) (r : rv K H S x v) : tyV K T v H := by
  cases x with
  | str z => cases r; exact h
  | int z => cases r; exact h
  | lst ds => obtain ⟨p, vs, rfl, hp, _⟩ := r; exact .inl ⟨h, vs, SqL.of hp⟩
  | ref a =>
    cases r
    unfold mTy at h
    cases ha : S a with
    | none => simp only [ha] at h
    | some o =>
      cases o with
      | lst ds =>
        simp only [ha] at h
        obtain ⟨vs, hp, _⟩ := hS a _ ha
        exact .inl ⟨h, vs, SqL.of hp⟩
      | _ => simp only [ha] at h
  | _ => exact h.elim
def dM0 (T : String) (r : RMD) (to : TED) : TED := fun ρ S R E => to ρ S (fun x S1 => mTy S1 x T ∧ r x [] S1 R) E
def dM (T : String) (r : RMD) (to : TED) (t : TAD) : TED := fun ρ S R E => to ρ S (fun x S1 => mTy S1 x T ∧ t ρ S1 (fun ds S2 => r x ds S2 R) E) E
theorem ped_m0 {rm : RMD} {name : Str} {apos cpos : Pos} {T id : String} (pa : PlainAttrs T) (slot : Slot T name id) (hty : typeOf (.builtin id) = pure (.type "method_descriptor")) (hm : MtR X id (upM X.K rm)) (ho : PED X W o to)
    (hbase : attributeBase o name X.env (eval o X.env) = eval o X.env := by rfl) (hline : (apos.endLine == cpos.line) = true := by rfl) : PED X W (.Call (.Attribute o name apos) [] [] cpos) (dM0 T rm to) := by
  refine PE_imp (pe_bm0 pa slot hty hm ho hbase hline) fun σ H Q h => ?_
  obtain ⟨ρ, S, R, E, hS, hρ, ht, bR, bx⟩ := h
  exact ⟨ρ, S, _, E, hS, hρ, ht, fun x S1 r1 H1 v e1 s1 v1 => ⟨mTy_of s1 r1.1 v1, x, [], S1, R, s1, v1, rfl, r1.2, bR.ext e1⟩, bx⟩
theorem ped_m {rm : RMD} {name : Str} {apos cpos : Pos} {T id : String} (pa : PlainAttrs T) (slot : Slot T name id) (hty : typeOf (.builtin id) = pure (.type "method_descriptor")) (hm : MtR X id (upM X.K rm)) (ho : PED X W o to) (ha : PAD X W (e :: es) tas)
    (hbase : attributeBase o name X.env (eval o X.env) = eval o X.env := by rfl)
    (hfew : ((backTo cpos (starEach (e :: es) X.env)).all (fun x => !x.1) && (backToKw cpos (keywordEach [] X.env)).all (fun x => x.1.isSome)
      && decide ((e :: es).length + ([] : List Keyword).length + (if ([] : List Keyword).isEmpty then 0 else 1) < 30)) = true := by rfl)
    (hline : (apos.endLine == cpos.line) = true := by rfl) (hs : starEach (e :: es) X.env = (false, eval e X.env) :: starEach es X.env := by rfl) (hplain : (backTo cpos (starEach es X.env)).any (·.1) = false := by rfl) :
    PED X W (.Call (.Attribute o name apos) (e :: es) [] cpos) (dM T rm to tas) := by
  refine PE_imp (pe_bm pa slot hty hm ho ha hbase hfew hline hs hplain) fun σ H Q h => ?_
  obtain ⟨ρ, S, R, E, hS, hρ, ht, bR, bx⟩ := h
  refine ⟨ρ, S, _, E, hS, hρ, ht, fun x S1 r1 H1 v e1 s1 v1 => ⟨mTy_of s1 r1.1 v1, ?_⟩, bx⟩
  refine ⟨ρ, S1, _, E, s1, e1.re hS hρ, r1.2, fun ds S2 r2 H2 vs e2 s2 v2 => ?_, bx.ext e1⟩
  exact ⟨x, ds, S2, R, s2, e2.rv s1 _ _ v1, v2, r2, bR.ext (e1.trans e2)⟩
/-- the list of the store at a -/
def lstAt (S : Sto) (a : Addr) (Q : List D → Prop) : Prop := match S a with
  | some (.lst es) => Q es
  | _ => False
theorem lstAt_of {S : Sto} {a : Addr} {Q : List D → Prop} (h : lstAt S a Q) : ∃ es, S a = some (.lst es) ∧ Q es := by
  unfold lstAt at h
  cases ha : S a with
  | none => simp only [ha] at h
  | some o =>
    cases o with
    | lst es => simp only [ha] at h; exact ⟨es, rfl, h⟩
    | _ => simp only [ha] at h
theorem lstAt_in {S : Sto} {a : Addr} {Q : List D → Prop} {es : List D} (e : S a = some (.lst es)) (h : Q es) : lstAt S a Q := by
  unfold lstAt; rw [e]; exact h
/-- append -/
def mAppend : RMD := fun x ds S R => match x with
  | .ref a => one ds fun y => lstAt S a fun es => es.length < sizeLine ∧ R .non (put S a (.lst (es ++ [y])))
  | _ => False
theorem md_append : MtR X "list.append" (upM X.K mAppend) := by
  refine MtR_imp mt_append fun v vs H Q h => ?_
  obtain ⟨x, ds, S, R, hS, rx, q, r, bR⟩ := h
  cases x with
  | ref a =>
    cases rx
    obtain ⟨y, rfl, r⟩ := one_of r
    obtain ⟨u, rfl, ry⟩ := q.one
    obtain ⟨es, ha, r⟩ := lstAt_of r
    obtain ⟨ws, hw, qw⟩ := hS a _ ha
    have c : S a ≠ none ∨ H a = none := .inl (by rw [ha]; exact fun z => nomatch z)
    have ex : Ext H S (upd H a (.lst (ws ++ [u]))) (put S a (.lst (es ++ [y]))) := Ext.put c
    refine ⟨a, ws, u, rfl, rfl, hw, by rw [← qw.len]; exact r.1, bR _ _ r.2 _ _ ex (hS.put c (by rw [ha]; rfl) ⟨_, upd_same, ?_⟩) rfl⟩
    exact (ex.rvs hS _ _ qw).append ⟨u, [], rfl, ex.rv hS _ _ ry, rfl⟩
  | _ => exact r.elim
/-- join -/
def strsD : List D → Option (List Str)
  | [] => some []
  | .str i :: r => (strsD r).map (i :: ·)
  | _ => none
theorem strsD_of {K : PySem.W.Frag} {H : Hp} {S : Sto} : ∀ {ds : List D} {zs : List Str} {vs : List V}, strsD ds = some zs → rvs K H S ds vs → vs = zs.map V.str
  | [], _, _, h, q => by cases h; cases q; rfl
  | d :: r, _, _, h, q => by
    obtain ⟨v, r', rfl, h1, h2⟩ := q
    cases d with
    | str i =>
      unfold strsD at h
      obtain ⟨ns, e, rfl⟩ := Option.map_eq_some_iff.mp h
      cases h1
      rw [strsD_of e h2]; rfl
    | _ => cases h
theorem strsD_map (zs : List Str) : strsD (zs.map D.str) = some zs := by
  induction zs with
  | nil => rfl
  | cons n ns ih => rw [List.map_cons]; unfold strsD; rw [ih]; rfl
def mJoin : RMD := fun x ds S R => match x with
  | .str z => one ds fun y => sqD S y fun es => ∃ ys, strsD es = some ys ∧ (ys.map (·.length)).sum + ys.length * z.length ≤ 16777216 ∧ R (.str (Txt.join z ys)) S
  | _ => False
theorem md_join : MtR X "str.join" (upM X.K mJoin) := by
  refine MtR_imp mt_join fun v vs H Q h => ?_
  obtain ⟨x, ds, S, R, hS, rx, q, r, bR⟩ := h
  cases x with
  | str z =>
    cases rx
    obtain ⟨y, rfl, r⟩ := one_of r
    obtain ⟨u, rfl, ry⟩ := q.one
    obtain ⟨es, p, ws, rfl, hp, q, ys, e, hz, h⟩ := sqD_of hS r ry
    rw [strsD_of e q] at hp
    exact ⟨z, p, ys, rfl, rfl, hp.elim (fun z => .inl (SqL.of z)) (fun z => .inr (SqT.of z)), hz, bR _ S h H _ (Ext.refl _ _) hS rfl⟩
  | _ => exact r.elim
/-! ### f-strings -/
def dFmt (te : TED) : TED := fun ρ S R E => te ρ S (fun x S1 => match x with
  | .str y => y.length ≤ sizeLine ∧ R (.str y) S1
  | .int i => i.natAbs.log2 < 1920 ∧ R (.str (toString i)) S1
  | _ => False) E
theorem ped_fmt (he : PED X W e te) : PED X W (.FormattedValue e (-1) none pos) (dFmt te) := by
  refine PE_imp (pe_fmt he) fun σ H Q h => ?_
  obtain ⟨ρ, S, R, E, hS, hρ, ht, bR, bx⟩ := h
  refine ⟨ρ, S, _, E, hS, hρ, ht, fun x S1 r1 H1 v e1 s1 v1 => ?_, bx⟩
  cases x with
  | str y => cases v1; exact .inl ⟨y, rfl, r1.1, bR _ S1 r1.2 H1 _ e1 s1 rfl⟩
  | int i => cases v1; exact .inr ⟨i, rfl, r1.1, bR _ S1 r1.2 H1 _ e1 s1 rfl⟩
  | _ => exact r1.elim
inductive PJD (X : Cx) (W : WX) : List Expr → List TED → Prop where
  | nil : PJD X W [] []
  | cons {e : Expr} {t : TED} {es : List Expr} {ts : List TED} (h : PED X W e t) (r : PJD X W es ts) : PJD X W (e :: es) (t :: ts)
theorem PJD.pj {es : List Expr} {ts : List TED} (h : PJD X W es ts) : PJ X es (ts.map (upE X.K W)) := by
  induction h with
  | nil => exact .nil
  | cons h _ ih => exact .cons h ih
def dJs : List TED → Str → DEnv → Sto → (Str → Sto → Prop) → XD → Prop
  | [], acc, _, S, R, _ => R acc S
  | t :: ts, acc, ρ, S, R, E => t ρ S (fun x S1 => match x with
    | .str y => (acc ++ y).length ≤ sizeLine ∧ dJs ts (acc ++ y) ρ S1 R E
    | _ => False) E
theorem tJs_up {K : PySem.W.Frag} {σ : L2.St} {R : Str → Sto → Prop} {E : XD} {Q : Str → Hp → Prop} : ∀ (ts : List TED) (acc : Str) (ρ : DEnv) (H0 H : Hp) (S0 S : Sto), RS K H S → re K H S ρ σ → dJs ts acc ρ S R E → Ext H0 S0 H S → bX K W σ H0 S0 E →
    (∀ z S', R z S' → ∀ H', Ext H0 S0 H' S' → RS K H' S' → Q z H') → tJs (ts.map (upE K W)) acc σ H Q
  | [], acc, ρ, H0, H, S0, S, hS, hρ, h, e0, bx, q => q acc S h H e0 hS
  | t :: ts, acc, ρ, H0, H, S0, S, hS, hρ, h, e0, bx, q => by
    refine ⟨ρ, S, _, E, hS, hρ, h, fun x S1 r1 H1 v e1 s1 v1 => ?_, bx.ext e0⟩
    cases x with
    | str y =>
      cases v1
      exact ⟨y, rfl, r1.1, tJs_up ts (acc ++ y) ρ H0 H1 S0 S1 s1 (e1.re hS hρ) r1.2 (e0.trans e1) bx q⟩
    | _ => exact r1.elim
def dJoined (ts : List TED) : TED := fun ρ S R E => dJs ts Str.empty ρ S (fun z S1 => R (.str z) S1) E
theorem ped_joined {v1 v2 : Expr} {ts : List TED} (h : PJD X W (v1 :: v2 :: rest) ts) : PED X W (.JoinedStr (v1 :: v2 :: rest) pos) (dJoined ts) := by
  refine PE_imp (pe_joined h.pj) fun σ H Q h => ?_
  obtain ⟨ρ, S, R, E, hS, hρ, ht, bR, bx⟩ := h
  exact tJs_up ts Str.empty ρ H H S S hS hρ ht (Ext.refl _ _) bx fun z S' r H' e s => bR _ S' r H' _ e s rfl
/-! ### tuple * int -/
def opMulT : R2D := fun x y S R => match x with
  | .tup ds => (match y with
    | .int k => ds ≠ [] ∧ 2 ≤ k ∧ k ≤ 1000 ∧ ds.length ≤ 1000 ∧ R (.tup (List.replicate k.toNat ds).flatten) S
    | _ => False)
  | _ => False
theorem opd_mulT : OpR X (binaryOp .Mult) (upR X.K opMulT) := by
  refine OpR_imp op_repT fun v u H Q h => ?_
  obtain ⟨x, y, S, R, hS, rx, ry, r, bR⟩ := h
  cases x with
  | tup ds =>
    cases y with
    | int k =>
      cases ry
      obtain ⟨p, vs, rfl, hp, q⟩ := rx
      obtain ⟨h0, h1, h2, h3, h⟩ := r
      refine ⟨p, k, vs, rfl, rfl, SqT.of hp, fun e => h0 (List.eq_nil_of_length_eq_zero (by rw [q.len, e]; rfl)), h1, h2, by rw [← q.len]; exact h3, fun n hn => bR _ S h _ _ (Ext.new hn) (hS.new hn) (rv.tup_new hS hn (q.rep _))⟩
    | _ => exact r.elim
  | _ => exact r.elim
/-! ### xs[::-1] -/
def dRev (te : TED) : TED := fun ρ S R E => te ρ S (fun x S1 => lsD S1 x fun ds => R (.lst ds.reverse) S1) E
theorem rvs.reverse {K : PySem.W.Frag} {H : Hp} {S : Sto} : ∀ {ds : List D} {vs : List V}, rvs K H S ds vs → rvs K H S ds.reverse vs.reverse
  | [], _, h => by cases h; rfl
  | d :: ds, _, h => by
    obtain ⟨v, r, rfl, h1, h2⟩ := h
    rw [List.reverse_cons, List.reverse_cons]
    exact (rvs.reverse h2).append ⟨v, [], rfl, h1, rfl⟩
theorem ped_rev {k : Nat} {p1 p2 p3 : Pos} (he : PED X W e te) : PED X W (.Subscript e (.Slice none none (some (.UnaryOp .USub (.Constant (.int 1) k p1) p2)) p3) pos) (dRev te) := by
  refine PE_imp (pe_revL he) fun σ H Q h => ?_
  obtain ⟨ρ, S, R, E, hS, hρ, ht, bR, bx⟩ := h
  refine ⟨ρ, S, _, E, hS, hρ, ht, fun x S1 r1 H1 v e1 s1 v1 => ?_, bx⟩
  obtain ⟨ds, p, vs, rfl, hp, q, h⟩ := lsD_of s1 r1 v1
  exact ⟨p, vs, rfl, SqL.of hp, fun n hn => bR _ S1 h _ _ (e1.trans (Ext.new hn)) (s1.new hn) (rv.lst_new s1 hn q.reverse)⟩
/-! ### zip of two lists -/
def zipD : List D → List D → List D
  | x :: xs, y :: ys => .tup [x, y] :: zipD xs ys
  | _, _ => []
theorem zipD_get : ∀ {xs ys : List D} {i : Nat} {d : D}, (zipD xs ys)[i]? = some d → ∃ x y, xs[i]? = some x ∧ ys[i]? = some y ∧ d = .tup [x, y]
  | [], _, _, _, h => by simp [zipD] at h
  | _ :: _, [], _, _, h => by simp [zipD] at h
  | x :: xs, y :: ys, 0, d, h => ⟨x, y, rfl, rfl, by simpa [zipD] using h.symm⟩
  | x :: xs, y :: ys, i + 1, d, h => by
    obtain ⟨a, b, h1, h2, h3⟩ := zipD_get (xs := xs) (ys := ys) (i := i) (by simpa [zipD] using h)
    exact ⟨a, b, by simpa using h1, by simpa using h2, h3⟩
theorem zipD_length : ∀ (xs ys : List D), (zipD xs ys).length = min xs.length ys.length
  | [], _ => by simp [zipD]
  | _ :: _, [] => by simp [zipD]
  | x :: xs, y :: ys => by simp [zipD, zipD_length xs ys]
def keepL (x : D) (ds : List D) : Sto → Prop := match x with
  | .ref a => fun S => S a = some (.lst ds)
  | _ => always
/-- a list, frozen or of the store, and what must stand while it is walked -/
theorem keepL_of {K : PySem.W.Frag} {H H' : Hp} {S S' : Sto} {x : D} {v : V} {a : Addr} {Q : List D → Prop} (hS : RS K H S) (h : lsD S x Q) (r : rv K H S x v) : ∃ ds a, v = .ref a ∧ Q ds ∧ (∃ vs, H a = some (.lst vs)) ∧ ∀ H' S', Ext H S H' S' → RS K H' S' → keepL x ds S' → ∃ vs, H' a = some (.lst vs) ∧ rvs K H' S' ds vs := by
  cases x with
  | lst ds =>
    have r' := r
    obtain ⟨p, vs, rfl, hp, _, q⟩ := r
    refine ⟨ds, p, rfl, h, ⟨vs, hp⟩, fun H' S' e s _ => ?_⟩
    obtain ⟨p', vs', e1, h1, _, q1⟩ := e.rv hS _ _ r'
    cases e1
    exact ⟨vs', h1, q1⟩
  | ref p =>
    cases r
    unfold lsD at h
    cases hp : S p with
    | none => simp only [hp] at h
    | some o =>
      cases o with
      | lst ds =>
        simp only [hp] at h
        obtain ⟨vs, h1, _⟩ := hS p _ hp
        exact ⟨ds, p, rfl, h, ⟨vs, h1⟩, fun H' S' e s k => s p _ k⟩
      | _ => simp only [hp] at h
  | _ => exact h.elim
def iZp (t : TAD) : TID := fun ρ S R E => t ρ S (fun ds S1 => two ds fun x y => lsD S1 x fun xs => lsD S1 y fun ys => R (zipD xs ys) (fun S => keepL x xs S ∧ keepL y ys S) S1) E
theorem pid_zip {elts : List Expr} {kk : Nat} {tpos p : Pos} (hm : X.mg "zip" = none) (ha : PAD X W [a, b] tas) (hg : Gl X "zip" := by rfl) (hs : starEach [a, b] X.env = (false, eval a X.env) :: starEach [b] X.env := by rfl) (hpl : (backTo pos (starEach [b] X.env)).any (·.1) = false := by rfl) :
    PID X W (.Tuple elts kk tpos) (.Call (.Name "zip" p) [a, b] [] pos) (iZp tas) := by
  refine PI_imp (pi_zip hg hm ha hs hpl) fun σ H Q h => ?_
  obtain ⟨ρ, S, R, E, hS, hρ, ht, bx, bQ⟩ := h
  refine ⟨ρ, S, _, E, hS, hρ, ht, fun ds S1 r1 H1 vs e1 s1 v1 => ?_, bx⟩
  obtain ⟨x, y, rfl, r1⟩ := two_of r1
  obtain ⟨v, u, rfl, rx, ry⟩ := v1.two
  obtain ⟨xs, pa, rfl, r1, ⟨va, hva⟩, ka⟩ := keepL_of (H' := H1) (S' := S1) (a := 0) s1 r1 rx
  obtain ⟨ys, pb, rfl, r1, ⟨vb, hvb⟩, kb⟩ := keepL_of (H' := H1) (S' := S1) (a := 0) s1 r1 ry
  refine ⟨pa, pb, va, vb, rfl, SqL.of hva, SqL.of hvb, bQ _ _ S1 r1 H1 e1 s1 _ fun H' S' e s k => ?_⟩
  obtain ⟨wa, ha, qa⟩ := ka H' S' e s k.1
  obtain ⟨wb, hb, qb⟩ := kb H' S' e s k.2
  refine ⟨fun i hi => ?_, ?_, fun i d hd z H2 hy => ?_⟩
  · rw [zipD_length] at hi
    obtain ⟨d1, h1⟩ : ∃ d, xs[i]? = some d := ⟨_, List.getElem?_eq_getElem (by omega)⟩
    obtain ⟨d2, h2⟩ : ∃ d, ys[i]? = some d := ⟨_, List.getElem?_eq_getElem (by omega)⟩
    obtain ⟨w1, g1, _⟩ := qa.get h1
    obtain ⟨w2, g2, _⟩ := qb.get h2
    exact ⟨wa, wb, w1, w2, SqL.of ha, SqL.of hb, g1, g2⟩
  · rw [zipD_length]
    refine ⟨wa, wb, SqL.of ha, SqL.of hb, ?_⟩
    rw [← qa.len, ← qb.len]; omega
  · obtain ⟨T, x', y', rfl, hT, rfl, y1, y2⟩ := hy
    obtain ⟨d1, d2, h1, h2, rfl⟩ := zipD_get hd
    obtain ⟨w1, g1, r1'⟩ := qa.get h1
    obtain ⟨w2, g2, r2'⟩ := qb.get h2
    have z1 := y1 wa (SqL.of ha)
    have z2 := y2 wb (SqL.of hb)
    rw [g1] at z1; cases z1
    rw [g2] at z2; cases z2
    exact ⟨Ext.new hT, s.new hT, rv.tup_new s hT ⟨_, _, rfl, r1', _, _, rfl, r2', rfl⟩⟩
end
end Dl
namespace Dl
open PySem PySem.Spec PyProof.Rows L2

/-! ### a def that callers may call -/
structure Cal (P : Program) (w : World) (K : PySem.W.Frag) (mg : Str → Option Value) (base : Heap) (k : Nat) (x : Str) (ps : List Str) (sp : SpD) : Prop where
  ex : ∃ f fd, FnD P w K mg base k f fd ps sp ∧ mg x = some (.ref f) ∧ PySem.W.keepIn K (.ref f) = true ∧ Binds K fd ps []
theorem ped_callC {X : Cx} {W : WX} {k j : Nat} {ps : List Str} {sp : SpD} {x : Str} {p pos : Pos} {e : Expr} {es : List Expr} {tas : TAD} (C : Cal X.prog X.w X.K X.mg X.base k x ps sp) (hr : Room j X.A) (hgd : X.A.guards = some []) (tk : Takes X W) (ha : PAD X W (e :: es) tas) (hj : k ≤ j := by decide)
    (hg : Gl X x := by rfl) (hdb : (x == ("__debug__" : Str)) = false := by decide) (he : starEach (e :: es) X.env = (false, eval e X.env) :: starEach es X.env := by rfl) (hpl : (backTo pos (starEach es X.env)).any (·.1) = false := by rfl) :
    PED X W (.Call (.Name x p) (e :: es) [] pos) (dCall sp tas) := by
  obtain ⟨f, fd, F, hm, hk, hb⟩ := C.ex
  exact ped_call F (hr.mono hj) hgd tk hm hk hb ha hg hdb he hpl
theorem Cal.imp {P : Program} {w : World} {K : PySem.W.Frag} {mg : Str → Option Value} {base : Heap} {k : Nat} {x : Str} {ps : List Str} {sp sp' : SpD} (C : Cal P w K mg base k x ps sp) (h : ∀ ds S R E, sp' ds S R E → sp ds S R E) : Cal P w K mg base k x ps sp' := by
  obtain ⟨f, fd, F, r⟩ := C.ex
  exact ⟨f, fd, F.imp h, r⟩
/-! ### what the top has left -/
structure Txt (fa : List He.Fa) (K : PySem.W.Frag) (mg : Str → Option Value) : Prop where
  ok : ∀ f ∈ fa, f.ok K = true
  ex : ∃ h : Heap, K.In h ∧ h.Ns mainGlobals mg
section
variable {fa : List He.Fa} {K : PySem.W.Frag} {mg : Str → Option Value} (T : Txt fa K mg)
include T
theorem Txt.free (i : Nat) {x : Str} (h : fa[i]? = some (.free x) := by rfl) : mg x = none := by
  obtain ⟨hp, X, G⟩ := T.ex
  exact He.free_ok X G (T.ok _ (List.mem_of_getElem? h))
theorem Txt.glo (i : Nat) {x : Str} (h : fa[i]? = some (.glo x) := by rfl) : mg x = some (.ref (He.ga K x)) := by
  obtain ⟨hp, X, G⟩ := T.ex
  exact He.glo_ok X G (T.ok _ (List.mem_of_getElem? h))
theorem Txt.int (i : Nat) {x : Str} {n : Int} (h : fa[i]? = some (.int x n) := by rfl) : ∃ t, mg x = some (.int n t) := by
  obtain ⟨hp, X, G⟩ := T.ex
  exact He.int_ok X G (T.ok _ (List.mem_of_getElem? h))
theorem Txt.str (i : Nat) {x z : Str} (h : fa[i]? = some (.str x z) := by rfl) : ∃ t, mg x = some (.str z t) := by
  obtain ⟨hp, X, G⟩ := T.ex
  exact He.str_ok X G (T.ok _ (List.mem_of_getElem? h))
end
/-- a def of the module, as the head has it -/
abbrev FnP (K : PySem.W.Frag) (x qual : Str) (st : Stmt) (f : Addr) : Prop := ∃ fd, FunD K x qual (defArgs st) (defBody st) (defScope st) [] [] f fd
section
variable {P : Program} {w : World} {K : PySem.W.Frag} {mg : Str → Option Value} {base : Heap} {x qual : Str} {st : Stmt} {f : Addr} {N ps : List Str} {k : Nat} {sp : SpD}
/-- THE RULE: a def of the module, by its body -/
theorem calO (F : FnP K x qual st f) (gm : mg x = some (.ref f)) (Sc : FnScope N ps (defScope st)) (len : ∀ ds S R E, sp ds S R E → ds.length = ps.length) (tB : TSD)
    (hb : ∀ (cdv : Value) (A : Around) (outer : List PySem.Env) (s : Shared) (H : Hp) (E : XK), Room k (A.deeper (envOfC qual (defScope st) s.heap.objs.size f cdv)) → A.guards = some [] →
      Takes (cxOf (L2.CX P w) P w K mg base N qual (defScope st) f cdv A outer s H E) (WF E) →
      PSsD (cxOf (L2.CX P w) P w K mg base N qual (defScope st) f cdv A outer s H E) (WF E) (defBody st) tB)
    (pure : ∀ H ds S R E, RS K H S → sp ds S R E → ∃ S2, RS K H S2 ∧ (∀ a, S a = none → S2 a = none) ∧ tB (endsF K R E) (startD N ds) S2)
    (hbd : ∀ (kV doc pm : Value) (an : Option Addr) (cdv ct : Value) (us : List Value), us.length = ps.length → bindArgs (PySem.W.fnOf x qual (defArgs st) (defBody st) (defScope st) .none kV doc pm an cdv ct) ⟨us, []⟩ = Pure.pure (ps.zip us)) :
    Cal P w K mg base (k + 1) x ps sp := by
  obtain ⟨fd, F⟩ := F
  exact ⟨f, fd, fnDO F Sc len tB hb pure, gm, F.kp, F.bindsN hbd⟩
theorem cal (F : FnP K x qual st f) (gm : mg x = some (.ref f)) (Sc : FnScope N ps (defScope st)) (len : ∀ ds S R E, sp ds S R E → ds.length = ps.length) (tB : TSD)
    (hb : ∀ (cdv : Value) (A : Around) (outer : List PySem.Env) (s : Shared) (H : Hp) (E : XK), Room k (A.deeper (envOfC qual (defScope st) s.heap.objs.size f cdv)) → A.guards = some [] →
      Takes (cxOf (L2.CX P w) P w K mg base N qual (defScope st) f cdv A outer s H E) (WF E) →
      PSsD (cxOf (L2.CX P w) P w K mg base N qual (defScope st) f cdv A outer s H E) (WF E) (defBody st) tB)
    (pure : ∀ ds S R E, sp ds S R E → tB (endsF K R E) (startD N ds) S)
    (hbd : ∀ (kV doc pm : Value) (an : Option Addr) (cdv ct : Value) (us : List Value), us.length = ps.length → bindArgs (PySem.W.fnOf x qual (defArgs st) (defBody st) (defScope st) .none kV doc pm an cdv ct) ⟨us, []⟩ = Pure.pure (ps.zip us)) :
    Cal P w K mg base (k + 1) x ps sp := calO F gm Sc len tB hb (fun H ds S R E hS h => ⟨S, hS, fun _ n => n, pure ds S R E h⟩) hbd
end
/-! ### the head's hook: facts, defs, and one more look -/
abbrev AlX : Type := He.AlD × Bool
def obsX (fa : List He.Fa) (fn : List He.DefD) (ch : PySem.W.Frag → Bool) (K : PySem.W.Frag) : AlX := (He.obsD fa fn K, ch K)
def hookX (n : Nat) (fa : List He.Fa) (fn : List He.DefD) (ch : PySem.W.Frag → Bool) : PySem.W.Hook where
  α := AlX
  obs := fun s => obsX fa fn ch (He.frG s.heap.get? (He.asD s.heap.get? n))
  val := fun _ => (He.valD fn, true)
  says := fun _ h => ∃ K : PySem.W.Frag, K.In h ∧ He.SaysD fa fn K ∧ ch K = true
  of := fun _ _ e => ⟨_, He.frG_in, congrArg (fun z : AlX => z.1) e, congrArg (fun z : AlX => z.2) e⟩
  keeps := fun _ _ _ ⟨K, hK, c⟩ k => ⟨K, PySem.W.Frag.In.keeps hK k, c⟩
def obX (n : Nat) (fa : List He.Fa) (fn : List He.DefD) (ch : PySem.W.Frag → Bool) (g : Addr → Option Obj) : AlX := obsX fa fn ch (He.frG g (He.asD g n))
theorem obX_eq {n : Nat} {fa : List He.Fa} {fn : List He.DefD} {ch : PySem.W.Frag → Bool} {g : Addr → Option Obj} {s : Shared} (h : ∀ a, g a = s.heap.get? a) : obX n fa fn ch g = (hookX n fa fn ch).obs s := by
  have e : g = s.heap.get? := funext h
  rw [e] <;> rfl
theorem says_all {fa : List He.Fa} {fn : List He.DefD} {K : PySem.W.Frag} (c : He.SaysD fa fn K) : ∀ f ∈ fa, f.ok K = true := by
  have c1 := (He.ba (show ((fa.all fun f => f.ok K) && fn.all fun d => d.ok K) = true from congrArg (fun z : He.AlD => z.1) c)).1
  exact List.all_eq_true.mp c1
/-! ### the law's call -/
def spLaw : SpD := fun ds S R _ => ∃ ns : List Int, ds = [.scr ns] ∧ ns.length ≤ 63 ∧ (∀ a, S a = none) ∧ ∀ S', R (.bl true) S'
theorem walk_D {l : PySem.W.OpenLaw} {k : Nat} {q : Program} {loose : List Str} {XP : (Str → Option Value) → Heap → Prop} {YP : World → Heap → Prop} {d : DefRec}
    (hn : l.most = some 63) (hdf : d.params.defaults = []) (hr : Room k callerA)
    (F : ∀ (w : World) (mg : Str → Option Value) (fa : Addr) (h : Heap), YP w h → h.Ns mainGlobals mg → mg d.name = some (.ref fa) →
      ∃ (K : PySem.W.Frag) (fd : FuncData), K.In h ∧ (∀ (s : Shared) (u : Value), BindsTo s fd ⟨[u], []⟩ [("script", u)]) ∧
        ∀ base : Heap, K.In base → base.Ns mainGlobals mg → FnD l.prog w K mg base k fa fd ["script"] spLaw) :
    PySem.W.WalkO q loose XP YP l.row.toRowW d [] (fun f vs => PySem.call f vs) := by
  refine Att.attach_call hn hdf fun w s₀ s₁ mg mb fa o pm cd doc a vs ns G Y ho hd hcd hmg hobj hints hlen hg => ?_
  obtain ⟨K, fd, KX, hbind, hF⟩ := F w mg fa _ Y G.T.g hmg
  have hns := G.T.g
  have hb := G.T.b
  have hbb := G.T.builtins
  have hlim := G.T.nolimit
  have hl : ns.length ≤ sizeLine := Nat.le_trans hlen (by decide)
  have rv := vals_ints hints
  have lenV := hints.length
  have core : ∀ H : Hp, Only H → ((∃ o : Obj, H a = some (.frz o (.lst (ns.map V.int)))) ∨ KL K a ns) → HOk l.prog w H s₁.heap → (∀ b, H b ≠ none → b = a) → (H a ≠ none → K.lookup a = none) →
      codeAny (model l.prog w) callerA (.call (.ref fa) ⟨[.ref a], []⟩) (fun r s' => r = .ok (.ret (.bool true)) ∧ OldK s₁.heap s'.heap ∧ s'.os = s₁.os ∧ AllBare s'.gens) s₁ := by
    intro H hO hS hok hA hK
    have base_of : ∀ {b : Addr} {o : Obj}, s₁.heap.get? b = some o → H b = none → (hidT s₁.heap H).get? b = some o := fun e n => hidT_get e n
    have noA : ∀ {b : Addr} {o : Obj} {es : Array DictEntry} {ep : Nat}, s₁.heap.get? b = some o → o.data = .dict es ep → H b = none := fun {b o es ep} e d => by
      cases q : H b with
      | none => rfl
      | some u =>
        have e' : b = a := hA b (by rw [q]; simp)
        subst e'
        rw [hobj] at e; cases e
        have d' : Data.seq vs.toArray _ = Data.dict es ep := d
        cases d'
    have nsK : ∀ {b : Addr} {m : Str → Option Value}, s₁.heap.Ns b m → (hidT s₁.heap H).Ns b m := fun {b m} ⟨o, es, ep, e, d, r⟩ => ⟨o, es, ep, base_of e (noA e d), d, r⟩
    have hKb : K.In (hidT s₁.heap H) := fun b o e => base_of (KX b o e) (by
      cases q : H b with
      | none => rfl
      | some u =>
        have e' : b = a := hA b (by rw [q]; simp)
        subst e'
        rw [hK (by rw [q]; simp)] at e; cases e)
    have hM : Mod K mg (hidT s₁.heap H) := ⟨hKb, nsK hns, ⟨mb, nsK hb, hbb⟩, let ⟨mc, h1, h2⟩ := hlim; ⟨mc, nsK h1, h2⟩⟩
    have e0 : Env0 l.prog w K mg (hidT s₁.heap H) callerA [] s₁ H := ⟨rfl, hM, fun b o e => of_hidT e, Nat.le_of_eq (hidT_size _ _), trivial, fun b hb => absurd (show b ∈ ([] : List Addr) from hb) (by simp), hok, .of_eq hg⟩
    have hsp : upSp K spLaw [.ref a] H (fun v _ => v = .bl true) (fun _ _ _ => False) :=
      ⟨[.scr ns], fun _ => none, fun d _ => d = .bl true, fun _ _ => False, (fun _ _ e => nomatch e), ⟨_, _, rfl, ⟨a, rfl, hS⟩, rfl⟩, ⟨ns, rfl, hlen, fun _ => rfl, fun _ => rfl⟩, fun d S' r H' v _ _ q => by subst r; exact q, fun _ _ z => z.elim⟩
    refine codeAny_mono ((hF _ hKb (nsK hns)).run callerA [] s₁ H ⟨[.ref a], []⟩ [.ref a] [.ref a] _ _ hr rfl e0 (hbind s₁ (.ref a)) (.cons rfl .nil) hsp) fun r s' h => ?_
    cases r with
    | error e =>
      obtain ⟨a, B, H', cls, d, _, _, _, _, _, _, _, z⟩ := h
      exact z.elim
    | ok fl =>
      cases fl with
      | next => exact False.elim h
      | brk => exact False.elim h
      | cont => exact False.elim h
      | ret u =>
        obtain ⟨v, H', os, bare, un, hok', r', q⟩ := h
        have q' : v = .bl true := q
        subst q'
        obtain rfl : u = Value.bool true := r'
        refine ⟨rfl, OldK.of_keep fun b o e => ?_, os, bare⟩
        cases q : H b with
        | none => exact un.keep b o e q (by intro z; exact absurd (show b ∈ ([] : List Addr) from z) (by simp)) (by simp)
        | some u =>
          rcases hO b with z | ⟨ob, xs, z⟩
          · rw [q] at z; cases z
          · have z2 := un.frzs b ob _ z
            obtain ⟨e1, _⟩ := hok b _ z
            obtain ⟨e2, _⟩ := hok' b _ z2
            rw [e] at e1; cases e1
            exact e2
  cases hk : K.lookup a with
  | some o =>
    have e := KX a o hk
    rw [hobj] at e
    cases e
    refine core (fun _ => none) (fun _ => .inl rfl) (.inr ⟨_, vs.toArray, _, hk, rfl, rfl, rfl, by rw [List.size_toArray, lenV]; exact hl, by simpa using rv⟩) (fun b u z => by have z' : (none : Option HO) = some u := z; cases z') (fun b z => absurd rfl z) fun z => absurd rfl z
  | none =>
    refine core (fun b => if b = a then some (.frz { cls := .type "list", data := .seq vs.toArray } (.lst (ns.map V.int))) else none) (fun b => ?_) (.inl ⟨{ cls := .type "list", data := .seq vs.toArray }, if_pos rfl⟩) (fun b u z => ?_) (fun b z => ?_) fun _ => hk
    · by_cases hb : b = a
      · exact .inr ⟨_, _, if_pos hb⟩
      · exact .inl (if_neg hb)
    · by_cases hb : b = a
      · have z' := (if_pos hb).symm.trans z
        cases z'
        subst hb
        exact ⟨hobj, by rw [List.length_map]; exact hl, vs, _, rv, hobj⟩
      · have z' := (if_neg hb).symm.trans z
        cases z'
    · by_cases hb : b = a
      · exact hb
      · exact absurd (if_neg hb) z
end Dl
namespace Dl
open PySem PySem.Spec PyProof.Rows L2
/-! ### the readings' steps -/
section
variable {ρ : DEnv} {S : Sto} {R : QD} {E : XD} {d x y : D} {o : Option D} {i j k n : Nat} {p q : Int} {u v : Str} {ds es : List D} {b c : Bool} {a : Addr} {Dn : DEnds} {K : PySem.W.Frag}
theorem r_var0 : dVar 0 (some d :: ρ) S R E = R d S := propext ⟨fun ⟨_, e, r⟩ => by cases e; exact r, fun r => ⟨_, rfl, r⟩⟩
theorem r_vars : dVar (i + 1) (o :: ρ) S R E = dVar i ρ S R E := propext ⟨fun ⟨d, e, r⟩ => ⟨d, by simpa using e, r⟩, fun ⟨d, e, r⟩ => ⟨d, by simpa using e, r⟩⟩
theorem r_add : opAdd (.int p) (.int q) S R = R (.int (p + q)) S := rfl
theorem r_adds : opAdd (.str u) (.str v) S R = (u.length + v.length ≤ sizeLine ∧ R (.str (u ++ v)) S) := rfl
theorem r_addt : opAdd (.tup ds) (.tup es) S R = (ds.length + es.length ≤ sizeLine ∧ R (.tup (ds ++ es)) S) := rfl
theorem r_addl : opAdd (.lst ds) (.lst es) S R = (ds.length + es.length ≤ sizeLine ∧ R (.lst (ds ++ es)) S) := rfl
theorem r_int {C : Int → Int → Prop} {g : Int → Int → D} : opInt C g (.int p) (.int q) S R = (C p q ∧ R (g p q) S) := rfl
theorem r_mul : opMul (.int p) (.int q) S R = (CMul p q ∧ R (.int (p * q)) S) := rfl
theorem r_mull : opMul (.lst ds) (.int p) S R = (-(2 ^ 63) ≤ p ∧ p < 2 ^ 63 ∧ ds.length * p.toNat ≤ sizeLine ∧ R (.lst (List.replicate p.toNat ds).flatten) S) := rfl
theorem r_mulT : opMulT (.tup ds) (.int p) S R = (ds ≠ [] ∧ 2 ≤ p ∧ p ≤ 1000 ∧ ds.length ≤ 1000 ∧ R (.tup (List.replicate p.toNat ds).flatten) S) := rfl
theorem r_ord {f : Int → Int → Bool} {g : List Nat → List Nat → Bool} : opOrd f g (.int p) (.int q) S R = R (.bl (f p q)) S := rfl
theorem r_isB {Q : Bool → Prop} : isB (.bl b) Q = Q b := rfl
theorem r_truN {Q : Bool → Prop} : truD S .non Q = Q false := rfl
theorem r_truB {Q : Bool → Prop} : truD S (.bl b) Q = Q b := rfl
theorem r_truI {Q : Bool → Prop} : truD S (.int p) Q = Q (p != 0) := rfl
theorem r_truS {Q : Bool → Prop} : truD S (.str u) Q = (u.length ≤ sizeLine ∧ Q ((u.length : Int) != 0)) := rfl
theorem r_truT {Q : Bool → Prop} : truD S (.tup ds) Q = Q (!ds.isEmpty) := rfl
theorem r_truL {Q : Bool → Prop} : truD S (.lst ds) Q = Q (!ds.isEmpty) := rfl
theorem r_lsL {Q : List D → Prop} : lsD S (.lst ds) Q = Q ds := rfl
theorem r_lsR {Q : List D → Prop} (h : S a = some (.lst ds)) : lsD S (.ref a) Q = Q ds := by unfold lsD; simp only [h]
theorem r_sqT {Q : List D → Prop} : sqD S (.tup ds) Q = Q ds := rfl
theorem r_sqL {Q : List D → Prop} : sqD S (.lst ds) Q = Q ds := rfl
theorem r_sqR {Q : List D → Prop} (h : S a = some (.lst ds)) : sqD S (.ref a) Q = Q ds := by unfold sqD; simp only [h]
theorem r_ixT : opIx (.tup ds) (.int p) S R = ∃ d, atI ds p = some d ∧ R d S := rfl
theorem r_ixL : opIx (.lst ds) (.int p) S R = ∃ d, atI ds p = some d ∧ R d S := rfl
theorem r_ixS : opIx (.str u) (.int p) S R = (u.length ≤ sizeLine ∧ ∃ c, atI u.cps.toList p = some c ∧ R (.str ⟨#[c]⟩) S) := rfl
theorem r_ixR (h : S a = some (.lst ds)) : opIx (.ref a) (.int p) S R = ∃ d, atI ds p = some d ∧ R d S := r_sqR (Q := fun ds => ∃ d, atI ds p = some d ∧ R d S) h
theorem r_addN (h : S a = some (.lst ds)) : opAdd (.ref a) y S R = lsD S y fun es => ds.length + es.length ≤ sizeLine ∧ R (.lst (ds ++ es)) S := r_lsR (Q := fun ds => lsD S y fun es => ds.length + es.length ≤ sizeLine ∧ R (.lst (ds ++ es)) S) h
theorem r_addlR (h : S a = some (.lst es)) : opAdd (.lst ds) (.ref a) S R = (ds.length + es.length ≤ sizeLine ∧ R (.lst (ds ++ es)) S) := r_lsR (Q := fun es => ds.length + es.length ≤ sizeLine ∧ R (.lst (ds ++ es)) S) h
theorem r_one {k : D → Prop} : one [x] k = k x := rfl
theorem r_two {k : D → D → Prop} : two [x, y] k = k x y := rfl
theorem r_lenS : cLen1 (.str u) S R = (u.length ≤ sizeLine ∧ R (.int (u.length : Nat)) S) := rfl
theorem r_lenC {ns : List Int} : cLen1 (.scr ns) S R = R (.int (ns.length : Nat)) S := rfl
theorem r_lenT : cLen1 (.tup ds) S R = R (.int (ds.length : Nat)) S := rfl
theorem r_lenL : cLen1 (.lst ds) S R = R (.int (ds.length : Nat)) S := rfl
theorem r_lenR (h : S a = some (.lst ds)) : cLen1 (.ref a) S R = R (.int (ds.length : Nat)) S := r_sqR (Q := fun ds => R (.int (ds.length : Nat)) S) h
theorem r_strI : cStr1 (.int p) S R = (p.natAbs.log2 < 1920 ∧ R (.str (toString p)) S) := rfl
theorem r_strS : cStr1 (.str u) S R = R (.str u) S := rfl
theorem r_intI : cInt1 (.int p) S R = R (.int p) S := rfl
theorem r_intB : cInt1 (.bl b) S R = R (.int (if b then 1 else 0)) S := rfl
theorem r_intS : cInt1 (.str u) S R = ∃ n, PySem.intText? u = some n ∧ u.length ≤ 640 ∧ R (.int n) S := rfl
theorem r_slS {l h : Option Int} : slD (.str u) l h S R = (u.length ≤ sizeLine ∧ R (.str (cutS u l h)) S) := rfl
theorem r_slT {l h : Option Int} : slD (.tup ds) l h S R = R (.tup (cutD ds l h)) S := rfl
theorem r_slL {l h : Option Int} : slD (.lst ds) l h S R = R (.lst (cutD ds l h)) S := rfl
theorem r_slC {l h : Option Int} {ns : List Int} : slD (.scr ns) l h S R = R (.lst ((cutD ns l h).map D.int)) S := rfl
theorem r_slR {l h : Option Int} (e : S a = some (.lst ds)) : slD (.ref a) l h S R = R (.lst (cutD ds l h)) S := r_lsR (Q := fun ds => R (.lst (cutD ds l h)) S) e
theorem r_isN0 : isNon .non = true := rfl
theorem r_isNt : isNon (.tup ds) = false := rfl
theorem r_isNi : isNon (.int p) = false := rfl
theorem r_isNs : isNon (.str u) = false := rfl
theorem r_isNr : isNon (.ref a) = false := rfl
theorem r_isNl : isNon (.lst ds) = false := rfl
theorem r_isNb : isNon (.bl b) = false := rfl
theorem r_gN {Q : DEnv → Sto → Prop} {X : Exn → DEnv → Sto → Prop} : gN i d ρ S Q X = Q (ρ.set i (some d)) S := rfl
theorem r_gCons {t : TGD} {w : TGsD} {Q : DEnv → Sto → Prop} {X : Exn → DEnv → Sto → Prop} : gCons' t w (d :: ds) ρ S Q X = t d ρ S (fun ρ1 S1 => w ds ρ1 S1 Q X) X := rfl
theorem r_gNil {Q : DEnv → Sto → Prop} {X : Exn → DEnv → Sto → Prop} : gNil' [] ρ S Q X = Q ρ S := propext ⟨fun h => h.2, fun h => ⟨rfl, h⟩⟩
theorem r_gTup {t : TGsD} {Q : DEnv → Sto → Prop} {X : Exn → DEnv → Sto → Prop} : gTupD n t (.tup ds) ρ S Q X = (ds.length = n ∧ t ds ρ S Q X) := rfl
theorem r_rt : (endsF K R E).rt d S = fin K R d S := rfl
theorem r_nx : (endsF K R E).nx ρ S = fin K R .non S := rfl
theorem r_xc {z : Exn} : (endsF K R E).xc z ρ S = ∃ S'', Wk K S'' S ∧ E z S'' := rfl
theorem r_jsN {Q : Str → Sto → Prop} {acc : Str} : dJs [] acc ρ S Q E = Q acc S := rfl
theorem r_mS : mTy S (.str u) "str" = True := eq_true rfl
theorem r_mL : mTy S (.lst ds) "list" = True := eq_true rfl
theorem r_mI : mTy S (.int p) "int" = True := eq_true rfl
theorem r_mR (h : S a = some (.lst ds)) : mTy S (.ref a) "list" = True := eq_true (by unfold mTy; simp only [h])
theorem r_app (h : S a = some (.lst es)) : mAppend (.ref a) [y] S R = (es.length < sizeLine ∧ R .non (put S a (.lst (es ++ [y])))) := by
  show lstAt S a _ = _
  unfold lstAt; simp only [h]
theorem r_joinL : mJoin (.str u) [.lst ds] S R = ∃ ys, strsD ds = some ys ∧ (ys.map (·.length)).sum + ys.length * u.length ≤ 16777216 ∧ R (.str (Txt.join u ys)) S := rfl
theorem r_joinT : mJoin (.str u) [.tup ds] S R = ∃ ys, strsD ds = some ys ∧ (ys.map (·.length)).sum + ys.length * u.length ≤ 16777216 ∧ R (.str (Txt.join u ys)) S := rfl
theorem r_joinR (h : S a = some (.lst ds)) : mJoin (.str u) [.ref a] S R = ∃ ys, strsD ds = some ys ∧ (ys.map (·.length)).sum + ys.length * u.length ≤ 16777216 ∧ R (.str (Txt.join u ys)) S := r_sqR (Q := fun ds => ∃ ys, strsD ds = some ys ∧ (ys.map (·.length)).sum + ys.length * u.length ≤ 16777216 ∧ R (.str (Txt.join u ys)) S) h
theorem r_par {t : TAD} : sPar i j t Dn ρ S = t ρ S (fun ds S1 => match ds with
  | [x, y] => Dn.nx ((ρ.set i (some x)).set j (some y)) S1
  | _ => False) (fun x S1 => Dn.xc x ρ S1) := rfl
theorem r_ltC {te : TED} {ti : TID} {B : Bnd} {tt : TTD} : dLc ti B tt te ρ S R E = ti ρ S (fun ds keep S1 => LcAsks B tt te ρ ds keep S1 R) E := rfl
theorem r_iTp {te : TED} {Q : List D → (Sto → Prop) → Sto → Prop} : iTp te ρ S Q E = te ρ S (fun x S1 => match x with
  | .tup ds => Q ds always S1
  | _ => False) E := rfl
theorem r_iSt {te : TED} {Q : List D → (Sto → Prop) → Sto → Prop} : iSt te ρ S Q E = te ρ S (fun x S1 => match x with
  | .str z => Q (z.cps.toList.map fun c => .str ⟨#[c]⟩) always S1
  | _ => False) E := rfl
def ils1 (Q : List D → (Sto → Prop) → Sto → Prop) (x : D) (S1 : Sto) : Prop := match x with
  | .lst ds => Q ds always S1
  | .ref a => (match S1 a with
    | some (.lst ds) => Q ds (fun S => S a = some (.lst ds)) S1
    | _ => False)
  | _ => False
theorem r_iLs {te : TED} {Q : List D → (Sto → Prop) → Sto → Prop} : iLs te ρ S Q E = te ρ S (ils1 Q) E := rfl
theorem r_ilL {Q : List D → (Sto → Prop) → Sto → Prop} : ils1 Q (.lst ds) S = Q ds always S := rfl
theorem r_ilR {Q : List D → (Sto → Prop) → Sto → Prop} (h : S a = some (.lst ds)) : ils1 Q (.ref a) S = Q ds (fun S => S a = some (.lst ds)) S := by unfold ils1; simp only [h]
theorem r_iR1 {t : TAD} {Q : List D → (Sto → Prop) → Sto → Prop} : iR1 t ρ S Q E = t ρ S (fun ds S1 => match ds with
  | [.int j] => (-(2 ^ 62) ≤ j ∧ j < 2 ^ 62) ∧ Q (upto 0 j.toNat) always S1
  | _ => False) E := rfl
theorem r_sFor {ti : TID} {g : TGD} {tb : TSD} : sFor ti g tb Dn ρ S = ti ρ S (fun ds keep S1 => ∃ Wd : Nat → DEnv → Sto → Prop, Wd 0 ρ S1 ∧ (∀ i ρ' S', Wd i ρ' S' → keep S') ∧
  (∀ i d ρ' S', ds[i]? = some d → Wd i ρ' S' → g d ρ' S' (fun ρ2 S2 => tb { Dn with nx := Wd (i + 1), ct := Wd (i + 1), bk := Dn.nx } ρ2 S2) Dn.xc) ∧
  (∀ ρ' S', Wd ds.length ρ' S' → Dn.nx ρ' S')) (fun x S1 => Dn.xc x ρ S1) := rfl
theorem r_lt : CDiv p q = (0 < q ∧ q < 1073741824) := rfl
theorem pys_map {α : Type} {f : α → D} {g : α → PyData} (h : ∀ x, py (f x) = some (g x)) : ∀ xs : List α, pys (xs.map f) = some (xs.map g)
  | [] => rfl
  | x :: xs => by
    rw [List.map_cons, List.map_cons]
    unfold pys
    rw [h, pys_map h xs]; rfl
end
/-! ### data with a code -/
class En (α : Type) where
  enc : α → D
  pd : α → PyData
  dep : Nat
  ok : ∀ a, py (enc a) = some (pd a)
  lay : ∀ a, (pd a).canLay0 = true
  dp : ∀ a, (pd a).depth ≤ dep
  eq : ∀ a b, PyData.eqv (pd a) (pd b) = true ↔ a = b
end Dl
namespace Dl
open PySem PySem.Spec PyProof.Rows L2
/-! ### the law's draws, opened and closed -/
section
variable {K : PySem.W.Frag} {H : Hp} {S S' : Sto}
theorem ro_mv {b : Addr} {o : OB} (h : ro K H S b o) (hS : RS K H S) (n : ∀ x, S x = none → S' x = none) (p : ∀ x, S x = some (.part b) → S' x = some (.part b)) : ro K H S' b o := by
  have ls : Ext H S H S' := Ext.ofNone n
  cases o with
  | lst ds => obtain ⟨vs, h1, r⟩ := h; exact ⟨vs, h1, ls.rvs hS ds vs r⟩
  | ins C ks ds => obtain ⟨dx, vs, h1, l, r⟩ := h; exact ⟨dx, vs, h1, l, ls.rvs hS ds vs r⟩
  | part b => exact h
  | hst C ks l0 l1 l2 w more =>
    obtain ⟨dx, s, t, e, v0, v1, v2, vw, vm, h, hl, ⟨s1, s2, s3⟩, ne, hh, ⟨r1, r2, r3⟩, rw', rm⟩ := h
    exact ⟨dx, s, t, e, v0, v1, v2, vw, vm, h, hl, ⟨p s s1, p t s2, p e s3⟩, ne, hh, ⟨ls.rvs hS _ _ r1, ls.rvs hS _ _ r2, ls.rvs hS _ _ r3⟩, ls.rv hS _ _ rw', ls.rvs hS _ _ rm⟩
  | draw v m =>
    cases v with
    | false =>
      obtain ⟨c, cells, n, h1, sc, hc, r⟩ := h
      exact ⟨c, cells, n, h1, p c sc, hc, r⟩
    | true =>
      obtain ⟨c, r, cells, rests, n, h1, sc, sr, ne, hc, hr, z⟩ := h
      exact ⟨c, r, cells, rests, n, h1, p c sc, p r sr, ne, hc, hr, z⟩
theorem rvs_ints_eq {ns : List Int} {vs : List V} (h : rvs K H S (ns.map D.int) vs) : vs = ns.map V.int := h.ints
variable {a c r : Addr} {n : Nat} {m : Int} {cells rests : List Int}
theorem open_state {G : Sto → Prop} (hS : RS K H S) (ha : S a = some (.draw true n)) (e1 : H a = some (.lst [.ref c, .int m, .ref r])) (e2 : S c = some (.part a)) (e3 : S r = some (.part a)) (ne : c ≠ r) (e4 : H c = some (.lst (cells.map V.int))) (e5 : H r = some (.lst (rests.map V.int)))
    (pc : ∀ z ∈ cells, 0 ≤ z) (lc : cells.length ≤ 63) (nc : cells ≠ [])
    (go : ∀ S2 : Sto, a ≠ r → S2 a = some (.lst [.ref c, .int m, .ref r]) → S2 c = some (.lst (cells.map .int)) → S2 r = some (.lst (rests.map .int)) →
      (∀ (S3 : Sto) (m' : Int) (rests' : List Int) (n' : Nat), S3 a = some (.lst [.ref c, .int m', .ref r]) → S3 c = some (.lst (cells.map .int)) → S3 r = some (.lst (rests'.map .int)) → (∀ x, x ≠ a → x ≠ r → S3 x = S2 x) → 0 ≤ m' → m' ≤ (n' : Int) → (∀ z ∈ rests', 0 ≤ z) → rests'.length = cells.length → Wk K (put S a (.draw true n')) S3) → G S2) :
    ∃ S2, RS K H S2 ∧ (∀ a, S a = none → S2 a = none) ∧ G S2 := by
  have nca : c ≠ a := fun z => by rw [z, ha] at e2; cases e2
  have nra : r ≠ a := fun z => by rw [z, ha] at e3; cases e3
  let S2 : Sto := fun b => if b = a then some (.lst [.ref c, .int m, .ref r]) else if b = c then some (.lst (cells.map .int)) else if b = r then some (.lst (rests.map .int)) else S b
  have s2a : S2 a = some (.lst [.ref c, .int m, .ref r]) := if_pos rfl
  have s2c : S2 c = some (.lst (cells.map .int)) := by show (if c = a then _ else _) = _; rw [if_neg nca, if_pos rfl]
  have s2r : S2 r = some (.lst (rests.map .int)) := by show (if r = a then _ else _) = _; rw [if_neg nra, if_neg (Ne.symm ne), if_pos rfl]
  have s2o : ∀ {x}, x ≠ a → x ≠ c → x ≠ r → S2 x = S x := fun {x} h1 h2 h3 => by show (if x = a then _ else _) = _; rw [if_neg h1, if_neg h2, if_neg h3]
  have nn : ∀ x, S x = none → S2 x = none := fun x h => by
    rw [s2o (fun z => by rw [z, ha] at h; cases h) (fun z => by rw [z, e2] at h; cases h) (fun z => by rw [z, e3] at h; cases h)]; exact h
  refine ⟨S2, ?_, nn, go S2 (Ne.symm nra) s2a s2c s2r ?_⟩
  · intro b o e
    by_cases h1 : b = a
    · subst h1; rw [s2a] at e; cases e
      exact ⟨_, e1, _, _, rfl, rfl, _, _, rfl, rfl, _, _, rfl, rfl, rfl⟩
    by_cases h2 : b = c
    · subst h2; rw [s2c] at e; cases e
      exact ⟨_, e4, rvs.of_ints⟩
    by_cases h3 : b = r
    · subst h3; rw [s2r] at e; cases e
      exact ⟨_, e5, rvs.of_ints⟩
    rw [s2o h1 h2 h3] at e
    refine ro_mv (hS b o e) hS nn fun x q => ?_
    rw [s2o (fun z => by rw [z, ha] at q; cases q) (fun z => by rw [z, e2] at q; cases q; exact h1 rfl) (fun z => by rw [z, e3] at q; cases q; exact h1 rfl)]
    exact q
  · intro S3 m' rests' n' q1 q2 q3 qo b1 b2 b3 b4
    have q1' : S3 a ≠ none := by rw [q1]; exact fun z => nomatch z
    have sp : ∀ {x}, x ≠ a → put S a (.draw true n') x = S x := fun h => put_ne h
    have nn3 : ∀ x, S3 x = none → put S a (.draw true n') x = none := fun x h => by
      have h1 : x ≠ a := fun z => by rw [z, q1] at h; cases h
      have h2 : x ≠ c := fun z => by rw [z, q2] at h; cases h
      have h3 : x ≠ r := fun z => by rw [z, q3] at h; cases h
      rw [sp h1, ← s2o h1 h2 h3, ← qo x h1 h3]; exact h
    refine ⟨fun H' hS' => ?_, nn3⟩
    intro b o e
    by_cases h1 : b = a
    · subst h1
      rw [put_same] at e; cases e
      obtain ⟨vs, hv, q⟩ := hS' b _ q1
      obtain ⟨v1, t1, rfl, g1, v2, t2, rfl, g2, v3, t3, rfl, g3, rfl⟩ := q
      cases g1; cases g2; cases g3
      obtain ⟨ws, hw, qw⟩ := hS' c _ q2
      obtain ⟨us, hu, qu⟩ := hS' r _ q3
      rw [qw.ints] at hw
      rw [qu.ints] at hu
      exact ⟨c, r, cells, rests', m', hv, by rw [sp nca]; exact e2, by rw [sp nra]; exact e3, ne, hw, hu, b1, b2, pc, b3, b4, lc, nc⟩
    rw [sp h1] at e
    by_cases h2 : b = c
    · subst h2; rw [e2] at e; cases e
      obtain ⟨ws, hw, _⟩ := hS' b _ q2
      exact ⟨ws, hw⟩
    by_cases h3 : b = r
    · subst h3; rw [e3] at e; cases e
      obtain ⟨ws, hw, _⟩ := hS' b _ q3
      exact ⟨ws, hw⟩
    refine ro_mv (hS' b o (by rw [qo b h1 h3, s2o h1 h2 h3]; exact e)) hS' nn3 fun x q => ?_
    have k1 : x ≠ a := fun z => by rw [z, q1] at q; cases q
    have k2 : x ≠ c := fun z => by rw [z, q2] at q; cases q
    have k3 : x ≠ r := fun z => by rw [z, q3] at q; cases q
    rw [sp k1, ← s2o k1 k2 k3, ← qo x k1 k3]; exact q
/-- three lists become a state -/
theorem make_state {S3 : Sto} (nca : c ≠ a) (nra : r ≠ a) (ne : c ≠ r) (qa : S a = none) (qc : S c = none) (qr : S r = none) (q1 : S3 a = some (.lst [.ref c, .int 0, .ref r])) (q2 : S3 c = some (.lst (cells.map .int))) (q3 : S3 r = some (.lst (rests.map .int))) (qo : ∀ x, x ≠ a → x ≠ c → x ≠ r → S3 x = S x)
    (pc : ∀ z ∈ cells, 0 ≤ z) (pr : ∀ z ∈ rests, 0 ≤ z) (el : rests.length = cells.length) (lc : cells.length ≤ 63) (nc : cells ≠ []) :
    ∃ S4 : Sto, Wk K S4 S3 ∧ S4 a = some (.draw true 0) ∧ More S S4 := by
  let S4 : Sto := fun b => if b = a then some (.draw true 0) else if b = c then some (.part a) else if b = r then some (.part a) else S b
  have s4a : S4 a = some (.draw true 0) := if_pos rfl
  have s4c : S4 c = some (.part a) := by show (if c = a then _ else _) = _; rw [if_neg nca, if_pos rfl]
  have s4r : S4 r = some (.part a) := by show (if r = a then _ else _) = _; rw [if_neg nra, if_neg (Ne.symm ne), if_pos rfl]
  have s4o : ∀ {x}, x ≠ a → x ≠ c → x ≠ r → S4 x = S x := fun {x} h1 h2 h3 => by show (if x = a then _ else _) = _; rw [if_neg h1, if_neg h2, if_neg h3]
  have nn : ∀ x, S3 x = none → S4 x = none := fun x h => by
    have h1 : x ≠ a := fun z => by rw [z, q1] at h; cases h
    have h2 : x ≠ c := fun z => by rw [z, q2] at h; cases h
    have h3 : x ≠ r := fun z => by rw [z, q3] at h; cases h
    rw [s4o h1 h2 h3, ← qo x h1 h2 h3]; exact h
  refine ⟨S4, ⟨fun H' hS' => ?_, nn⟩, s4a, fun x o e => ?_⟩
  · intro b o e
    by_cases h1 : b = a
    · subst h1
      rw [s4a] at e; cases e
      obtain ⟨vs, hv, q⟩ := hS' b _ q1
      obtain ⟨v1, t1, rfl, g1, v2, t2, rfl, g2, v3, t3, rfl, g3, rfl⟩ := q
      cases g1; cases g2; cases g3
      obtain ⟨ws, hw, qw⟩ := hS' c _ q2
      obtain ⟨us, hu, qu⟩ := hS' r _ q3
      rw [qw.ints] at hw
      rw [qu.ints] at hu
      exact ⟨c, r, cells, rests, 0, hv, s4c, s4r, ne, hw, hu, Int.le_refl 0, Int.le_refl 0, pc, pr, el, lc, nc⟩
    by_cases h2 : b = c
    · subst h2; rw [s4c] at e; cases e
      obtain ⟨ws, hw, _⟩ := hS' b _ q2
      exact ⟨ws, hw⟩
    by_cases h3 : b = r
    · subst h3; rw [s4r] at e; cases e
      obtain ⟨ws, hw, _⟩ := hS' b _ q3
      exact ⟨ws, hw⟩
    rw [s4o h1 h2 h3] at e
    refine ro_mv (hS' b o (by rw [qo b h1 h2 h3]; exact e)) hS' nn fun x q => ?_
    have k1 : x ≠ a := fun z => by rw [z, q1] at q; cases q
    have k2 : x ≠ c := fun z => by rw [z, q2] at q; cases q
    have k3 : x ≠ r := fun z => by rw [z, q3] at q; cases q
    rw [s4o k1 k2 k3, ← qo x k1 k2 k3]; exact q
  · rw [s4o (fun z => by rw [z, qa] at e; cases e) (fun z => by rw [z, qc] at e; cases e) (fun z => by rw [z, qr] at e; cases e)]; exact e
end
/-! ### helps -/
theorem ix_at {α : Type} {xs : List α} {i : Int} {x : α} (h : xs[i.toNat]? = some x) (h0 : 0 ≤ i) : atI xs i = some x := by
  have lt := (List.getElem?_eq_some_iff.mp h).1
  unfold atI ixN
  rw [if_pos h0, if_pos (by omega)]
  exact h
theorem ix_n {n : Nat} {i : Int} (h0 : 0 ≤ i) (h : i < n) : ixN n i = some i.toNat := by
  unfold ixN; rw [if_pos h0, if_pos h]
theorem put_put {S : Sto} {a : Addr} {o u : OB} : put (put S a o) a u = put S a u := by funext x; unfold put; split <;> rfl
theorem cutD_take {α : Type} (xs : List α) (k : Nat) : cutD xs none (some (k : Int)) = xs.take k := by
  unfold cutD HT.sIx
  have h : ¬ ((k : Int) < 0) := by omega
  simp only [h, if_false, Int.toNat_natCast, List.drop_zero, Nat.sub_zero]
  rw [List.take_eq_take_iff]; omega
end Dl
namespace Dl
open PySem PySem.Spec PyProof.Rows L2
theorem emod_bd (a : Int) {b : Int} (h : 0 < b) : 0 ≤ a % b ∧ a % b < b := ⟨Int.emod_nonneg _ (by omega), Int.emod_lt_of_pos _ h⟩
theorem ediv_bd {a b : Int} (h0 : 0 ≤ a) (h : 0 < b) : 0 ≤ a / b := Int.ediv_nonneg h0 (by omega)
theorem sq_bd {m : Int} (h0 : 0 ≤ m) (h1 : m ≤ 1000000) : 0 ≤ m * m ∧ m * m ≤ 1000000000000 := by
  refine ⟨Int.mul_nonneg h0 h0, ?_⟩
  have : m * m ≤ 1000000 * 1000000 := Int.mul_le_mul h1 h1 h0 (by decide)
  exact this
theorem cmul_r {i j : Int} (h : -(2 ^ 64) < j ∧ j < 2 ^ 64 := by decide) : CMul i j := .inr h
theorem cmul_l {i j : Int} (h : -(2 ^ 64) < i ∧ i < 2 ^ 64 := by decide) : CMul i j := .inl h
theorem cpow3 {i : Int} (h0 : 0 ≤ i) (h1 : i < 18446744073709551616) : CPow i 3 := ⟨by decide, by decide, by omega⟩
theorem cpow_c {i j : Int} (h : (0 ≤ j ∧ j ≤ 1000000) ∧ i.natAbs < 2 ^ 64 := by decide) : CPow i j := ⟨h.1.1, h.1.2, h.2⟩
end Dl
namespace Dl
open PySem PySem.Spec PyProof.Rows L2
theorem lcN_map {α : Type} {B : Bnd} {tt : TTD} {te : TED} {ρ : DEnv} {ds : List D} {S1 : Sto} {R : QD} {keep : Sto → Prop} (xs : List α) (enc : α → D) (p : α → Bool) (f : α → D) (e : ds = xs.map enc) (hz : xs.length ≤ sizeLine)
    (hk : ∀ S', More S1 S' → keep S')
    (h : ∀ a ∈ xs, ∀ S', More S1 S' → ∀ (Rt : QD) (Rn : Sto → Prop), (p a = true → Rt (f a) S') → (p a = false → Rn S') → ∃ ρ2, B.bd (enc a) (wipeD ρ (B.own.map (·.2))) = some ρ2 ∧ tt ρ2 S' (fun b S3 => if b = true then te ρ2 S3 Rt E0D else Rn S3) E0D)
    (hR : ∀ q, S1 q = none → R (.ref q) (put S1 q (.lst ((xs.filter p).map f)))) : LcAsksN B tt te ρ ds keep S1 R := by
  subst e
  refine ⟨fun k acc S' => S' = S1 ∧ acc = ((xs.take k).filter p).map f, ⟨rfl, rfl⟩, ?_, ?_, ?_⟩
  · rintro k acc S' q ⟨rfl, _⟩ n
    exact hk _ (More.put n)
  · rintro k d acc S' q hd ⟨rfl, rfl⟩ n
    rw [List.getElem?_map] at hd
    cases ha : xs[k]? with
    | none => rw [ha] at hd; cases hd
    | some a =>
      rw [ha] at hd
      have hd : enc a = d := Option.some.inj hd
      subst hd
      have lt := (List.getElem?_eq_some_iff.mp ha).1
      have ll : (((xs.take k).filter p).map f).length < sizeLine := by
        rw [List.length_map]
        have := List.length_filter_le p (xs.take k)
        rw [List.length_take] at this
        omega
      refine h a (List.mem_of_getElem? ha) _ (More.put n) _ _ (fun pa => ⟨ll, S', rfl, n, rfl, ?_⟩) fun pa => ⟨S', rfl, n, rfl, ?_⟩
      · rw [take_snoc ha, List.filter_append, List.map_append, List.filter_cons_of_pos pa]; rfl
      · rw [take_snoc ha, List.filter_append, List.map_append, List.filter_cons_of_neg (by rw [pa]; exact Bool.false_ne_true)]; simp
  · rintro acc S' q ⟨rfl, rfl⟩ n
    rw [List.length_map, List.take_length]
    exact hR q n
section
variable {S : Sto} {R : QD} {p q : Int} {u v : Str} {b c : Bool} {ρ : DEnv} {E : XD}
theorem py_ne {x y : D} {p q : PyData} (hx : pyS S x = some p) (hy : pyS S y = some q) (s1 : SeqAt.shaped p = true) (s2 : SeqAt.shaped q = true) (b : Bool) (e : PyData.eqv p q = b) (h : R (.bl b) S) : opEq x y S R := ⟨p, q, hx, hy, s1, s2, by rw [e]; exact h⟩
theorem r_eqI : opEq (.int p) (.int q) S R = R (.bl (decide (p = q))) S := propext ⟨fun ⟨a, b, e1, e2, _, _, h⟩ => by
  cases e1; cases e2
  have : PyData.eqv (.int p) (.int q) = decide (p = q) := rfl
  rw [← this]; exact h, fun h => ⟨_, _, rfl, rfl, rfl, rfl, h⟩⟩
theorem r_neI : opNe (.int p) (.int q) S R = R (.bl (!decide (p = q))) S := propext ⟨fun ⟨a, b, e1, e2, _, _, h⟩ => by
  cases e1; cases e2
  have : PyData.eqv (.int p) (.int q) = decide (p = q) := rfl
  rw [← this]; exact h, fun h => ⟨_, _, rfl, rfl, rfl, rfl, h⟩⟩
theorem r_iLsN {te : TED} {ti : TID} {B : Bnd} {tt : TTD} : dLcN ti B tt te ρ S R E = ti ρ S (fun ds keep S1 => LcAsksN B tt te ρ ds keep S1 R) E := rfl
end
end Dl
namespace Dl
open PySem PySem.Spec PyProof.Rows L2
theorem filt_true {α : Type} {l : List α} : l.filter (fun _ => true) = l := by simp
/-- a deck's cells -/
theorem cells_of {ns : List Int} (hl : ns.length ≤ 63) : ∃ cs : List Int, List.map (fun z => D.int (if z < 0 then -z else z)) (List.filter (fun _ => true) ns) ++ (List.replicate (if (ns.length : Int) = 0 then (1 : Int) else 0).toNat [D.int 0]).flatten = cs.map D.int ∧ (∀ z ∈ cs, 0 ≤ z) ∧ cs.length ≤ 63 ∧ cs ≠ [] := by
  cases ns with
  | nil => exact ⟨[0], rfl, (by simp), by decide, by simp⟩
  | cons n r =>
    refine ⟨((n :: r).map fun z => if z < 0 then -z else z), ?_, fun z hz => ?_, by rw [List.length_map]; exact hl, by simp⟩
    · have h : ¬ (((n :: r).length : Int) = 0) := by simp; omega
      rw [if_neg h, filt_true]
      simp
    · obtain ⟨x, _, rfl⟩ := List.mem_map.mp hz
      split <;> omega
end Dl
namespace Dl
open PySem PySem.Spec PyProof.Rows L2
/-! ### data with a code: == -/
class Enc (α : Type) where
  enc : α → D
  pd : α → PyData
  good : α → Prop
  dep : Nat
  ok : ∀ a, py (enc a) = some (pd a)
  lay : ∀ a, good a → (pd a).canLay0 = true
  dp : ∀ a, (pd a).depth ≤ dep
  eq : ∀ a b, PyData.eqv (pd a) (pd b) = true ↔ a = b
namespace Enc
variable {α β γ : Type} [Enc α] [Enc β] [Enc γ]
theorem pys_ok : ∀ xs : List α, pys (xs.map enc) = some (xs.map pd) := pys_map ok
theorem lay_all : ∀ xs : List α, (∀ x ∈ xs, good x) → PyData.canLayAll0 (xs.map pd) = true
  | [], _ => by simp [PyData.canLayAll0]
  | x :: xs, h => by
    rw [List.map_cons, PyData.canLayAll0, lay x (h x (by simp)), lay_all xs fun y hy => h y (by simp [hy])]; rfl
theorem dp_all : ∀ xs : List α, PyData.depthAll (xs.map pd) ≤ dep α
  | [] => by simp [PyData.depthAll]
  | x :: xs => by
    rw [List.map_cons, PyData.depthAll]
    have h1 := dp x
    have h2 := dp_all xs
    omega
theorem eq_all : ∀ xs ys : List α, PyData.eqvAll (xs.map pd) (ys.map pd) = true ↔ xs = ys
  | [], [] => by simp [PyData.eqvAll]
  | [], _ :: _ => by simp [PyData.eqvAll]
  | _ :: _, [] => by simp [PyData.eqvAll]
  | x :: xs, y :: ys => by
    rw [List.map_cons, List.map_cons, PyData.eqvAll, Bool.and_eq_true, eq x y, eq_all xs ys]
    simp
instance int : Enc Int where
  enc := .int
  pd := .int
  good := fun _ => True
  dep := 0
  ok := fun _ => rfl
  lay := fun _ _ => rfl
  dp := fun _ => Nat.le_refl 0
  eq := fun a b => by simp [PyData.eqv]
instance bool : Enc Bool where
  enc := .bl
  pd := .bool
  good := fun _ => True
  dep := 0
  ok := fun _ => rfl
  lay := fun _ _ => rfl
  dp := fun _ => Nat.le_refl 0
  eq := fun a b => by simp [PyData.eqv]
instance str : Enc Str where
  enc := .str
  pd := .str
  good := fun z => PyData.strOk z = true
  dep := 0
  ok := fun _ => rfl
  lay := fun _ h => by simpa [PyData.canLay0] using h
  dp := fun _ => Nat.le_refl 0
  eq := fun a b => by simp [PyData.eqv]
instance lst : Enc (List α) where
  enc := fun l => .lst (l.map enc)
  pd := fun l => .list (l.map pd)
  good := fun l => ∀ x ∈ l, good x
  dep := dep α + 1
  ok := fun l => by unfold py; rw [pys_ok]; rfl
  lay := fun l h => by rw [PyData.canLay0]; exact lay_all l h
  dp := fun l => by rw [PyData.depth]; have := dp_all l; omega
  eq := fun a b => by rw [PyData.eqv]; exact eq_all a b
end Enc
/-- a tuple of alike items -/
structure Tp (α : Type) where
  l : List α
namespace Enc
variable {α β γ : Type} [Enc α] [Enc β] [Enc γ]
instance tp : Enc (Tp α) where
  enc := fun l => .tup (l.l.map enc)
  pd := fun l => .tuple (l.l.map pd)
  good := fun l => ∀ x ∈ l.l, good x
  dep := dep α + 1
  ok := fun l => by unfold py; rw [pys_ok]; rfl
  lay := fun l h => by rw [PyData.canLay0]; exact lay_all l.l h
  dp := fun l => by rw [PyData.depth]; have := dp_all l.l; omega
  eq := fun a b => by
    rw [PyData.eqv]
    refine (eq_all a.l b.l).trans ⟨fun h => ?_, fun h => by rw [h]⟩
    cases a; cases b; exact congrArg Tp.mk h
instance pair : Enc (α × β) where
  enc := fun p => .tup [enc p.1, enc p.2]
  pd := fun p => .tuple [pd p.1, pd p.2]
  good := fun p => good p.1 ∧ good p.2
  dep := max (dep α) (dep β) + 1
  ok := fun p => by unfold py pys pys pys; rw [ok, ok]; rfl
  lay := fun p h => by simp [PyData.canLay0, PyData.canLayAll0, lay p.1 h.1, lay p.2 h.2]
  dp := fun p => by
    rw [PyData.depth, PyData.depthAll, PyData.depthAll, PyData.depthAll]
    have h1 := dp p.1
    have h2 := dp p.2
    omega
  eq := fun a b => by
    rw [PyData.eqv, PyData.eqvAll, PyData.eqvAll, PyData.eqvAll, Bool.and_true, Bool.and_eq_true, eq, eq]
    exact ⟨fun h => Prod.ext h.1 h.2, fun h => by rw [h]; exact ⟨rfl, rfl⟩⟩
end Enc
/-- a tuple of three -/
structure T3 (α β γ : Type) where
  a : α
  b : β
  c : γ
namespace Enc
variable {α β γ : Type} [Enc α] [Enc β] [Enc γ]
instance t3 : Enc (T3 α β γ) where
  enc := fun p => .tup [enc p.a, enc p.b, enc p.c]
  pd := fun p => .tuple [pd p.a, pd p.b, pd p.c]
  good := fun p => good p.a ∧ good p.b ∧ good p.c
  dep := max (max (dep α) (dep β)) (dep γ) + 1
  ok := fun p => by unfold py pys pys pys pys; rw [ok, ok, ok]; rfl
  lay := fun p h => by simp [PyData.canLay0, PyData.canLayAll0, lay p.a h.1, lay p.b h.2.1, lay p.c h.2.2]
  dp := fun p => by
    rw [PyData.depth, PyData.depthAll, PyData.depthAll, PyData.depthAll, PyData.depthAll]
    have h1 := dp p.a
    have h2 := dp p.b
    have h3 := dp p.c
    omega
  eq := fun a b => by
    rw [PyData.eqv, PyData.eqvAll, PyData.eqvAll, PyData.eqvAll, PyData.eqvAll, Bool.and_true, Bool.and_eq_true, Bool.and_eq_true, eq, eq, eq]
    constructor
    · rintro ⟨h1, h2, h3⟩
      cases a; cases b
      simp only at h1 h2 h3
      rw [h1, h2, h3]
    · rintro rfl; exact ⟨rfl, rfl, rfl⟩
/-- None, or a value (whose code is no None) -/
instance none_or : Enc Unit where
  enc := fun _ => .non
  pd := fun _ => .none
  good := fun _ => True
  dep := 0
  ok := fun _ => rfl
  lay := fun _ _ => rfl
  dp := fun _ => Nat.le_refl 0
  eq := fun a b => by simp [PyData.eqv]
end Enc
section
variable {α : Type} [Enc α] {S : Sto} {R : QD} {x y : D} {k : Bool}
theorem sh_en {a : α} (g : Enc.good a) (hd : Enc.dep α ≤ 64) : SeqAt.shaped (Enc.pd a) = true := by
  unfold SeqAt.shaped
  rw [Enc.lay a g, Bool.true_and, decide_eq_true]
  exact Nat.le_trans (Enc.dp a) hd
/-- x is the data a, where S stands -/
def IsE (S : Sto) (x : D) (a : α) : Prop := pyS S x = some (Enc.pd a)
theorem pyS_py {d : D} {p : PyData} (h : py d = some p) : pyS S d = some p := by
  cases d <;> first | exact h | cases h
theorem isE (a : α) : IsE S (Enc.enc a) a := pyS_py (Enc.ok a)
theorem isE_ref {β : Type} [Enc β] {l : List β} {a : Addr} (h : S a = some (.lst (l.map Enc.enc))) : IsE S (.ref a) l := by
  show pyS S (.ref a) = _
  unfold pyS
  simp only [h]
  exact Enc.ok l
theorem eq_en {a b : α} (ha : IsE S x a) (hb : IsE S y b) (ga : Enc.good a) (gb : Enc.good b) (hd : Enc.dep α ≤ 64) (hk : k = true ↔ a = b) : opEq x y S R = R (.bl k) S := by
  have e : PyData.eqv (Enc.pd a) (Enc.pd b) = k := by
    have h1 := Enc.eq a b
    cases k <;> cases h : PyData.eqv (Enc.pd a) (Enc.pd b) <;> simp_all
  refine propext ⟨fun ⟨p, q, e1, e2, _, _, h⟩ => ?_, fun h => ⟨_, _, ha, hb, sh_en ga hd, sh_en gb hd, by rw [e]; exact h⟩⟩
  rw [show p = Enc.pd a from (Option.some.inj (ha.symm.trans e1)).symm, show q = Enc.pd b from (Option.some.inj (hb.symm.trans e2)).symm, e] at h
  exact h
theorem ne_en {a b : α} (ha : IsE S x a) (hb : IsE S y b) (ga : Enc.good a) (gb : Enc.good b) (hd : Enc.dep α ≤ 64) (hk : k = true ↔ a = b) : opNe x y S R = R (.bl (!k)) S := by
  have e : PyData.eqv (Enc.pd a) (Enc.pd b) = k := by
    have h1 := Enc.eq a b
    cases k <;> cases h : PyData.eqv (Enc.pd a) (Enc.pd b) <;> simp_all
  refine propext ⟨fun ⟨p, q, e1, e2, _, _, h⟩ => ?_, fun h => ⟨_, _, ha, hb, sh_en ga hd, sh_en gb hd, by rw [e]; exact h⟩⟩
  rw [show p = Enc.pd a from (Option.some.inj (ha.symm.trans e1)).symm, show q = Enc.pd b from (Option.some.inj (hb.symm.trans e2)).symm, e] at h
  exact h
theorem gI (ws : List Int) : Enc.good ws := fun _ _ => trivial
theorem r_neLI {ws us : List Int} : opNe (.lst (ws.map .int)) (.lst (us.map .int)) S R = R (.bl (!decide (ws = us))) S := ne_en (isE ws) (isE us) (gI _) (gI _) (by decide) (by simp)
theorem r_eqLI {ws us : List Int} : opEq (.lst (ws.map .int)) (.lst (us.map .int)) S R = R (.bl (decide (ws = us))) S := eq_en (isE ws) (isE us) (gI _) (gI _) (by decide) (by simp)
theorem r_neL0 {ws : List Int} : opNe (.lst (ws.map .int)) (.lst []) S R = R (.bl (!decide (ws = []))) S := r_neLI (us := [])
theorem r_neT0 {ws : List Int} : opNe (.tup (ws.map .int)) (.tup []) S R = R (.bl (!decide (ws = []))) S := ne_en (isE (Tp.mk ws)) (isE (Tp.mk ([] : List Int))) (fun _ _ => trivial) (fun _ _ => trivial) (by decide) (by simp)
theorem r_neLB {ws us : List Bool} : opNe (.lst (ws.map .bl)) (.lst (us.map .bl)) S R = R (.bl (!decide (ws = us))) S := ne_en (isE ws) (isE us) (fun _ _ => trivial) (fun _ _ => trivial) (by decide) (by simp)
theorem r_eqS {u v : Str} (hu : PyData.strOk u = true) (hv : PyData.strOk v = true) : opEq (.str u) (.str v) S R = R (.bl (decide (u = v))) S := eq_en (isE u) (isE v) hu hv (by decide) (by simp)
theorem r_neS {u v : Str} (hu : PyData.strOk u = true) (hv : PyData.strOk v = true) : opNe (.str u) (.str v) S R = R (.bl (!decide (u = v))) S := ne_en (isE u) (isE v) hu hv (by decide) (by simp)
theorem r_eqB {b c : Bool} : opEq (.bl b) (.bl c) S R = R (.bl (b == c)) S := eq_en (isE b) (isE c) trivial trivial (by decide) (by simp)
theorem r_neB {b c : Bool} : opNe (.bl b) (.bl c) S R = R (.bl (!(b == c))) S := ne_en (isE b) (isE c) trivial trivial (by decide) (by simp)
theorem r_neR0 {ws : List Int} {a : Addr} (h : S a = some (.lst (ws.map .int))) : opNe (.ref a) (.lst []) S R = R (.bl (!decide (ws = []))) S := ne_en (isE_ref h) (isE ([] : List Int)) (gI _) (gI _) (by decide) (by simp)
end
/-! ### the store, written -/
theorem put_self {S : Sto} {a : Addr} {o : OB} (h : S a = some o) : put S a o = S := by
  funext x; unfold put; split
  · rename_i e; rw [e, h]
  · rfl
theorem put_comm {S : Sto} {a b : Addr} {o u : OB} (h : a ≠ b) : put (put S a o) b u = put (put S b u) a o := by
  funext x; unfold put
  by_cases h1 : x = a
  · subst h1; rw [if_neg h, if_pos rfl, if_pos rfl]
  · rw [if_neg h1]; split <;> first | rfl | rw [if_neg h1]
/-! ### lists of ints -/
theorem ints_of {ys : List D} {Q : Int → Prop} (h : ∀ y ∈ ys, ∃ w, y = .int w ∧ Q w) : ∃ ws : List Int, ys = ws.map .int ∧ ∀ w ∈ ws, Q w := by
  induction ys with
  | nil => exact ⟨[], rfl, by simp⟩
  | cons y ys ih =>
    obtain ⟨ws, e, q⟩ := ih fun z hz => h z (by simp [hz])
    obtain ⟨w, e1, q1⟩ := h y (by simp)
    refine ⟨w :: ws, by rw [e, e1]; rfl, fun z hz => ?_⟩
    rcases List.mem_cons.mp hz with k | k
    · rw [k]; exact q1
    · exact q z k
theorem at_lt {α : Type} {xs : List α} {i : Int} (h0 : 0 ≤ i) (h : i < xs.length) : ∃ x ∈ xs, atI xs i = some x := by
  have lt : i.toNat < xs.length := by omega
  exact ⟨_, List.getElem_mem lt, ix_at (List.getElem?_eq_getElem lt) h0⟩
/-! ### a comprehension of draws -/
theorem lc_draw {B : Bnd} {tt : TTD} {te : TED} {ρ : DEnv} {ds : List D} {S1 : Sto} {R : QD} {keep : Sto → Prop} {a : Addr} {v : Bool} {n : Nat} (c : Nat) (P : D → Prop) (ha : S1 a = some (.draw v n)) (hz : ds.length ≤ sizeLine) (hk : ∀ S', keep S')
    (h : ∀ d ∈ ds, ∀ S' m, S' a = some (.draw v m) → n ≤ m → m ≤ n + c * ds.length → ∀ (Rt : QD) (Rn : Sto → Prop), (∀ y, P y → Rt y (put S' a (.draw v (m + c)))) → ∃ ρ2, B.bd d (wipeD ρ (B.own.map (·.2))) = some ρ2 ∧ tt ρ2 S' (fun b S3 => if b = true then te ρ2 S3 Rt E0D else Rn S3) E0D)
    (hR : ∀ ys : List D, ys.length = ds.length → (∀ y ∈ ys, P y) → R (.lst ys) (put S1 a (.draw v (n + c * ds.length)))) : LcAsks B tt te ρ ds keep S1 R := by
  refine ⟨fun k acc S' => S' = put S1 a (.draw v (n + c * k)) ∧ acc.length = k ∧ ∀ y ∈ acc, P y, ⟨by rw [Nat.mul_zero, Nat.add_zero, put_self ha], rfl, by simp⟩, fun _ _ _ _ _ _ => hk _, ?_, ?_⟩
  · rintro k d acc S' p hd ⟨rfl, hl, hP⟩ np
    have lt := (List.getElem?_eq_some_iff.mp hd).1
    have pa : p ≠ a := fun z => by rw [z, put_same] at np; cases np
    refine h d (List.mem_of_getElem? hd) _ (n + c * k) (by rw [put_ne (Ne.symm pa), put_same]) (Nat.le_add_right _ _) (Nat.add_le_add_left (Nat.mul_le_mul_left c (Nat.le_of_lt lt)) n) _ _ fun y hy => ?_
    refine ⟨by omega, put S1 a (.draw v (n + c * (k + 1))), ?_, ?_, rfl, by rw [List.length_append, hl]; rfl, fun z hz => ?_⟩
    · rw [put_comm pa, put_put, Nat.mul_succ, Nat.add_assoc]
    · rw [put_ne pa] at np ⊢; exact np
    · rcases List.mem_append.mp hz with q | q
      · exact hP z q
      · rw [List.mem_singleton.mp q]; exact hy
  · rintro acc S' ⟨rfl, hl, hP⟩
    exact hR acc hl hP
end Dl
namespace Dl
open PySem PySem.Spec PyProof.Rows L2
theorem sub_draw {S : Sto} {a : Addr} {v : Bool} {m N : Nat} (h : m ≤ N) : Sub (put S a (.draw v N)) (put S a (.draw v m)) := by
  refine ⟨fun b o e => ?_, fun c b e _ => ?_⟩
  · by_cases hb : b = a
    · subst hb; rw [put_same] at e ⊢; cases e
      exact .inr ⟨v, N, m, rfl, rfl, h⟩
    · rw [put_ne hb] at e ⊢; exact .inl e
  · by_cases hc : c = a
    · subst hc; rw [put_same] at e; cases e
    · rw [put_ne hc] at e ⊢; exact e
theorem fin_draw {K : PySem.W.Frag} {R : QD} {d : D} {S : Sto} {a : Addr} {v : Bool} {m N : Nat} (h : m ≤ N) (r : R d (put S a (.draw v N))) : fin K R d (put S a (.draw v m)) := fin_sub (sub_draw h) r
theorem sub_put2 {S S' : Sto} {p : Addr} {o : OB} (ho : ∀ b, o ≠ .part b) (n : S' p = none) (u : Sub S S') : Sub S (put S' p o) := by
  refine ⟨fun b o' e => ?_, fun c b e q => ?_⟩
  · by_cases hb : b = p
    · subst hb
      have := u.none n
      rw [this] at e; cases e
    · rw [put_ne hb]; exact u.1 b o' e
  · by_cases hc : c = p
    · subst hc; rw [put_same] at e; cases e; exact absurd rfl (ho b)
    · rw [put_ne hc] at e; exact u.2 c b e q
theorem wk_draw_tmp {K : PySem.W.Frag} {S : Sto} {a p : Addr} {v : Bool} {m N : Nat} {ds : List D} (h : m ≤ N) (pa : p ≠ a) (n : S p = none) : Wk K (put S a (.draw v N)) (put (put S a (.draw v m)) p (.lst ds)) :=
  (sub_put2 (fun _ z => by cases z) (by rw [put_ne pa]; exact n) (sub_draw h)).wk
theorem cutD_len {α : Type} (xs : List α) (m : Int) (h : 0 ≤ m) : (cutD xs none (some m)).length ≤ m.toNat := by
  rw [show m = ((m.toNat : Nat) : Int) by omega, cutD_take, List.length_take]; omega
theorem cutD_sub {α : Type} {xs : List α} {l h : Option Int} {x : α} (hx : x ∈ cutD xs l h) : x ∈ xs := List.mem_of_mem_drop (List.mem_of_mem_take hx)
theorem cutD_ints (ns : List Int) (l h : Option Int) : cutD (ns.map D.int) l h = (cutD ns l h).map .int := by
  unfold cutD
  rw [List.length_map, List.map_take, List.map_drop]
end Dl
namespace Dl
open PySem PySem.Spec PyProof.Rows L2
theorem at_last {ds : List D} {d : D} : atI (ds ++ [d]) (-1) = some d := by
  unfold atI ixN
  rw [if_neg (by decide), if_pos (by rw [List.length_append]; simp; omega)]
  have : (-1 + ((ds ++ [d]).length : Int)).toNat = ds.length := by rw [List.length_append]; simp; omega
  show (ds ++ [d])[(-1 + ((ds ++ [d]).length : Int)).toNat]? = some d
  rw [this]; simp
theorem wk_draw_any {K : PySem.W.Frag} {S S1 S2 : Sto} {a p : Addr} {v : Bool} {N : Nat} {ds : List D} (np : S1 p = none) (u : Sub S2 S1) : Wk K S2 (put S1 p (.lst ds)) := (sub_put2 (fun _ z => by cases z) np u).wk
end Dl
namespace Dl
open PySem PySem.Spec PyProof.Rows L2 TL
/-! ### texts -/
def dec (i : Int) : Str := Str.ofString (toString i)
theorem tl_dec {i : Int} (h : 0 ≤ i) : tl (dec i) = numL i.toNat := by
  obtain ⟨n, rfl⟩ := Int.eq_ofNat_of_zero_le h
  unfold dec
  rw [tl_num]; rfl
theorem dec_signs {i : Int} {c : Nat} (h : c ∈ tl (dec i)) : c = 45 ∨ (48 ≤ c ∧ c ≤ 57) := by
  by_cases h1 : c = 45
  · exact .inl h1
  · by_cases h2 : c < 48 ∨ 57 < c
    · exact absurd h (int_text_free' c ⟨h1, h2⟩ i)
    · omega
theorem dec_inj {i j : Int} (hi : 0 ≤ i) (hj : 0 ≤ j) (h : dec i = dec j) : i = j := by
  have := congrArg tl h
  rw [tl_dec hi, tl_dec hj] at this
  have := numL_inj this
  omega
theorem dec_len {i : Int} (h0 : 0 ≤ i) (h : i < 1000000000) : (dec i).length ≤ 9 := toString_length_le h0 (by decide) h
theorem log_ok {i : Int} (h : i.natAbs < 1000000000) : i.natAbs.log2 < 1920 := by
  by_cases h0 : i.natAbs = 0
  · rw [h0]; decide
  · exact (Nat.log2_lt h0).mpr (Nat.lt_trans h (Nat.lt_of_lt_of_le (by decide : 1000000000 < 2 ^ 30) (Nat.pow_le_pow_right (by decide) (by decide))))
def okT (x : Str) : Prop := ∀ c ∈ tl x, c < 0x110000
theorem okT_iff {x : Str} : PyData.strOk x = true ↔ okT x := by
  unfold PyData.strOk okT tl
  rw [Array.all_eq_true_iff_forall_mem]
  simp
theorem okT_dec (i : Int) : okT (dec i) := fun c h => by
  rcases dec_signs h with k | k <;> omega
theorem okT_app {x y : Str} (hx : okT x) (hy : okT y) : okT (x ++ y) := fun c h => by
  rw [tl_append] at h
  exact (List.mem_append.mp h).elim (hx c) (hy c)
theorem okT_join {z : Str} (hz : okT z) : ∀ {xs : List Str}, (∀ x ∈ xs, okT x) → okT (Str.join z xs)
  | [], _ => fun c h => by cases h
  | [x], h => h x (by simp)
  | x :: y :: r, h => okT_app (okT_app (h x (by simp)) hz) (okT_join hz fun u hu => h u (by simp [hu]))
/-! ### data shown -/
mutual
def small : PyData → Bool
  | .none => true
  | .bool _ => true
  | .int i => decide (0 ≤ i ∧ i < 1000000000)
  | .str _ => false
  | .list xs => smallAll xs
  | .tuple xs => smallAll xs
  | .dict _ => false
def smallAll : List PyData → Bool
  | [] => true
  | x :: xs => small x && smallAll xs
end
theorem okT_lit {s : String} (h : (s.toList.all fun c => decide (c.toNat < 0x110000)) = true) : okT (Str.ofString s) := fun c hc => by
  rw [tl_ofString] at hc
  obtain ⟨k, hk, rfl⟩ := List.mem_map.mp hc
  exact of_decide_eq_true (List.all_eq_true.mp h k hk)
mutual
theorem small_ok : ∀ d : PyData, small d = true → d.showable = true ∧ d.leavesShort 13 = true ∧ okT d.shown
  | .none, _ => ⟨rfl, rfl, by rw [PyData.shown_none]; exact okT_lit (by decide)⟩
  | .bool b, _ => ⟨rfl, rfl, by rw [PyData.shown_bool]; cases b <;> exact okT_lit (by decide)⟩
  | .int i, h => by
    have h' : 0 ≤ i ∧ i < 1000000000 := of_decide_eq_true (by simpa only [small] using h)
    refine ⟨by simpa only [PyData.showable, decide_eq_true_eq] using log_ok (by omega), ?_, by rw [PyData.shown_int]; exact okT_dec i⟩
    simp only [PyData.leavesShort, decide_eq_true_eq]
    exact Nat.le_trans (dec_len h'.1 h'.2) (by decide)
  | .str x, h => by simp [small] at h
  | .list xs, h => by
    obtain ⟨h1, h2, h3⟩ := small_all xs (by simpa only [small] using h)
    refine ⟨by simpa only [PyData.showable] using h1, by simpa only [PyData.leavesShort] using h2, ?_⟩
    rw [PyData.shown_list]
    exact okT_app (okT_app (okT_lit (by decide)) (okT_join (okT_lit (by decide)) h3)) (okT_lit (by decide))
  | .tuple xs, h => by
    obtain ⟨h1, h2, h3⟩ := small_all xs (by simpa only [small] using h)
    refine ⟨by simpa only [PyData.showable] using h1, by simpa only [PyData.leavesShort] using h2, ?_⟩
    rw [PyData.shown_tuple]
    refine okT_app (okT_app (okT_lit (by decide)) (okT_join (okT_lit (by decide)) h3)) ?_
    split <;> exact okT_lit (by decide)
  | .dict _, h => by simp [small] at h
theorem small_all : ∀ xs : List PyData, smallAll xs = true → PyData.showableAll xs = true ∧ PyData.leavesShortAll 13 xs = true ∧ ∀ x ∈ PyData.shownAll xs, okT x
  | [], _ => ⟨rfl, rfl, by simp [PyData.shownAll]⟩
  | x :: xs, h => by
    have h' : small x = true ∧ smallAll xs = true := by simpa only [smallAll, Bool.and_eq_true] using h
    obtain ⟨a1, a2, a3⟩ := small_ok x h'.1
    obtain ⟨b1, b2, b3⟩ := small_all xs h'.2
    refine ⟨by rw [PyData.showableAll, a1, b1]; rfl, by rw [PyData.leavesShortAll, a2, b2]; rfl, fun y hy => ?_⟩
    simp only [PyData.shownAll, List.mem_cons] at hy
    rcases hy with rfl | hy
    · exact a3
    · exact b3 y hy
end
theorem small_map {α : Type} {f : α → PyData} : ∀ {xs : List α}, (∀ x ∈ xs, small (f x) = true) → smallAll (xs.map f) = true
  | [], _ => rfl
  | x :: xs, h => by
    rw [List.map_cons, smallAll, h x (by simp), small_map fun y hy => h y (by simp [hy])]; rfl
theorem bulk_map {α : Type} {f : α → PyData} {b : Nat} : ∀ {xs : List α}, (∀ x ∈ xs, (f x).bulk ≤ b) → PyData.bulkAll (xs.map f) ≤ (b + 1) * xs.length
  | [], _ => by simp [PyData.bulkAll]
  | x :: xs, h => by
    rw [List.map_cons, PyData.bulkAll, List.length_cons, Nat.mul_succ]
    have h1 := h x (by simp)
    have h2 := bulk_map (xs := xs) fun y hy => h y (by simp [hy])
    omega
theorem small_len {d : PyData} (h : small d = true) (hb : d.bulk ≤ 1000000) : d.shown.length ≤ sizeLine := by
  have := PyData.shown_le_bulk 13 (by decide) d (small_ok d h).2.1
  have e : (15000013 : Nat) ≤ sizeLine := by decide
  omega
theorem r_repr {α : Type} [Enc α] {S : Sto} {R : QD} {x : D} {a : α} (h : IsE S x a) (hs : small (Enc.pd a) = true) (hb : (Enc.pd a).bulk ≤ 1000000) (hd : Enc.dep α ≤ 60) (r : okT (Enc.pd a).shown → R (.str (Enc.pd a).shown) S) : cRepr [x] S R := by
  obtain ⟨h1, _, h3⟩ := small_ok _ hs
  refine ⟨Enc.pd a, ?_, h1, Nat.le_trans (Enc.dp a) hd, small_len hs hb, r h3⟩
  have e : pyS S x = some (Enc.pd a) := h
  cases x with
  | dct kvs => cases e
  | _ => exact e
/-! ### joined numbers -/
theorem split_free {s : Nat} {p q r t : List Nat} (hp : s ∉ p) (hq : s ∉ q) (h : p ++ s :: r = q ++ s :: t) : p = q ∧ r = t := by
  induction p generalizing q with
  | nil =>
    cases q with
    | nil => exact ⟨rfl, (List.cons.inj h).2⟩
    | cons b q => exact absurd (List.cons.inj h).1 (fun e => hq (by rw [e]; simp))
  | cons a p ih =>
    cases q with
    | nil => exact absurd (List.cons.inj h).1 (fun e => hp (by rw [← e]; simp))
    | cons b q =>
      obtain ⟨e1, e2⟩ := List.cons.inj h
      obtain ⟨e3, e4⟩ := ih (fun k => hp (by simp [k])) (fun k => hq (by simp [k])) e2
      exact ⟨by rw [e1, e3], e4⟩
theorem joinL_inj {s : Nat} {S : List Nat} {ps qs : List (List Nat)} (h1 : ps ≠ []) (h2 : qs ≠ []) (hp : ∀ p ∈ ps, s ∉ p) (hq : ∀ p ∈ qs, s ∉ p) (h : joinL (s :: S) ps = joinL (s :: S) qs) : ps = qs := by
  rw [← spl_join h1 hp, ← spl_join h2 hq, h]
theorem sum_le {α : Type} {f : α → Nat} {b : Nat} : ∀ {xs : List α}, (∀ x ∈ xs, f x ≤ b) → (xs.map f).sum ≤ b * xs.length
  | [], _ => by simp
  | x :: xs, h => by
    rw [List.map_cons, List.sum_cons, List.length_cons, Nat.mul_succ]
    have h1 := h x (by simp)
    have h2 := sum_le (xs := xs) fun y hy => h y (by simp [hy])
    omega
end Dl
namespace Dl
open PySem PySem.Spec PyProof.Rows L2 TL
theorem sz_le {n : Nat} (h : n ≤ 1000000 := by decide) : (n ≤ sizeLine) = True := eq_true (Nat.le_trans h (by decide))
theorem sz0 : (0 ≤ sizeLine) = True := sz_le
theorem sz1 : (1 ≤ sizeLine) = True := sz_le
theorem sz2 : (2 ≤ sizeLine) = True := sz_le
theorem sz3 : (3 ≤ sizeLine) = True := sz_le
theorem sz4 : (4 ≤ sizeLine) = True := sz_le
theorem sz5 : (5 ≤ sizeLine) = True := sz_le
theorem sz6 : (6 ≤ sizeLine) = True := sz_le
theorem sz7 : (7 ≤ sizeLine) = True := sz_le
theorem sz8 : (8 ≤ sizeLine) = True := sz_le
theorem sz9 : (9 ≤ sizeLine) = True := sz_le
theorem sz10 : (10 ≤ sizeLine) = True := sz_le
theorem sz11 : (11 ≤ sizeLine) = True := sz_le
theorem sz12 : (12 ≤ sizeLine) = True := sz_le
theorem pw6 : CPow 10 6 = True := eq_true cpow_c
theorem pw9 : CPow 10 9 = True := eq_true cpow_c
theorem pw18 : CPow 10 18 = True := eq_true cpow_c
theorem at0 {α : Type} {x : α} {xs : List α} : atI (x :: xs) 0 = some x := ix_at rfl (by decide)
theorem at1 {α : Type} {x y : α} {xs : List α} : atI (x :: y :: xs) 1 = some y := ix_at rfl (by decide)
theorem at2 {α : Type} {x y z : α} {xs : List α} : atI (x :: y :: z :: xs) 2 = some z := ix_at rfl (by decide)
theorem at3 {α : Type} {x y z u : α} {xs : List α} : atI (x :: y :: z :: u :: xs) 3 = some u := ix_at rfl (by decide)
theorem at4 {α : Type} {x y z u v : α} {xs : List α} : atI (x :: y :: z :: u :: v :: xs) 4 = some v := ix_at rfl (by decide)
def js1 (ts : List TED) (acc : Str) (ρ : DEnv) (R : Str → Sto → Prop) (E : XD) (x : D) (S1 : Sto) : Prop := match x with
  | .str y => (acc ++ y).length ≤ sizeLine ∧ dJs ts (acc ++ y) ρ S1 R E
  | _ => False
theorem r_jsC {t : TED} {ts : List TED} {acc : Str} {ρ : DEnv} {S : Sto} {R : Str → Sto → Prop} {E : XD} : dJs (t :: ts) acc ρ S R E = t ρ S (js1 ts acc ρ R E) E := rfl
theorem r_js1 {ts : List TED} {acc y : Str} {ρ : DEnv} {S : Sto} {R : Str → Sto → Prop} {E : XD} : js1 ts acc ρ R E (.str y) S = ((acc ++ y).length ≤ sizeLine ∧ dJs ts (acc ++ y) ρ S R E) := rfl
def fm1 (R : QD) (x : D) (S1 : Sto) : Prop := match x with
  | .str y => y.length ≤ sizeLine ∧ R (.str y) S1
  | .int i => i.natAbs.log2 < 1920 ∧ R (.str (toString i)) S1
  | _ => False
theorem r_fmt {te : TED} {ρ : DEnv} {S : Sto} {R : QD} {E : XD} : dFmt te ρ S R E = te ρ S (fm1 R) E := rfl
theorem r_fm1S {R : QD} {S : Sto} {y : Str} : fm1 R (.str y) S = (y.length ≤ sizeLine ∧ R (.str y) S) := rfl
theorem r_fm1I {R : QD} {S : Sto} {i : Int} : fm1 R (.int i) S = (i.natAbs.log2 < 1920 ∧ R (.str (dec i)) S) := rfl
theorem r_strD {R : QD} {S : Sto} {i : Int} : cStr1 (.int i) S R = (i.natAbs.log2 < 1920 ∧ R (.str (dec i)) S) := rfl
def it1 (Q : List D → (Sto → Prop) → Sto → Prop) (x : D) (S1 : Sto) : Prop := match x with
  | .tup ds => Q ds always S1
  | _ => False
theorem r_iTpF {ρ : DEnv} {S : Sto} {E : XD} {te : TED} {Q : List D → (Sto → Prop) → Sto → Prop} : iTp te ρ S Q E = te ρ S (it1 Q) E := rfl
theorem r_it1 {S : Sto} {Q : List D → (Sto → Prop) → Sto → Prop} {ds : List D} : it1 Q (.tup ds) S = Q ds always S := rfl
def ir1 (Q : List D → (Sto → Prop) → Sto → Prop) (ds : List D) (S1 : Sto) : Prop := match ds with
  | [.int j] => (-(2 ^ 62) ≤ j ∧ j < 2 ^ 62) ∧ Q (upto 0 j.toNat) always S1
  | _ => False
theorem r_iRF {ρ : DEnv} {S : Sto} {E : XD} {t : TAD} {Q : List D → (Sto → Prop) → Sto → Prop} : iR1 t ρ S Q E = t ρ S (ir1 Q) E := rfl
theorem r_ir1 {S : Sto} {Q : List D → (Sto → Prop) → Sto → Prop} {j : Int} : ir1 Q [.int j] S = ((-(2 ^ 62) ≤ j ∧ j < 2 ^ 62) ∧ Q (upto 0 j.toNat) always S) := rfl
theorem r_isiS {S : Sto} {R : QD} {u : Str} : cIsi [.str u, .ty "str"] S R = R (.bl true) S := propext ⟨fun ⟨U, h1, _, h3⟩ => by
  cases h1; exact h3, fun h => ⟨"str", rfl, by decide, h⟩⟩
theorem len_app {x y : Str} : (x ++ y).length = x.length + y.length := by rw [len_tl, len_tl, len_tl, tl_append, List.length_append]
theorem str_assoc {x y z : Str} : x ++ y ++ z = x ++ (y ++ z) := ext_tl (by simp only [tl_append, List.append_assoc])
theorem str_nil {x : Str} : Str.empty ++ x = x := ext_tl (by rw [tl_append]; rfl)
theorem lit_app {x y : String} : Str.ofString x ++ Str.ofString y = Str.ofString (x ++ y) := ext_tl (by rw [tl_append, tl_ofString, tl_ofString, tl_ofString, String.toList_append, List.map_append])
theorem lit_len {x : String} : (Str.ofString x).length = x.toList.length := by rw [len_tl, tl_ofString, List.length_map]
end Dl
/-! ### isinstance of a caught error, with its dict -/
namespace PySem.W
open PySem PySem.Spec PySem.Calls PyProof.Rows
section
variable {prog : Program} {w : World} {A : Around} {E : Value → Shared → Prop} {s : Shared} {K : Frag} {x D : Addr} {ox : Obj} {od : Option Obj}
theorem exObj {C : Addr} {name : Str} {a g : Value} (hc : (clsIn K C).isSome = true) (ha : findIn K (.ref C) name = some (some a)) (hg : specialIn K a "__get__" = some (some g)) (ht : takesIn K a = some true) : findObj K C od name = some (.bind g a) := by
  obtain ⟨cd, e⟩ := Option.isSome_iff_exists.mp hc
  unfold findObj
  rw [e, Option.bind_some, ha, Option.bind_some]
  simp [hg, ht]
theorem exAsk (T : L2.ExcC K D) {Q : Option Value → Shared → Prop} (X : K.In s.heap) (I : InstAt s.heap x ox D od) (h : Q (some (.ref D)) { s with toks := s.toks + 1 }) : wpAny (model prog w) A (getAttr? (.ref x) "__class__") Q E s := by
  have hsome : (clsIn K D).isSome = true := by
    obtain ⟨cd, e, _⟩ := any_some T.hd
    rw [e]; rfl
  have hf := exObj (od := od) hsome T.ha T.hn T.ht
  obtain ⟨hp, g, d, t, os⟩ := s
  have l0 := I.type (M := model prog w); have l1 := looks_findIn (M := model prog w) X T.hg; have l2 := looks_findIn (M := model prog w) X T.hk; have l3 := looks_find (M := model prog w) X I hf
  have sub : Looks (model prog w) hp (isInstance (.ref x) (.type "BaseException")) true := l0.andThen (looks_subIn X T.hs)
  have f1 : (false && onTheHeap (Value.builtin "BaseException.__getattribute__")) = false := rfl
  have f2 : (Value.builtin "BaseException.__getattribute__" == Value.builtin "object.__getattribute__") = false := by decide +kernel
  have f3 : (onTheHeap (Value.ref D) && Value.builtin "BaseException.__getattribute__" == Value.builtin "object.__getattribute__") = false := by rw [f2] <;> rfl
  unfold getAttr? getAttrBy? getAttrBy
  refine wpAny_bind (wpAny_mkText (wpAny_bind (wpAny_attempt (wpAny_holding (wpAny_bind (l0.at (wpAny_bind (l1.at ?_))))))))
  show wpAny _ _ (ite ((onTheHeap (Value.ref D) && Value.builtin "BaseException.__getattribute__" == Value.builtin "object.__getattribute__") = true) _ _) _ _ _
  rw [f3, if_neg Bool.false_ne_true]; unfold getAttrByItsOwn hookBefore
  refine wpAny_bind ?_; rw [if_pos (show onTheHeap (Value.ref D) = true from rfl)]
  refine l2.at ?_; refine wpAny_bind (wpAny_attempt (wpAny_holding ?_))
  unfold callGetattribute; rw [f1, if_neg Bool.false_ne_true]
  unfold boundAndCalled; rw [PySem.F.excAttr_ValueError.ga.bind (.ref x)]
  refine wpAny_bind (wpAny_pure ?_); show wpAny _ _ (call (.builtin "BaseException.__getattribute__") [.ref x, .str "__class__" t]) _ _ _
  refine wpAny_call (codeAny_call_builtin PySem.F.excAttr_ValueError.ga.plain PySem.F.entry_bexc_ga (@check_slot (model prog w) _ _ ⟨hp, g, d, t + 1, os⟩ "BaseException.__getattribute__" "BaseException" "__getattribute__" (.ref x) [.str "__class__" t] [] _ (by decide +kernel) (by decide +kernel) sub (PySem.F.args_bexc_ga (.ref x) (.str "__class__" t)) ?_))
  unfold Builtin.«object.__getattribute__»
  refine wpAny_bind (wpAny_of_eq (a := ((Value.ref x : Value), [Value.str "__class__" t])) (by first | rfl | (simp only [slotArgs]; rfl)) (wpAny_bind (wpAny_pure (wpAny_bind (l0.at (wpAny_bind (l3.at ?_)))))))
  show wpAny _ _ (holding [Value.builtin "object.__class__"] (call (.builtin "getset_descriptor.__get__") [.builtin "object.__class__", .ref x, .ref D]) >>= ret) _ _ _
  refine wpAny_bind (wpAny_holding (wpAny_call (class_get (s := ⟨hp, g, d, t + 1, os⟩) (ox := ox) (od := od) X I T.hm (wpAny_pure ?_))))
  show wpAny _ _ (handedOut (.ref D)) _ _ _; rw [handedOut_of (v := .ref D) rfl]
  first
    | exact wpAny_pure (wpAny_pure h)
    | exact wpAny_pure h
    | exact wpAny_pure (wpAny_bind (wpAny_pure (wpAny_pure h)))
theorem exKit (T : L2.ExcC K D) : KitX K (.ref x) (.ref D) (fun h => InstAt h x ox D od) where
  ty := fun _ _ _ I => I.type
  it := fun _ _ X _ => by
    obtain ⟨cd, e, _⟩ := any_some T.hd
    unfold clsIn at e
    split at e
    · rename_i ho
      intro A' Q' E' s' k q
      unfold isType loadHead
      exact wpAny_bind (wpAny_loadPart (k _ _ (X _ _ ho)) (wpAny_pure q))
    · cases e
  ne := fun h tp dd its n sl X htp => by
    obtain ⟨cd, e, _⟩ := any_some T.hd
    refine Bool.eq_false_iff.mpr fun q => ?_
    obtain rfl : D = tp := Value.ref.inj (beq_iff_eq.mp q)
    unfold clsIn at e
    split at e
    · rename_i ho
      have z := (X _ _ ho).symm.trans htp
      cases z
    · cases e
  ca := fun X I k => exAsk T X I k
end
end PySem.W
namespace Dl
open PySem PySem.Spec PyProof.Rows L2
/-! ### what the head tells of an own exception class -/
/-- C: its fields; isinstance: own classes, built-in classes; except: own classes, built-in classes -/
structure ExD where
  C : Str
  fs : List Str
  g : List (Str × Bool)
  t : List (String × Bool)
  m : List (Str × Bool)
abbrev eC (K : PySem.W.Frag) (C : Str) : Value := .ref (He.ga K C)
def excB (K : PySem.W.Frag) (D : Addr) : Bool :=
  decide (PySem.W.findIn K (.ref D) "__getattribute__" = some (some (.builtin "BaseException.__getattribute__"))) && (decide (PySem.W.findIn K (.ref D) "__getattr__" = some none) && (decide (PySem.W.subIn K (.ref D) (.type "BaseException") = some true) && (PySem.W.hasDictIn K D && (decide (PySem.W.findIn K (.ref D) "__class__" = some (some (.builtin "object.__class__"))) &&
  (decide (PySem.W.specialIn K (.builtin "object.__class__") "__get__" = some (some (.builtin "getset_descriptor.__get__"))) && (decide (PySem.W.takesIn K (.builtin "object.__class__") = some true) && decide (PySem.W.mroIn K D (.type "object") = some true)))))))
theorem excB_ok {K : PySem.W.Frag} {D : Addr} (h : excB K D = true) : ExcC K D := by
  unfold excB at h
  simp only [Bool.and_eq_true, decide_eq_true_eq] at h
  obtain ⟨a, b, c, d, e, f, g, i⟩ := h
  exact ⟨a, b, c, d, e, f, g, i⟩
def oexB (K : PySem.W.Frag) (C : Addr) : Bool := (match K.lookup C with
  | some ⟨.type "type", _, .cls cd, sl⟩ => (match cd.mro, sl.toList with
    | .ref C' :: bm, [_, _, _, _, some (.builtin n), _] => C' == C && (n == "ValueError.__new__" && (!cd.hasDel && (cd.hasDict && HandSPX.refsVE bm)))
    | _, _ => false)
  | _ => false) && (decide (PySem.W.findIn K (.ref C) "__setattr__" = some (some (.builtin "object.__setattr__"))) && (decide (PySem.W.subIn K (.ref C) (.type "BaseException") = some true) && (decide (PySem.W.typeIn K (.ref C) = some (.type "type")) && PySem.W.keepIn K (.ref C))))
theorem oexB_ok {K : PySem.W.Frag} {C : Addr} (h : oexB K C = true) : OexC K C := by
  unfold oexB at h
  simp only [Bool.and_eq_true, decide_eq_true_eq] at h
  obtain ⟨q, h1, h2, h3, h4⟩ := h
  refine ⟨?_, h1, h2, h3, h4⟩
  split at q
  · rename_i dd cd sl ho
    split at q
    · rename_i C' bm k0 k1 k2 k3 n k5 hm hs
      simp only [Bool.and_eq_true, beq_iff_eq, Bool.not_eq_true'] at q
      obtain ⟨rfl, rfl, hdel, hdict, hr⟩ := q
      obtain ⟨nm, bs, mro, ns, qn, hd, sn, sub, ab, col, del⟩ := cd
      dsimp only at hm hdel hdict
      subst hm; subst hdel; subst hdict
      have hsl : sl = #[k0, k1, k2, k3, some (.builtin "ValueError.__new__"), k5] := by
        obtain ⟨l⟩ := sl
        simp only at hs
        rw [hs]
      subst hsl
      exact ⟨_, _, _, _, _, _, _, _, _, _, _, _, _, _, _, ho, hr⟩
    · cases q
  · cases q
def exOk (K : PySem.W.Frag) (e : ExD) : Bool := excB K (He.ga K e.C) && ((e.fs.all fun f => decide (PySem.W.findIn K (eC K e.C) f = some none)) && ((e.g.all fun p => decide (PySem.W.kitOne K (eC K e.C) (eC K p.1) = some p.2)) && ((e.t.all fun p => decide (PySem.W.kitOne K (eC K e.C) (.type p.1) = some p.2)) &&
  ((e.m.all fun p => decide (PySem.W.exmOne K (eC K e.C) (eC K p.1) = some p.2)) && (e.fs.isEmpty || (oexB K (He.ga K e.C) && (decide (PySem.W.findIn K (eC K e.C) "__init__" = some (some (.ref (He.ma K (He.ga K e.C) "__init__")))) && decide (PySem.W.typeIn K (.ref (He.ma K (He.ga K e.C) "__init__")) = some (.type "function")))))))))
structure ExF (K : PySem.W.Frag) (e : ExD) : Prop where
  c : ExcC K (He.ga K e.C)
  f : ∀ f ∈ e.fs, PySem.W.findIn K (eC K e.C) f = some none
  g : ∀ p ∈ e.g, PySem.W.kitOne K (eC K e.C) (eC K p.1) = some p.2
  t : ∀ p ∈ e.t, PySem.W.kitOne K (eC K e.C) (.type p.1) = some p.2
  m : ∀ p ∈ e.m, PySem.W.exmOne K (eC K e.C) (eC K p.1) = some p.2
  o : e.fs ≠ [] → OexC K (He.ga K e.C) ∧ PySem.W.findIn K (eC K e.C) "__init__" = some (some (.ref (He.ma K (He.ga K e.C) "__init__"))) ∧ PySem.W.typeIn K (.ref (He.ma K (He.ga K e.C) "__init__")) = some (.type "function")
theorem exOk_of {K : PySem.W.Frag} {e : ExD} (h : exOk K e = true) : ExF K e := by
  unfold exOk at h
  simp only [Bool.and_eq_true, List.all_eq_true, decide_eq_true_eq, Bool.or_eq_true, List.isEmpty_iff] at h
  obtain ⟨h1, h2, h3, h4, h5, h6⟩ := h
  exact ⟨excB_ok h1, h2, h3, h4, h5, fun ne => by
    rcases h6 with z | ⟨z1, z2, z3⟩
    · exact absurd z ne
    · exact ⟨oexB_ok z1, z2, z3⟩⟩
/-- the law's exception classes -/
def ExT (K : PySem.W.Frag) (xs : List ExD) : Prop := ∀ e ∈ xs, ExF K e
def exG (xs : List ExD) (C D : Str) : Option Bool := (xs.find? fun e => e.C == C).bind fun e => e.g.lookup D
def exTy (xs : List ExD) (C : Str) (D : String) : Option Bool := (xs.find? fun e => e.C == C).bind fun e => e.t.lookup D
def exM (xs : List ExD) (C D : Str) : Option Bool := (xs.find? fun e => e.C == C).bind fun e => e.m.lookup D
def exFs (xs : List ExD) (C f : Str) : Bool := ((xs.find? fun e => e.C == C).map fun e => e.fs.contains f).getD false
theorem mem_lookup {α β : Type} [BEq α] [LawfulBEq α] {a : α} {b : β} : ∀ {l : List (α × β)}, l.lookup a = some b → (a, b) ∈ l
  | (x, y) :: l, h => by
    rw [List.lookup_cons] at h
    split at h
    · rename_i e
      rw [beq_iff_eq.mp e]; cases h; exact List.mem_cons_self
    · exact List.mem_cons_of_mem _ (mem_lookup h)
section
variable {K : PySem.W.Frag} {xs : List ExD} {C D f : Str} {b : Bool} (T : ExT K xs)
include T
theorem find_of {e : ExD} (h : (xs.find? fun e => e.C == C) = some e) : ExF K e ∧ e.C = C := ⟨T e (List.mem_of_find?_eq_some h), by simpa using List.find?_some h⟩
theorem exG_ok (h : exG xs C D = some b) : PySem.W.kitOne K (eC K C) (eC K D) = some b := by
  obtain ⟨e, h1, h2⟩ := Option.bind_eq_some_iff.mp h
  obtain ⟨F, rfl⟩ := find_of T h1
  exact F.g _ (mem_lookup h2)
theorem exTy_ok {D : String} (h : exTy xs C D = some b) : PySem.W.kitOne K (eC K C) (.type D) = some b := by
  obtain ⟨e, h1, h2⟩ := Option.bind_eq_some_iff.mp h
  obtain ⟨F, rfl⟩ := find_of T h1
  exact F.t _ (mem_lookup h2)
theorem exM_ok (h : exM xs C D = some b) : PySem.W.exmOne K (eC K C) (eC K D) = some b := by
  obtain ⟨e, h1, h2⟩ := Option.bind_eq_some_iff.mp h
  obtain ⟨F, rfl⟩ := find_of T h1
  exact F.m _ (mem_lookup h2)
theorem exFs_ok (h : exFs xs C f = true) : ∃ e : ExD, ExF K e ∧ e.C = C ∧ f ∈ e.fs := by
  unfold exFs at h
  cases h1 : xs.find? fun e => e.C == C with
  | none => rw [h1] at h; cases h
  | some e =>
    rw [h1] at h
    obtain ⟨F, ec⟩ := find_of T h1
    exact ⟨e, F, ec, by simpa using h⟩
end
end Dl
namespace Dl
open PySem PySem.Spec PyProof.Rows L2
/-! ### raise C(e): an own class whose __init__ keeps one value -/
def spI (C : Addr) (fld : Str) : Sp := fun vs H Q _ => ∃ a y, vs = [.ref a, y] ∧ H a = some (exo a C none) ∧ ∀ dx, H dx = none → dx ≠ a → Q .non (upd (upd H dx (exd dx [(fld, y)])) a (exo a C (some dx)))
def selfP (p : Str) : List Str := ["self", p]
structure ExI (P : Program) (w : World) (K : PySem.W.Frag) (mg : Str → Option Value) (base : Heap) (C fld : Str) : Prop where
  ex : ∃ (fd : FuncData) (p : Str), FnOk P w K mg base CX0 1 (He.ma K (He.ga K C) "__init__") fd (selfP p) (spI (He.ga K C) fld) ∧ Binds K fd (selfP p) []
  gl : mg C = some (eC K C)
theorem exInit {P : Program} {w : World} {K : PySem.W.Frag} {mg : Str → Option Value} {base : Heap} {xs : List ExD} {C fld p qual : Str} {st : Stmt} (T : ExT K xs) (hf : exFs xs C fld = true) (gl : mg C = some (eC K C))
    (F : ∃ fd, FunD K "__init__" qual (defArgs st) (defBody st) (defScope st) [] [] (He.ma K (He.ga K C) "__init__") fd) (Sc : FnScope (selfP p) (selfP p) (defScope st))
    (hb : ∀ (cdv : Value) (A : Around) (outer : List PySem.Env) (s : Shared) (H : Hp) (E : XK), PSs (cxOf CX0 P w K mg base (selfP p) qual (defScope st) (He.ma K (He.ga K C) "__init__") cdv A outer s H E) (defBody st) (tOst K fld (tVar 0) (tVar 1)))
    (hbd : ∀ (kV doc pm : Value) (an : Option Addr) (cdv ct : Value) (us : List Value), us.length = (selfP p).length → bindArgs (PySem.W.fnOf "__init__" qual (defArgs st) (defBody st) (defScope st) .none kV doc pm an cdv ct) ⟨us, []⟩ = Pure.pure ((selfP p).zip us)) : ExI P w K mg base C fld := by
  obtain ⟨fd, F⟩ := F
  obtain ⟨e, X, rfl, hm⟩ := exFs_ok T hf
  have hne : e.fs ≠ [] := fun z => by rw [z] at hm; cases hm
  obtain ⟨T1, _, _⟩ := X.o hne
  refine ⟨⟨fd, p, F.ok Sc (fun vs H Q E h => ?_) (fun cdv A outer s H vs Q E hr h => ⟨_, hb cdv A outer s H E, ?_⟩), F.bindsN hbd⟩, gl⟩
  · obtain ⟨a, y, rfl, _⟩ := h; rfl
  · obtain ⟨a, y, rfl, ha, hq⟩ := h
    refine ⟨y, rfl, .ref a, rfl, a, _, rfl, T1, X.f _ hm, .inl ⟨ha, fun dx h1 h2 => hq dx h1 h2⟩⟩
def sRaise (C f : Str) (tas : TAD) : TSD := fun D ρ S => tas ρ S (fun ds S1 => one ds fun d => D.xc ⟨C, [f], [d]⟩ ρ S1) (fun x S1 => D.xc x ρ S1)
section
variable {X : Cx} {W : WX} {e : Expr} {es : List Expr} {tas : TAD} {te : TED} {xs : List ExD} {C fld : Str} {p pos cpos : Pos} {j : Nat}
theorem psd_raise (I : ExI X.prog X.w X.K X.mg X.base C fld) (T : ExT X.K xs) (hr : Room j X.A) (tk : Takes X W) (ha : PAD X W (e :: es) tas) (hf : exFs xs C fld = true := by rfl) (hc : X.calm = true := by rfl) (hg : Gl X C := by rfl) (hj : 2 ≤ j := by decide)
    (hdb : (C == ("__debug__" : Str)) = false := by decide) (he : starEach (e :: es) X.env = (false, eval e X.env) :: starEach es X.env := by rfl) (hpl : (backTo cpos (starEach (e :: es) X.env).tail).any (·.1) = false := by rfl) (hpl2 : (backTo cpos (starEach es X.env)).any (·.1) = false := by rfl) :
    PSD X W (.Raise (some (.Call (.Name C p) (e :: es) [] cpos)) none pos) (sRaise C fld tas) := by
  obtain ⟨fd, q, F, hb⟩ := I.ex
  obtain ⟨ed, Y, rfl, hm⟩ := exFs_ok T hf
  have hne : ed.fs ≠ [] := fun z => by rw [z] at hm; cases hm
  obtain ⟨T1, T2, T3⟩ := Y.o hne
  refine PS_imp (ps_raise hc tk (pmk_oex T1 T2 T3 F (hr.mono hj) hb .nil pass0 hg I.gl ha hdb he hpl2)) fun D σ H h => ?_
  obtain ⟨ρ, S, R, hS, hρ, ht, b1, b2, b3, b4, b5⟩ := upS_eq.mp h
  refine ⟨ρ, S, _, _, hS, hρ, ht, fun ds S1 r1 H1 vs e1 s1 v1 => ?_, b5.at hS hρ⟩
  obtain ⟨d, rfl, r1⟩ := one_of r1
  obtain ⟨v, rfl, rv1⟩ := v1.one
  refine ⟨by simp, fun a ha0 => ⟨a, v, rfl, upd_same, fun dx hdx nda => ⟨rfl, dx, [(fld, v)], upd_same, ?_, ?_, ?_⟩⟩⟩
  · rw [upd_ne nda, upd_same]
  · rw [upd_ne nda] at hdx; exact hdx
  · have hd1 : H1 dx = none := by rw [upd_ne nda] at hdx; exact hdx
    have eH : upd (del (upd (upd (upd H1 a (exo a (He.ga X.K ed.C) none)) dx (exd dx [(fld, v)])) a (exo a (He.ga X.K ed.C) (some dx))) a) dx (.xd [(fld, v)]) = upd H1 dx (.xd [(fld, v)]) := by
      funext b
      by_cases h1 : b = dx
      · subst h1; rw [upd_same, upd_same]
      · rw [upd_ne h1, upd_ne h1]
        by_cases h2 : b = a
        · subst h2; rw [del_same]; exact ha0.symm
        · rw [del_ne h2, upd_ne h2, upd_ne h1, upd_ne h2]
    rw [eH]
    refine b5 ⟨ed.C, [fld], [d]⟩ ρ S1 r1 _ _ _ _ (e1.trans (Ext.new hd1)) (s1.new hd1) ((e1.trans (Ext.new hd1)).re hS hρ) ⟨rfl, .inr ⟨dx, [v], rfl, upd_same, rfl, v, [], rfl, (Ext.new hd1).rv s1 _ _ rv1, rfl⟩⟩
/-! ### dead code -/
theorem psd_dead {st : Stmt} : PSD X W st (fun _ _ _ => False) := ⟨fun pins s σ H D I h => by
  obtain ⟨ρ, S, R, _, _, z, _⟩ := h
  exact z.elim⟩
/-! ### try: .. except C as n: .. -/
def sTryAs (xs : List ExD) (x : Str) (i : Nat) (tb : TSD) (ts : Addr → Str → Option Addr → TSD) : TSD := fun D ρ S => tb { D with xc := fun y ρ1 S1 => ∃ b, exM xs y.C x = some b ∧
  (b = true → ∀ a dd, S1 a = none → ts a y.C dd { nx := fun ρ2 S2 => D.nx (ρ2.set i none) S2, rt := D.rt, bk := fun ρ2 S2 => D.bk (ρ2.set i none) S2, ct := fun ρ2 S2 => D.ct (ρ2.set i none) S2, xc := fun _ _ _ => False } (ρ1.set i (some (.exn a y.C dd y.ks y.ds))) S1) ∧
  (b = false → D.xc y ρ1 S1) } ρ S
def sTryOnly (xs : List ExD) (x : Str) (tb : TSD) (ts : Addr → Str → Option Addr → TSD) : TSD := fun D ρ S => tb { D with xc := fun y ρ1 S1 => ∃ b, exM xs y.C x = some b ∧
  (b = true → ∀ a dd, S1 a = none → ts a y.C dd { D with xc := fun _ _ _ => False } ρ1 S1) ∧ (b = false → D.xc y ρ1 S1) } ρ S
theorem pss_exn {Y : Cx} {b : List Stmt} {cls : Value} {K : PySem.W.Frag} {t : Str → TS} (h : ∀ C, cls = eC K C → PSs Y b (t C)) : PSs Y b (fun D σ H => ∃ C, cls = eC K C ∧ t C D σ H) :=
  ⟨fun pins s σ H D I ⟨C, e, q⟩ => (h C e).run pins s σ H D I q⟩
theorem psd_tryAs {x n : Str} {i : Nat} {body suite : List Stmt} {b₀ : Stmt} {np pos' : Pos} {tb : TSD} {ts : Addr → Str → Option Addr → TSD} (T : ExT X.K xs) (nd : X.N.Nodup) (tk : Takes X W) (hm : X.mg x = some (eC X.K x))
    (hb : ∀ (W' : WX) (pn : List (Addr × Obj)) (xe : Value → Shared → Prop), Takes (X.tr pn xe) W' → PassesOwn (model X.prog X.w) X.A X.env xe → PSsD (X.tr pn xe) W' body tb)
    (hsu : ∀ (a : Addr) (oe : Obj) (C : Str) (d : Option Addr) (pn : List (Addr × Obj)), Zc (eC X.K C) d oe → (∃ vs, oe.data = .fields vs) → PSsD (X.suite a ((a, oe) :: pn)) W0 (b₀ :: suite) (ts a C d))
    (hi : X.N[i]? = some n := by rfl) (hg : Gl X x := by rfl) (hln : X.env.kindOf n = some .local := by rfl) (hs : X.stack = X.env :: X.outer := by rfl) (hf : X.env.frame = some X.env.locals := by rfl) (hdb : (x == ("__debug__" : Str)) = false := by decide) :
    PSD X W (.Try body [.ExceptHandler (some (.Name x np)) (some n) (b₀ :: suite) pos'] [] [] pos) (sTryAs xs x i tb ts) := by
  refine PS_imp (ps_try_as (c := eC X.K x) (tb := fun W' => upS X.K W' tb) (ts := fun a cls d => fun D σ H => ∃ C, cls = eC X.K C ∧ upS X.K W0 (ts a C d) D σ H) (Wout := W) hs hf nd hi hln ⟨hg, hdb, .inl hm⟩ tk hb fun a oe cls d pn hz hd => pss_exn fun C e => ?_) fun D σ H h => ?_
  · subst e; exact hsu a oe C d pn hz hd
  · obtain ⟨ρ, S, R, hS, hρ, ht, b1, b2, b3, b4, b5⟩ := upS_eq.mp h
    refine upS_eq.mpr ⟨ρ, S, _, hS, hρ, ht, b1, b2, b3, b4, fun y ρ' S' r σ' H' cls d ex s' re' rx' => ?_⟩
    obtain ⟨b, hmm, r1, r2⟩ := r
    obtain ⟨rfl, hx⟩ := rx'
    refine ⟨b, exM_ok T hmm, fun hb a ha => ⟨y.C, rfl, upS_eq.mpr ⟨_, S', _, s', re'.set (d := .exn a y.C d y.ks y.ds) (v := .ref a) ⟨rfl, hx⟩ i, r1 hb a d (s'.none_of ha), ?_, b2.ext ex, ?_, ?_, fun _ _ _ z => z.elim⟩⟩, fun hb => b5 y ρ' S' (r2 hb) σ' H' _ d ex s' re' ⟨rfl, hx⟩⟩
    · intro ρ2 S2 q σ2 H2 e2 s2 v2; exact b1 _ S2 q _ H2 (ex.trans e2) s2 (v2.unset i none)
    · intro ρ2 S2 q σ2 H2 e2 s2 v2; exact b3 _ S2 q _ H2 (ex.trans e2) s2 (v2.unset i none)
    · intro ρ2 S2 q σ2 H2 e2 s2 v2; exact b4 _ S2 q _ H2 (ex.trans e2) s2 (v2.unset i none)
theorem psd_tryOnly {x : Str} {body suite : List Stmt} {b₀ : Stmt} {np pos' : Pos} {tb : TSD} {ts : Addr → Str → Option Addr → TSD} (T : ExT X.K xs) (tk : Takes X W) (hm : X.mg x = some (eC X.K x))
    (hb : ∀ (W' : WX) (pn : List (Addr × Obj)) (xe : Value → Shared → Prop), Takes (X.tr pn xe) W' → PassesOwn (model X.prog X.w) X.A X.env xe → PSsD (X.tr pn xe) W' body tb)
    (hsu : ∀ (a : Addr) (oe : Obj) (C : Str) (d : Option Addr) (pn : List (Addr × Obj)), Zc (eC X.K C) d oe → (∃ vs, oe.data = .fields vs) → PSsD (X.suite a ((a, oe) :: pn)) W0 (b₀ :: suite) (ts a C d))
    (hg : Gl X x := by rfl) (hs : X.stack = X.env :: X.outer := by rfl) (hf : X.env.frame = some X.env.locals := by rfl) (hdb : (x == ("__debug__" : Str)) = false := by decide) :
    PSD X W (.Try body [.ExceptHandler (some (.Name x np)) none (b₀ :: suite) pos'] [] [] pos) (sTryOnly xs x tb ts) := by
  refine PS_imp (ps_try_only (c := eC X.K x) (tb := fun W' => upS X.K W' tb) (ts := fun a cls d => fun D σ H => ∃ C, cls = eC X.K C ∧ upS X.K W0 (ts a C d) D σ H) (Wout := W) hs hf ⟨hg, hdb, .inl hm⟩ tk hb fun a oe cls d pn hz hd => pss_exn fun C e => ?_) fun D σ H h => ?_
  · subst e; exact hsu a oe C d pn hz hd
  · obtain ⟨ρ, S, R, hS, hρ, ht, b1, b2, b3, b4, b5⟩ := upS_eq.mp h
    refine upS_eq.mpr ⟨ρ, S, _, hS, hρ, ht, b1, b2, b3, b4, fun y ρ' S' r σ' H' cls d ex s' re' rx' => ?_⟩
    obtain ⟨b, hmm, r1, r2⟩ := r
    obtain ⟨rfl, hx⟩ := rx'
    refine ⟨b, exM_ok T hmm, fun hb a ha => ⟨y.C, rfl, upS_eq.mpr ⟨_, S', _, s', re', r1 hb a d (s'.none_of ha), ?_, b2.ext ex, ?_, ?_, fun _ _ _ z => z.elim⟩⟩, fun hb => b5 y ρ' S' (r2 hb) σ' H' _ d ex s' re' ⟨rfl, hx⟩⟩
    · intro ρ2 S2 q σ2 H2 e2 s2 v2; exact b1 _ S2 q _ H2 (ex.trans e2) s2 v2
    · intro ρ2 S2 q σ2 H2 e2 s2 v2; exact b3 _ S2 q _ H2 (ex.trans e2) s2 v2
    · intro ρ2 S2 q σ2 H2 e2 s2 v2; exact b4 _ S2 q _ H2 (ex.trans e2) s2 v2
/-! ### in the suite: isinstance(e, c), e.f -/
def exAny (xs : List ExD) (C : Str) : List D → Option Bool
  | [] => some false
  | .glo x :: r => (match exG xs C x with
    | some true => some true
    | some false => exAny xs C r
    | none => none)
  | .ty x :: r => (match exTy xs C x with
    | some true => some true
    | some false => exAny xs C r
    | none => none)
  | _ => none
def isE1 (xs : List ExD) (C : Str) (t : D) (S : Sto) (R : QD) : Prop := match t with
  | .glo x => ∃ b, exG xs C x = some b ∧ R (.bl b) S
  | .ty x => ∃ b, exTy xs C x = some b ∧ R (.bl b) S
  | .tup cs => cs ≠ [] ∧ ∃ b, exAny xs C cs = some b ∧ R (.bl b) S
  | _ => False
def cIsE (xs : List ExD) (a : Addr) (C : Str) (d : Option Addr) : RCD := fun ds S R => two ds fun x t => (∃ ks es, x = .exn a C d ks es) ∧ isE1 xs C t S R
theorem exAny_ok {K : PySem.W.Frag} {H : Hp} {S : Sto} (T : ExT K xs) : ∀ (cs : List D) (vs : List V) (us : List Value) (b : Bool), exAny xs C cs = some b → rvs K H S cs vs → Vals vs us → PySem.W.kitAny K (eC K C) us = some b
  | [], _, _, b, h, q, r => by
    cases q; cases r; cases h; rfl
  | .glo x :: cs, _, _, b, h, q, r => by
    obtain ⟨v, vs, rfl, q1, q2⟩ := q
    cases q1
    cases r with
    | cons r1 r2 =>
      cases r1
      unfold exAny at h
      cases hx : exG xs C x with
      | none => rw [hx] at h; cases h
      | some k =>
        rw [hx] at h
        unfold PySem.W.kitAny
        rw [exG_ok T hx]
        cases k with
        | true => cases h; rfl
        | false => exact exAny_ok T cs vs _ b h q2 r2
  | .ty x :: cs, _, _, b, h, q, r => by
    obtain ⟨v, vs, rfl, q1, q2⟩ := q
    cases q1
    cases r with
    | cons r1 r2 =>
      cases r1
      unfold exAny at h
      cases hx : exTy xs C x with
      | none => rw [hx] at h; cases h
      | some k =>
        rw [hx] at h
        unfold PySem.W.kitAny
        rw [exTy_ok T hx]
        cases k with
        | true => cases h; rfl
        | false => exact exAny_ok T cs vs _ b h q2 r2
  | .non :: _, _, _, _, h, _, _ => by cases h
  | .bl _ :: _, _, _, _, h, _, _ => by cases h
  | .int _ :: _, _, _, _, h, _, _ => by cases h
  | .str _ :: _, _, _, _, h, _, _ => by cases h
  | .ref _ :: _, _, _, _, h, _, _ => by cases h
  | .tup _ :: _, _, _, _, h, _, _ => by cases h
  | .lst _ :: _, _, _, _, h, _, _ => by cases h
  | .dct _ :: _, _, _, _, h, _, _ => by cases h
  | .scr _ :: _, _, _, _, h, _, _ => by cases h
  | .exn .. :: _, _, _, _, h, _, _ => by cases h
theorem exCls {K : PySem.W.Frag} (T : ExT K xs) {t : D} {S : Sto} {R : QD} (h : isE1 xs C t S R) : ExcC K (He.ga K C) := by
  have g : ∀ {o : Option Bool} {b : Bool} {f : ExD → Option Bool}, (xs.find? fun e => e.C == C).bind f = some b → ExcC K (He.ga K C) := fun {o b f} h => by
    obtain ⟨e, h1, _⟩ := Option.bind_eq_some_iff.mp h
    obtain ⟨F, rfl⟩ := find_of T h1
    exact F.c
  cases t with
  | glo x => obtain ⟨b, e, _⟩ := h; exact g (o := none) e
  | ty x => obtain ⟨b, e, _⟩ := h; exact g (o := none) e
  | tup cs =>
    obtain ⟨hne, b, e, _⟩ := h
    cases cs with
    | nil => exact absurd rfl hne
    | cons d r =>
      unfold exAny at e
      cases d with
      | glo x =>
        cases hx : exG xs C x with
        | none => simp only [hx] at e; cases e
        | some k => exact g (o := none) hx
      | ty x =>
        cases hx : exTy xs C x with
        | none => simp only [hx] at e; cases e
        | some k => exact g (o := none) hx
      | _ => cases e
  | _ => exact h.elim
theorem inst_at {a : Addr} {oe : Obj} {d : Option Addr} {pn pins : List (Addr × Obj)} {σ : L2.St} {H : Hp} {s : Shared} {S : Sto} {ks : List Str} {es : List D} {v : V} (hz : Zc (eC X.K C) d oe) (hd : ∃ vs, oe.data = .fields vs) (I : Inv (X.suite a ((a, oe) :: pn)) pins σ H s) (r : rv X.K H S (.exn a C d ks es) v) :
    ∃ od, PySem.W.InstAt s.heap a oe (He.ga X.K C) od := by
  obtain ⟨hget, _⟩ := I.pin (a, oe) (List.mem_append_left _ List.mem_cons_self)
  obtain ⟨vs, hv⟩ := hd
  obtain ⟨_, r⟩ := r
  have nc : PySem.W.notCls oe = true := by unfold PySem.W.notCls; rw [hv] <;> rfl
  rcases r with ⟨rfl, _, _⟩ | ⟨b, ws, rfl, hb, _, _⟩
  · exact ⟨none, hget, hz.1, nc, by rw [hz.2]; trivial⟩
  · obtain ⟨mA, hns, _⟩ := (show ObjOk X.prog X.w H s.heap b (.xd (ks.zip ws)) from I.hok b _ hb)
    obtain ⟨od, ho, _⟩ := lookIn_ns hns
    exact ⟨some od, hget, hz.1, nc, by rw [hz.2]; exact ho⟩
theorem cd_isE {a : Addr} {oe : Obj} {d : Option Addr} {pn : List (Addr × Obj)} (T : ExT X.K xs) (hz : Zc (eC X.K C) d oe) (hd : ∃ vs, oe.data = .fields vs) : CallR (X.suite a ((a, oe) :: pn)) (.builtin "isinstance") (upC X.K (cIsE xs a C d)) := by
  intro pins s σ H vs us Q I r h
  obtain ⟨ds, S, R, hS, q, h, bR⟩ := h
  obtain ⟨x, t, rfl, h⟩ := two_of h
  obtain ⟨⟨ks, es, rfl⟩, hh⟩ := h
  have c := exCls T hh
  obtain ⟨v, u, rfl, rx, ry⟩ := q.two
  obtain ⟨od, J⟩ := inst_at (X := X) hz hd I rx
  obtain ⟨rfl, _⟩ := rx
  cases r with
  | cons r1 rr =>
    cases rr with
    | cons r2 rr =>
      cases rr
      cases r1
      have fin : ∀ b : Bool, R (.bl b) S → ∀ tk, EP (X.suite a ((a, oe) :: pn)) pins σ Q (.bool b) { s with toks := tk } := fun b hb tk => ⟨.bl b, H, I.kept (t' := tk) fun _ _ z => z, rfl, bR _ S hb H _ (Ext.refl _ _) hS rfl⟩
      cases t with
      | glo x =>
        obtain ⟨b, e, h⟩ := hh
        cases ry; cases r2
        exact PySem.W.kia_one (PySem.W.exKit c) I.kIn J (exG_ok T e) (fun z => nomatch z) (fin b h)
      | ty x =>
        obtain ⟨b, e, h⟩ := hh
        cases ry; cases r2
        exact PySem.W.kia_one (PySem.W.exKit c) I.kIn J (exTy_ok T e) (fun z => nomatch z) (fin b h)
      | tup cs =>
        obtain ⟨_, b, e, h⟩ := hh
        obtain ⟨tp, ws, rfl, hT, q⟩ := ry
        cases r2
        obtain ⟨_, its, rv0, o, h1, h2, n, h3⟩ := (show ObjOk X.prog X.w H s.heap tp (.tup ws) from I.hok tp _ hT)
        obtain ⟨oc, od', dt, sl⟩ := o
        simp only at h2 h3
        subst h2 h3
        exact PySem.W.kia_tup (PySem.W.exKit c) I.kIn J h1 (exAny_ok T _ ws _ b e q rv0) (fun z => nomatch z) (fin b h)
      | _ => exact hh.elim
/-- e.f -/
def dXf (xs : List ExD) (a : Addr) (C : Str) (d : Option Addr) (f : Str) (te : TED) : TED := fun ρ S R E => te ρ S (fun x S1 => exFs xs C f = true ∧ ∃ ks es v, x = .exn a C d ks es ∧ (ks.zip es).lookup f = some v ∧ R v S1) E
theorem zip_lookup {K : PySem.W.Frag} {H : Hp} {S : Sto} {f : Str} {v : D} : ∀ {ks : List Str} {es : List D} {ws : List V}, rvs K H S es ws → (ks.zip es).lookup f = some v → ∃ u, (ks.zip ws).lookup f = some u ∧ rv K H S v u
  | [], _, _, _, h => by simp at h
  | k :: ks, [], _, _, h => by simp at h
  | k :: ks, e :: es, _, q, h => by
    obtain ⟨u, r, rfl, q1, q2⟩ := q
    rw [List.zip_cons_cons, List.lookup_cons] at h ⊢
    split at h
    · cases h; exact ⟨u, rfl, q1⟩
    · exact zip_lookup q2 h
theorem ped_xf {a : Addr} {oe : Obj} {d : Option Addr} {pn : List (Addr × Obj)} {n : Str} (T : ExT X.K xs) (hz : Zc (eC X.K C) d oe) (hd : ∃ vs, oe.data = .fields vs) (he : PED (X.suite a ((a, oe) :: pn)) W0 e te) (hb : attributeBase e n X.env (eval e X.env) = eval e X.env := by rfl) :
    PED (X.suite a ((a, oe) :: pn)) W0 (.Attribute e n pos) (dXf xs a C d n te) := by
  by_cases hf : exFs xs C n = true
  · obtain ⟨ed, Y, rfl, hm⟩ := exFs_ok T hf
    refine PE_imp (pe_xf (C := He.ga X.K ed.C) ⟨Y.c.hg, Y.c.hk, Y.c.hs, Y.c.hd⟩ (Y.f _ hm) hz hd he hb) fun σ H Q h => ?_
    obtain ⟨ρ, S, R, E, hS, hρ, ht, bR, bx⟩ := h
    refine ⟨ρ, S, _, E, hS, hρ, ht, fun x S1 r1 H1 v e1 s1 v1 => ?_, bx⟩
    obtain ⟨_, ks, es, y, rfl, hl, r1⟩ := r1
    obtain ⟨rfl, v1⟩ := v1
    rcases v1 with ⟨_, rfl, rfl⟩ | ⟨b, ws, rfl, hb, hlen, q⟩
    · cases hl
    · obtain ⟨u, hu, ru⟩ := zip_lookup q hl
      exact ⟨rfl, rfl, b, _, u, rfl, hb, hu, bR _ S1 r1 H1 _ e1 s1 ru⟩
  · refine PE_imp (⟨fun pins s σ H Q I z => ?_⟩ : PE (X.suite a ((a, oe) :: pn)) (.Attribute e n pos) (fun σ H Q => ∃ te' : TE, PE (X.suite a ((a, oe) :: pn)) e te' ∧ te' σ H fun _ _ => False)) fun σ H Q h => ?_
    · obtain ⟨te', p, z⟩ := z
      exact attr_of hb (thn (p.run pins s σ H _ I z) fun u s1 ⟨x, H1, I1, rx, z⟩ => z.elim)
    · obtain ⟨ρ, S, R, E, hS, hρ, ht, bR, bx⟩ := h
      exact ⟨_, he, ρ, S, _, E, hS, hρ, ht, fun x S1 r1 H1 v e1 s1 v1 => hf r1.1, bx⟩
end
end Dl
namespace Dl
open PySem PySem.Spec PyProof.Rows L2
/-! ### where a def stands -/
inductive AdD where
  | glo (x : Str)
  | meth (C m : Str)
  | prop (C f : Str)
  | cm (C m : Str)
def pA (K : PySem.W.Frag) (C f : Str) : Addr := He.ma K (He.ga K C) f
def pG (K : PySem.W.Frag) (C f : Str) : Addr := match PySem.W.recIn K (pA K C f) "property" with
  | some (.ref g :: _) => g
  | _ => 0
/-- a classmethod's def -/
def cG (K : PySem.W.Frag) (C m : Str) : Addr := match PySem.W.recIn K (pA K C m) "classmethod" with
  | some (.ref g :: _) => g
  | _ => 0
def adr (K : PySem.W.Frag) : AdD → Addr
  | .glo x => He.ga K x
  | .meth C m => He.ma K (He.ga K C) m
  | .prop C f => pG K C f
  | .cm C m => cG K C m
structure DefX where
  a : AdD
  name : Str
  qual : Str
  st : Stmt
  dfl : List He.Dv := []
  kwd : List (Str × He.Dv) := []
def kwV (K : PySem.W.Frag) (l : List (Str × He.Dv)) : List (Str × V) := l.map fun q => (q.1, q.2.v K)
def DefX.val (d : DefX) : He.FnW := some (d.name, d.qual, defArgs d.st, .stmts (defBody d.st), defScope d.st, mainGlobals, [], builtinsNs)
def fnX (K : PySem.W.Frag) (a : AdD) : He.FnW := match K.lookup (adr K a) with
  | some ⟨_, _, .func fd, _⟩ => some (fd.name, fd.qualname, fd.params, fd.body, fd.scope, fd.globals, fd.closure, fd.builtins)
  | _ => none
def okX (K : PySem.W.Frag) (d : DefX) : Bool := PySem.W.keepIn K (.ref (adr K d.a)) && (match K.lookup (adr K d.a) with
  | some ⟨_, _, .func fd, _⟩ => PySem.W.codeIn K fd.code d.qual && (He.dflB K fd.defaults (d.dfl.map (He.Dv.v K)) && He.kwdB K fd.kwdefaults (kwV K d.kwd))
  | _ => false)
theorem funX {K : PySem.W.Frag} {d : DefX} (e : fnX K d.a = d.val) (c : okX K d = true) : ∃ fd, FunD K d.name d.qual (defArgs d.st) (defBody d.st) (defScope d.st) (d.dfl.map (He.Dv.v K)) (kwV K d.kwd) (adr K d.a) fd := by
  obtain ⟨kp, c2⟩ := He.ba c
  unfold fnX at e
  cases q : K.lookup (adr K d.a) with
  | none => rw [q] at c2; cases c2
  | some o =>
    obtain ⟨oc, od, dt, osl⟩ := o
    rw [q] at c2 e
    cases dt with
    | func fd =>
      obtain ⟨n1, n2, n3, n4, n5, n6, n7, n8, n9, n10, n11, n12, n13, n14, n15⟩ := fd
      have e2 : (some (n1, n2, n3, n4, n5, n6, n7, n15) : He.FnW) = d.val := e
      unfold DefX.val at e2
      simp only [Option.some.injEq, Prod.mk.injEq] at e2
      obtain ⟨h1, h2, h3, h4, h5, h6, h7, h8⟩ := e2
      subst h1 h2 h3 h4 h5 h6 h7 h8
      have c3 : (PySem.W.codeIn K n13 d.qual && (He.dflB K n8 (d.dfl.map (He.Dv.v K)) && He.kwdB K n9 (kwV K d.kwd))) = true := c2
      obtain ⟨k1, k2⟩ := He.ba c3
      obtain ⟨k3, k4⟩ := He.ba k2
      exact ⟨_, ⟨oc, od, n8, n9, n10, n11, n12, n13, n14, osl, rfl, q, k1, He.dflB_ok k3, He.kwdB_ok k4⟩, kp⟩
    | _ => cases c2
/-! ### the head's look -/
abbrev AlY : Type := Bool × List He.FnW
def obsY (fa : List He.Fa) (fn : List DefX) (ch : PySem.W.Frag → Bool) (K : PySem.W.Frag) : AlY := ((fa.all fun f => f.ok K) && ((fn.all fun d => okX K d) && ch K), fn.map fun d => fnX K d.a)
def valY (fn : List DefX) : AlY := (true, fn.map DefX.val)
def SaysY (fa : List He.Fa) (fn : List DefX) (ch : PySem.W.Frag → Bool) (K : PySem.W.Frag) : Prop := obsY fa fn ch K = valY fn
/-- what the module's names reach in n steps: each once -/
def bfsRef (g : Addr → Option Obj) (fr : List Addr) : List Addr := fr.flatMap fun a => match g a with
  | some o => He.refsD o
  | none => []
def bfsAdd : List Addr → Nat → List Addr → List Addr × Nat
  | [], s, acc => (acc, s)
  | a :: r, s, acc => match Nat.testBit s a with
    | true => bfsAdd r s acc
    | false => bfsAdd r (Nat.lor s (Nat.shiftLeft 1 a)) (a :: acc)
def bfs (g : Addr → Option Obj) : Nat → List Addr → Nat → List Addr → List Addr
  | 0, _, _, all => all
  | n + 1, fr, s, all => match bfsAdd (bfsRef g fr) s [] with
    | (nx, s') => bfs g n nx s' (all ++ nx)
def asB (g : Addr → Option Obj) (n : Nat) : List Addr := bfs g n [mainGlobals] (Nat.lor (Nat.shiftLeft 1 mainGlobals) (Nat.shiftLeft 1 cStatics)) [mainGlobals, cStatics]
def obY (n : Nat) (fa : List He.Fa) (fn : List DefX) (ch : PySem.W.Frag → Bool) (g : Addr → Option Obj) : AlY := obsY fa fn ch (He.frG g (asB g n))
def hookY (n : Nat) (fa : List He.Fa) (fn : List DefX) (ch : PySem.W.Frag → Bool) : PySem.W.Hook where
  α := AlY
  obs := fun s => obY n fa fn ch s.heap.get?
  val := fun _ => valY fn
  says := fun _ h => ∃ K : PySem.W.Frag, K.In h ∧ SaysY fa fn ch K
  of := fun _ _ e => ⟨_, He.frG_in, e⟩
  keeps := fun _ _ _ ⟨K, hK, c⟩ k => ⟨K, PySem.W.Frag.In.keeps hK k, c⟩
theorem obY_eq {n : Nat} {fa : List He.Fa} {fn : List DefX} {ch : PySem.W.Frag → Bool} {g : Addr → Option Obj} {s : Shared} (h : ∀ a, g a = s.heap.get? a) : obY n fa fn ch g = (hookY n fa fn ch).obs s := by
  have e : g = s.heap.get? := funext h
  rw [e] <;> rfl
section
variable {fa : List He.Fa} {fn : List DefX} {ch : PySem.W.Frag → Bool} {K : PySem.W.Frag} (c : SaysY fa fn ch K)
include c
theorem SaysY.parts : (fa.all fun f => f.ok K) = true ∧ (fn.all fun d => okX K d) = true ∧ ch K = true := by
  obtain ⟨h1, h2⟩ := He.ba (show ((fa.all fun f => f.ok K) && ((fn.all fun d => okX K d) && ch K)) = true from congrArg (fun z : AlY => z.1) c)
  exact ⟨h1, He.ba h2⟩
theorem SaysY.all : ∀ f ∈ fa, f.ok K = true := List.all_eq_true.mp c.parts.1
theorem SaysY.chk : ch K = true := c.parts.2.2
theorem SaysY.def_ (i : Nat) {d : DefX} (h : fn[i]? = some d := by rfl) : ∃ fd, FunD K d.name d.qual (defArgs d.st) (defBody d.st) (defScope d.st) (d.dfl.map (He.Dv.v K)) (kwV K d.kwd) (adr K d.a) fd := by
  have e : fn.map (fun d => fnX K d.a) = fn.map DefX.val := congrArg (fun z : AlY => z.2) c
  have e2 : (fn.map fun d => fnX K d.a)[i]? = (fn.map DefX.val)[i]? := by rw [e]
  rw [List.getElem?_map, List.getElem?_map, h] at e2
  exact funX (Option.some.inj e2) (List.all_eq_true.mp c.parts.2.1 d (List.mem_of_getElem? h))
end
/-! ### own classes -/
/-- fs its instances' fields, ms its methods, gs its properties; g, t: isinstance -/
structure InD where
  C : Str
  fs : List Str
  ms : List Str
  gs : List Str
  made : Bool
  g : List (Str × Bool) := []
  t : List (String × Bool) := []
  cms : List Str := []
  inh : List (Str × Str) := []
def methB (K : PySem.W.Frag) (C : Addr) (m : Str) : Bool := decide (PySem.W.findIn K (.ref C) m = some (some (.ref (He.ma K C m)))) && (PySem.W.isFn K (.ref (He.ma K C m)) && PySem.W.keepIn K (.ref (He.ma K C m)))
theorem methB_ok {K : PySem.W.Frag} {C : Addr} {m : Str} (h : methB K C m = true) : Meth K C m (He.ma K C m) := by
  obtain ⟨c1, c⟩ := He.ba h
  obtain ⟨c2, c3⟩ := He.ba c
  exact ⟨of_decide_eq_true c1, c2, c3⟩
def propB (K : PySem.W.Frag) (C f : Str) : Bool := decide (PySem.W.findIn K (eC K C) f = some (some (.ref (pA K C f)))) && (decide (PySem.W.specialIn K (.ref (pA K C f)) "__get__" = some (some (.builtin "property.__get__"))) && (decide (PySem.W.takesIn K (.ref (pA K C f)) = some true) &&
  (match PySem.W.recIn K (pA K C f) "property" with
  | some (.ref _ :: _) => true
  | _ => false)))
theorem propB_ok {K : PySem.W.Frag} {C f : Str} (h : propB K C f = true) : PropOf K (He.ga K C) f (pA K C f) (pG K C f) := by
  obtain ⟨c1, c⟩ := He.ba h
  obtain ⟨c2, c⟩ := He.ba c
  obtain ⟨c3, c4⟩ := He.ba c
  refine ⟨of_decide_eq_true c1, of_decide_eq_true c2, of_decide_eq_true c3, ?_⟩
  unfold pG
  cases q : PySem.W.recIn K (pA K C f) "property" with
  | none => rw [q] at c4; cases c4
  | some l =>
    rw [q] at c4
    cases l with
    | nil => cases c4
    | cons v r => cases v <;> first | exact ⟨r, rfl⟩ | cases c4
def clsB (K : PySem.W.Frag) (C : Addr) : Bool := PySem.W.plainGet K C Str.empty && (PySem.W.hasDictIn K C && (PySem.W.plainOver K C && decide (PySem.W.findIn K (.ref C) "__setattr__" = some (some (.builtin "object.__setattr__")))))
theorem clsB_ok {K : PySem.W.Frag} {C : Addr} (h : clsB K C = true) : Cls K C := by
  obtain ⟨c1, c⟩ := He.ba h
  obtain ⟨c2, c⟩ := He.ba c
  obtain ⟨c3, c4⟩ := He.ba c
  exact ⟨c1, c2, c3, of_decide_eq_true c4⟩
def mkB (K : PySem.W.Frag) (C : Addr) : Bool := PySem.W.makesIn K C && (decide (PySem.W.findIn K (.ref C) "__init__" = some (some (.ref (He.ma K C "__init__")))) && (PySem.W.isFn K (.ref (He.ma K C "__init__")) && PySem.W.keepIn K (.ref C)))
theorem mkB_ok {K : PySem.W.Frag} {C : Addr} (h : mkB K C = true) : Mk K C (He.ma K C "__init__") := by
  obtain ⟨c1, c⟩ := He.ba h
  obtain ⟨c2, c⟩ := He.ba c
  obtain ⟨c3, c4⟩ := He.ba c
  exact ⟨c1, of_decide_eq_true c2, c3, c4⟩
def cmB (K : PySem.W.Frag) (C m : Str) : Bool := PySem.W.readsIn K (He.ga K C) (.type "type") && (decide (PySem.W.specialIn K (eC K C) "__getattribute__" = some (some (.builtin "type.__getattribute__"))) && ((match PySem.W.findCls K (eC K C) (.type "type") m with
  | some (.get (.builtin g) (.ref p) .none (.ref D)) => decide (g = "classmethod.__get__") && (decide (p = pA K C m) && decide (D = He.ga K C))
  | _ => false) && ((match PySem.W.recIn K (pA K C m) "classmethod" with
  | some (.ref _ :: _) => true
  | _ => false) && PySem.W.fnIn K (cG K C m))))
theorem cmB_ok {K : PySem.W.Frag} {C m : Str} (h : cmB K C m = true) : ClX.CRead K (He.ga K C) (.type "type") ∧ ClX.CMet K (He.ga K C) (.type "type") m (pA K C m) (cG K C m) := by
  obtain ⟨h1, h⟩ := He.ba h
  obtain ⟨h2, h⟩ := He.ba h
  obtain ⟨h3, h⟩ := He.ba h
  obtain ⟨h4, h5⟩ := He.ba h
  refine ⟨⟨h1, of_decide_eq_true h2⟩, ?_, ?_, h5⟩
  · split at h3
    · rename_i g p D e
      obtain ⟨k1, k⟩ := He.ba h3
      obtain ⟨k2, k3⟩ := He.ba k
      rw [show PySem.W.findCls K (Value.ref (He.ga K C)) (.type "type") m = _ from e, of_decide_eq_true k1, of_decide_eq_true k2, of_decide_eq_true k3]
    · cases h3
  · unfold cG
    split at h4
    · rename_i f r e
      exact ⟨r, by rw [e]⟩
    · cases h4
def inOk (K : PySem.W.Frag) (d : InD) : Bool := clsB K (He.ga K d.C) && ((d.fs.all fun f => decide (PySem.W.findIn K (eC K d.C) f = some none)) && ((d.ms.all fun m => methB K (He.ga K d.C) m) && ((d.gs.all fun f => propB K d.C f) && ((!d.made || mkB K (He.ga K d.C)) &&
  ((d.g.all fun p => decide (PySem.W.kitOne K (eC K d.C) (eC K p.1) = some p.2)) && ((d.t.all fun p => decide (PySem.W.kitOne K (eC K d.C) (.type p.1) = some p.2)) && (decide (PySem.W.findIn K (eC K d.C) "__class__" = some (some (.builtin "object.__class__"))) &&
  ((d.cms.all fun m => cmB K d.C m) && d.inh.all fun p => decide (pA K d.C p.1 = pA K p.2 p.1)))))))))
structure InF (K : PySem.W.Frag) (d : InD) : Prop where
  c : Cls K (He.ga K d.C)
  f : ∀ f ∈ d.fs, NoAttr K (He.ga K d.C) f
  m : ∀ m ∈ d.ms, Meth K (He.ga K d.C) m (He.ma K (He.ga K d.C) m)
  p : ∀ f ∈ d.gs, PropOf K (He.ga K d.C) f (pA K d.C f) (pG K d.C f)
  k : d.made = true → Mk K (He.ga K d.C) (He.ma K (He.ga K d.C) "__init__")
  g : ∀ p ∈ d.g, PySem.W.kitOne K (eC K d.C) (eC K p.1) = some p.2
  t : ∀ p ∈ d.t, PySem.W.kitOne K (eC K d.C) (.type p.1) = some p.2
  cl : PySem.W.findIn K (eC K d.C) "__class__" = some (some (.builtin "object.__class__"))
  cm : ∀ m ∈ d.cms, ClX.CRead K (He.ga K d.C) (.type "type") ∧ ClX.CMet K (He.ga K d.C) (.type "type") m (pA K d.C m) (cG K d.C m)
  ih : ∀ p ∈ d.inh, pA K d.C p.1 = pA K p.2 p.1
theorem inOk_of {K : PySem.W.Frag} {d : InD} (h : inOk K d = true) : InF K d := by
  unfold inOk at h
  simp only [Bool.and_eq_true, List.all_eq_true, decide_eq_true_eq, Bool.or_eq_true, Bool.not_eq_true'] at h
  obtain ⟨h1, h2, h3, h4, h5, h6, h7, h8, h9, h10⟩ := h
  exact ⟨clsB_ok h1, h2, fun m hm => methB_ok (h3 m hm), fun f hf => propB_ok (h4 f hf), fun k => mkB_ok (h5.resolve_left (by rw [k]; exact fun z => nomatch z)), h6, h7, h8, fun m hm => cmB_ok (h9 m hm), h10⟩
def InT (K : PySem.W.Frag) (xs : List InD) : Prop := ∀ d ∈ xs, InF K d
def inFind (xs : List InD) (C : Str) : Option InD := xs.find? fun e => e.C == C
theorem inFind_ok {K : PySem.W.Frag} {xs : List InD} {C : Str} {d : InD} (T : InT K xs) (h : inFind xs C = some d) : InF K d ∧ d.C = C := ⟨T d (List.mem_of_find?_eq_some h), by simpa using List.find?_some h⟩
def inFs (xs : List InD) (C f : Str) : Bool := ((inFind xs C).map fun e => e.fs.contains f).getD false
def inMs (xs : List InD) (C f : Str) : Bool := ((inFind xs C).map fun e => e.ms.contains f).getD false
def inGs (xs : List InD) (C f : Str) : Bool := ((inFind xs C).map fun e => e.gs.contains f).getD false
def inMk (xs : List InD) (C : Str) : Bool := ((inFind xs C).map fun e => e.made).getD false
section
variable {K : PySem.W.Frag} {xs : List InD} {C f : Str} (T : InT K xs)
include T
theorem inFs_ok (h : inFs xs C f = true) : Cls K (He.ga K C) ∧ NoAttr K (He.ga K C) f := by
  unfold inFs at h
  cases e : inFind xs C with
  | none => rw [e] at h; cases h
  | some d =>
    rw [e] at h
    obtain ⟨F, rfl⟩ := inFind_ok T e
    exact ⟨F.c, F.f _ (by simpa using h)⟩
theorem inMs_ok (h : inMs xs C f = true) : Cls K (He.ga K C) ∧ Meth K (He.ga K C) f (He.ma K (He.ga K C) f) := by
  unfold inMs at h
  cases e : inFind xs C with
  | none => rw [e] at h; cases h
  | some d =>
    rw [e] at h
    obtain ⟨F, rfl⟩ := inFind_ok T e
    exact ⟨F.c, F.m _ (by simpa using h)⟩
theorem inGs_ok (h : inGs xs C f = true) : Cls K (He.ga K C) ∧ PropOf K (He.ga K C) f (pA K C f) (pG K C f) := by
  unfold inGs at h
  cases e : inFind xs C with
  | none => rw [e] at h; cases h
  | some d =>
    rw [e] at h
    obtain ⟨F, rfl⟩ := inFind_ok T e
    exact ⟨F.c, F.p _ (by simpa using h)⟩
theorem inMk_ok (h : inMk xs C = true) : Cls K (He.ga K C) ∧ Mk K (He.ga K C) (He.ma K (He.ga K C) "__init__") := by
  unfold inMk at h
  cases e : inFind xs C with
  | none => rw [e] at h; cases h
  | some d =>
    rw [e] at h
    obtain ⟨F, rfl⟩ := inFind_ok T e
    exact ⟨F.c, F.k h⟩
end
end Dl
namespace Dl
open PySem PySem.Spec PyProof.Rows L2
/-! ### an instance's fields -/
def putKs (f : Str) : List Str → List Str
  | [] => [f]
  | g :: r => if g = f then g :: r else g :: putKs f r
def putVs {α : Type} (f : Str) (d : α) : List Str → List α → List α
  | [], _ => [d]
  | g :: r, x :: xs => if g = f then d :: xs else x :: putVs f d r xs
  | _ :: _, [] => []
theorem putF_zip (f : Str) (v : V) : ∀ (ks : List Str) (vs : List V), ks.length = vs.length → putF f v (ks.zip vs) = (putKs f ks).zip (putVs f v ks vs) ∧ (putKs f ks).length = (putVs f v ks vs).length
  | [], [], _ => ⟨rfl, rfl⟩
  | [], _ :: _, h => by cases h
  | _ :: _, [], h => by cases h
  | g :: ks, x :: vs, h => by
    obtain ⟨h1, h2⟩ := putF_zip f v ks vs (by simpa using h)
    unfold putKs putVs
    rw [List.zip_cons_cons, putF]
    by_cases e : g = f
    · rw [if_pos e, if_pos e, if_pos e]; exact ⟨rfl, by simpa using h⟩
    · rw [if_neg e, if_neg e, if_neg e, h1]; exact ⟨rfl, by simp [h2]⟩
theorem rvs.putVs {K : PySem.W.Frag} {H : Hp} {S : Sto} {f : Str} {d : D} {v : V} (r : rv K H S d v) : ∀ (ks : List Str) (ds : List D) (vs : List V), rvs K H S ds vs → ks.length = vs.length → rvs K H S (Dl.putVs f d ks ds) (Dl.putVs f v ks vs)
  | [], _, _, _, _ => ⟨v, [], rfl, r, rfl⟩
  | g :: ks, [], _, q, h => by cases q; cases h
  | g :: ks, x :: ds, _, q, h => by
    obtain ⟨u, us, rfl, q1, q2⟩ := q
    unfold Dl.putVs
    by_cases e : g = f
    · rw [if_pos e, if_pos e]; exact ⟨v, us, rfl, r, q2⟩
    · rw [if_neg e, if_neg e]; exact ⟨u, _, rfl, q1, rvs.putVs r ks ds us q2 (by simpa using h)⟩
/-- x is an instance -/
def insOf (S : Sto) (x : D) (Q : Addr → Str → List Str → List D → Prop) : Prop := match x with
  | .ref a => (match S a with
    | some (.ins C ks ds) => Q a C ks ds
    | _ => False)
  | _ => False
theorem insOf_of {S : Sto} {x : D} {Q : Addr → Str → List Str → List D → Prop} (h : insOf S x Q) : ∃ a C ks ds, x = .ref a ∧ S a = some (.ins C ks ds) ∧ Q a C ks ds := by
  cases x with
  | ref a =>
    unfold insOf at h
    cases e : S a with
    | none => simp only [e] at h
    | some o => cases o <;> simp only [e] at h <;> exact ⟨_, _, _, _, rfl, e, h⟩
  | _ => exact h.elim
theorem insOf_in {S : Sto} {a : Addr} {C : Str} {ks : List Str} {ds : List D} {Q : Addr → Str → List Str → List D → Prop} (e : S a = some (.ins C ks ds)) : insOf S (.ref a) Q = Q a C ks ds := by
  unfold insOf; simp only [e]
/-- x is an instance, of a class with these fields (a hoist too) -/
def clsOf (S : Sto) (x : D) (Q : Addr → Str → List Str → Prop) : Prop := match x with
  | .ref a => (match S a with
    | some (.ins C ks _) => Q a C ks
    | some (.hst C ks _ _ _ _ _) => Q a C ks
    | _ => False)
  | _ => False
theorem clsOf_of {K : PySem.W.Frag} {H : Hp} {S : Sto} {x : D} {Q : Addr → Str → List Str → Prop} (hS : RS K H S) (h : clsOf S x Q) : ∃ a C ks dx vs, x = .ref a ∧ H a = some (.ins (He.ga K C) dx (ks.zip vs)) ∧ Q a C ks := by
  cases x with
  | ref a =>
    unfold clsOf at h
    cases ha : S a with
    | none => simp only [ha] at h
    | some o =>
      cases o with
      | ins C ks ds =>
        simp only [ha] at h
        obtain ⟨dx, vs, hh, _, _⟩ := hS a _ ha
        exact ⟨a, C, ks, dx, vs, rfl, hh, h⟩
      | hst C ks l0 l1 l2 w more =>
        simp only [ha] at h
        obtain ⟨dx, s, t, e, v0, v1, v2, vw, vm, hh, _⟩ := hS a _ ha
        exact ⟨a, C, ks, dx, _, rfl, hh, h⟩
      | _ => simp only [ha] at h
  | _ => exact h.elim
theorem clsOf_in {S : Sto} {a : Addr} {C : Str} {ks : List Str} {ds : List D} {Q : Addr → Str → List Str → Prop} (e : S a = some (.ins C ks ds)) : clsOf S (.ref a) Q = Q a C ks := by
  unfold clsOf; simp only [e]
theorem clsOf_hst {S : Sto} {a : Addr} {C : Str} {ks : List Str} {l0 l1 l2 more : List D} {w : D} {Q : Addr → Str → List Str → Prop} (e : S a = some (.hst C ks l0 l1 l2 w more)) : clsOf S (.ref a) Q = Q a C ks := by
  unfold clsOf; simp only [e]
section
variable {X : Cx} {W : WX} {o e : Expr} {es : List Expr} {to te tv : TED} {tas : TAD} {xs : List InD} {f m C : Str} {pos p apos : Pos} {k j : Nat} {ps : List Str} {sp : SpD}
def dFld (xs : List InD) (f : Str) (te : TED) : TED := fun ρ S R E => te ρ S (fun x S1 => insOf S1 x fun _ C ks ds => inFs xs C f = true ∧ ∃ d, (ks.zip ds).lookup f = some d ∧ R d S1) E
theorem ped_fld (T : InT X.K xs) (he : PED X W e te) (hb : attributeBase e f X.env (eval e X.env) = eval e X.env := by rfl) : PED X W (.Attribute e f pos) (dFld xs f te) := by
  refine PE_imp (pe_fld he hb) fun σ H Q h => ?_
  obtain ⟨ρ, S, R, E, hS, hρ, ht, bR, bx⟩ := h
  refine ⟨ρ, S, _, E, hS, hρ, ht, fun x S1 r1 H1 v e1 s1 v1 => ?_, bx⟩
  obtain ⟨a, C, ks, ds, rfl, ha, hf, d, hl, r1⟩ := insOf_of r1
  cases v1
  obtain ⟨dx, vs, ho, _, q⟩ := s1 a _ ha
  obtain ⟨u, hu, ru⟩ := zip_lookup q hl
  obtain ⟨c1, c2⟩ := inFs_ok T hf
  exact ⟨a, _, dx, _, u, rfl, ho, c1, c2, hu, bR _ S1 r1 H1 _ e1 s1 ru⟩
/-- o.f = e -/
def sFldD (xs : List InD) (f : Str) (to tv : TED) : TSD := fun D ρ S => tv ρ S (fun y S1 => to ρ S1 (fun x S2 => insOf S2 x fun a C ks ds => inFs xs C f = true ∧ ks.length < 1000 ∧ D.nx ρ (put S2 a (.ins C (putKs f ks) (putVs f y ks ds)))) (fun z S2 => D.xc z ρ S2)) (fun z S1 => D.xc z ρ S1)
theorem psd_fld {pos' : Pos} (T : InT X.K xs) (ho : PED X W o to) (hv : PED X W e tv) (hs : swapsWith e (some (.Attribute o f pos')) pos.line X.env = pure false := by rfl) : PSD X W (.Assign [.Attribute o f pos'] e pos) (sFldD xs f to tv) := by
  refine PS_imp (ps_fld ho hv hs) fun D σ H h => ?_
  obtain ⟨ρ, S, R, hS, hρ, ht, b1, b2, b3, b4, b5⟩ := upS_eq.mp h
  refine ⟨ρ, S, _, _, hS, hρ, ht, fun y S1 r1 H1 w e1 s1 v1 => ?_, b5.at hS hρ⟩
  refine ⟨ρ, S1, _, _, s1, e1.re hS hρ, r1, fun x S2 r2 H2 u e2 s2 v2 => ?_, (b5.ext e1).at s1 (e1.re hS hρ)⟩
  obtain ⟨a, C, ks, ds, rfl, ha, hf, hz, r2⟩ := insOf_of r2
  cases v2
  obtain ⟨dx, vs, hh, hl, q⟩ := s2 a _ ha
  obtain ⟨c1, c2⟩ := inFs_ok T hf
  obtain ⟨z1, z2⟩ := putF_zip f w ks vs hl
  refine ⟨a, _, dx, _, rfl, hh, c1, c2, by rw [List.length_zip]; omega, ?_⟩
  have ne : S2 a ≠ none := by rw [ha]; exact fun z => nomatch z
  have ex : Ext H2 S2 (upd H2 a (.ins (He.ga X.K C) dx (putF f w (ks.zip vs)))) (put S2 a (.ins C (putKs f ks) (putVs f y ks ds))) := Ext.put (.inl ne)
  have e12 := e1.trans e2
  refine b1 ρ _ r2 σ _ (e12.trans ex) (s2.put (.inl ne) (by rw [ha]; rfl) ⟨dx, _, ?_, z2, ?_⟩) ((e12.trans ex).re hS hρ)
  · rw [upd_same, z1]
  · exact rvs.putVs (ex.rv s2 _ _ (e2.rv s1 _ _ v1)) ks ds vs (ex.rvs s2 _ _ q) hl
/-! ### methods -/
/-- the def that C finds under m keeps sp -/
structure CalM (P : Program) (w : World) (K : PySem.W.Frag) (mg : Str → Option Value) (base : Heap) (k : Nat) (C m : Str) (ps : List Str) (sp : SpD) : Prop where
  ex : ∃ fd, FnD P w K mg base k (He.ma K (He.ga K C) m) fd ps sp ∧ Binds K fd ps []
def dMeth (xs : List InD) (Cs : List Str) (m : Str) (sp : SpD) (to : TED) (tas : TAD) : TED := fun ρ S R E => to ρ S (fun x S1 => clsOf S1 x fun a C ks => (Cs.contains C = true ∧ inMs xs C m = true ∧ ks.contains m = false) ∧ tas ρ S1 (fun ds S2 => sp (.ref a :: ds) S2 R E) E) E
theorem no_field {ks : List Str} {m : Str} {vs : List V} (h : ks.contains m = false) : (ks.zip vs).lookup m = none := by
  induction ks generalizing vs with
  | nil => simp
  | cons g r ih =>
    cases vs with
    | nil => simp
    | cons v vs =>
      simp only [List.contains_cons, Bool.or_eq_false_iff] at h
      rw [List.zip_cons_cons, List.lookup_cons, h.1]
      exact ih h.2
theorem ped_meth {pl : Sem Bool} {Cs : List Str} (T : InT X.K xs) (M : ∀ C ∈ Cs, CalM X.prog X.w X.K X.mg X.base k C m ps sp) (hr : Room j X.A) (hgd : X.A.guards = some []) (tk : Takes X W) (ho : PED X W o to) (ha : PAD X W (e :: es) tas) (hj : k ≤ j := by decide)
    (hst : starEach (e :: es) X.env = (false, eval e X.env) :: starEach es X.env := by rfl) (hpl : (backTo pos (starEach es X.env)).any (·.1) = false := by rfl)
    (ht : eval (.Call (.Attribute o m apos) (e :: es) [] pos) X.env = (do
      let ov ← eval o X.env
      standAt apos.atName
      let (f, first) ← holding [ov] (getMethod ov m pl)
      callWith pos f first (backTo pos (starEach (e :: es) X.env)) (backToKw pos (keywordEach [] X.env))) := by rfl) : PED X W (.Call (.Attribute o m apos) (e :: es) [] pos) (dMeth xs Cs m sp to tas) := by
  refine ⟨fun pins s σ H Q I h => methcall_of (pl := pl) ho I ?_ ht⟩
  obtain ⟨ρ, S, R, E, hS, hρ, hto, bR, bx⟩ := h
  refine ⟨ρ, S, _, E, hS, hρ, hto, fun x S1 r1 H1 v e1 s1 v1 => ?_, bx⟩
  obtain ⟨a, C, ks, dx, vs, rfl, hh, ⟨hC, hm, hk⟩, r1⟩ := clsOf_of s1 r1
  cases v1
  obtain ⟨c1, c2⟩ := inMs_ok T hm
  obtain ⟨fd, F, hb⟩ := (M C (by simpa using hC)).ex
  refine ⟨a, _, dx, _, _, rfl, hh, c1, c2, no_field hk, fun sh I1 => ?_⟩
  refine PySem.W.callWith_K (first := [.ref a]) (h₀ := X.base) I.ok.mod.kin c2.kp (thn (ha.run pos pins sh σ H1 (fun ws H2 => upSp X.K sp (.ref a :: ws) H2 Q (WE W σ)) I1 ⟨ρ, S1, _, E, s1, e1.re hS hρ, r1, fun ds' S2 r2 H2 ws e2 s2 v2 => ?_, bx.ext e1⟩) fun us s2 ⟨ws, H2, I2, r, q2⟩ => ⟨I2.kIn, ?_⟩) hst hpl
  · exact upSp_of (ds := .ref a :: ds') s2 ⟨.ref a, ws, rfl, rfl, v2⟩ r2 (bR.ext (e1.trans e2)) (bx.ext (e1.trans e2))
  · exact run_fnG (us := .ref a :: us) (vs := .ref a :: ws) F (hr.mono hj) hgd hb tk I2 (.cons rfl r) q2
theorem ped_meth0 {pl : Sem Bool} {Cs : List Str} (T : InT X.K xs) (M : ∀ C ∈ Cs, CalM X.prog X.w X.K X.mg X.base k C m ps sp) (hr : Room j X.A) (hgd : X.A.guards = some []) (tk : Takes X W) (ho : PED X W o to) (hj : k ≤ j := by decide)
    (ht : eval (.Call (.Attribute o m apos) [] [] pos) X.env = (do
      let ov ← eval o X.env
      standAt apos.atName
      let (f, first) ← holding [ov] (getMethod ov m pl)
      callWith pos f first (backTo pos (starEach [] X.env)) (backToKw pos (keywordEach [] X.env))) := by rfl) : PED X W (.Call (.Attribute o m apos) [] [] pos) (dMeth xs Cs m sp to dNil) := by
  refine ⟨fun pins s σ H Q I h => methcall_of (pl := pl) ho I ?_ ht⟩
  obtain ⟨ρ, S, R, E, hS, hρ, hto, bR, bx⟩ := h
  refine ⟨ρ, S, _, E, hS, hρ, hto, fun x S1 r1 H1 v e1 s1 v1 => ?_, bx⟩
  obtain ⟨a, C, ks, dx, vs, rfl, hh, ⟨hC, hm, hk⟩, r1⟩ := clsOf_of s1 r1
  cases v1
  obtain ⟨c1, c2⟩ := inMs_ok T hm
  obtain ⟨fd, F, hb⟩ := (M C (by simpa using hC)).ex
  refine ⟨a, _, dx, _, _, rfl, hh, c1, c2, no_field hk, fun sh I1 => ?_⟩
  exact PySem.W.callWith_K0 (first := [.ref a]) I1.kIn c2.kp (run_fnG (us := [.ref a]) (vs := [.ref a]) F (hr.mono hj) hgd hb tk I1 (.cons rfl .nil) (upSp_of (ds := [.ref a]) s1 ⟨.ref a, [], rfl, rfl, rfl⟩ r1 (bR.ext e1) (bx.ext e1)))
/-! ### C(e, ..): a new instance -/
def dMake (C : Str) (sp : SpD) (tas : TAD) : TED := fun ρ S R E => tas ρ S (fun ds S1 => ∀ a, S1 a = none → sp (.ref a :: ds) (put S1 a (.ins C [] [])) (fun v S2 => v = .non ∧ R (.ref a) S2) E) E
theorem run_makeG {fd : FuncData} {pins : List (Addr × Obj)} {σ : L2.St} {H : Hp} {s : Shared} {Q : VK} {us : List Value} {vs : List V} {fI Ca : Addr} (M : Mk X.K Ca fI) (F : FnD X.prog X.w X.K X.mg X.base k fI fd ps sp) (hr : Room (k + 1) X.A) (hgd : X.A.guards = some []) (hb : Binds X.K fd ps [])
    (tk : Takes X W) (I : Inv X pins σ H s) (r : Vals vs us)
    (h : ∀ x dx, H x = none → H dx = none → dx ≠ x → upSp X.K sp (.ref x :: vs) (upd (upd H dx (.own x)) x (.ins Ca dx [])) (fun v H2 => v = .non ∧ Q (.ref x) H2) (WE W σ)) :
    wpAny (model X.prog X.w) X.A (call (.ref Ca) us) (EP X pins σ Q) X.xe s := by
  have hq := h (s.heap.objs.size + 1) s.heap.objs.size (I.hok.fresh (Nat.le_succ _)) (I.hok.fresh (Nat.le_refl _)) (Nat.ne_of_lt (Nat.lt_succ_self _))
  have I2 := Inv.made (C := Ca) I
  have r2 : Vals (V.ref (s.heap.objs.size + 1) :: vs) (Value.ref (s.heap.objs.size + 1) :: us) := .cons rfl r
  have hl : (Value.ref (s.heap.objs.size + 1) :: us).length = ps.length := by rw [← r2.length]; exact F.lenV hq
  have hb' := hb _ (Value.ref (s.heap.objs.size + 1) :: us) I2.kIn (by rw [List.append_nil]; exact hl)
  rw [List.append_nil] at hb'
  refine wpAny_call (make_map (f := fI) I.kIn M.makes M.init (beq_iff_eq.mp M.fn) (codeAny_mono (F.run _ X.stack _ _ ⟨Value.ref (s.heap.objs.size + 1) :: us, []⟩ (Value.ref (s.heap.objs.size + 1) :: us) _ _ (WE W σ) (hr.make Ca us []) hgd (I2.env0.make Ca us []) hb' r2 hq) fun r s' hq' => ?_))
  cases r with
  | error e => exact passAt tk σ pins _ _ e s' I2 hq'
  | ok fl =>
    cases fl with
    | ret u =>
      obtain ⟨v, H', I3, rv, ev, q3⟩ := I2.after hq'
      subst ev
      exact ⟨rv, ⟨V.ref (s.heap.objs.size + 1), H', I3, rfl, q3⟩⟩
    | next => exact False.elim hq'
    | brk => exact False.elim hq'
    | cont => exact False.elim hq'
theorem ped_make (T : InT X.K xs) (M : CalM X.prog X.w X.K X.mg X.base k C "__init__" ps sp) (hr : Room j X.A) (hgd : X.A.guards = some []) (tk : Takes X W) (hm : X.mg C = some (eC X.K C)) (ha : PAD X W (e :: es) tas) (hmk : inMk xs C = true := by rfl) (hj : k + 1 ≤ j := by decide) (hg : Gl X C := by rfl)
    (hdb : (C == ("__debug__" : Str)) = false := by decide) (he : starEach (e :: es) X.env = (false, eval e X.env) :: starEach es X.env := by rfl) (hpl : (backTo pos (starEach es X.env)).any (·.1) = false := by rfl) : PED X W (.Call (.Name C p) (e :: es) [] pos) (dMake C sp tas) := by
  obtain ⟨fd, F, hb⟩ := M.ex
  obtain ⟨c1, c2⟩ := inMk_ok T hmk
  refine ⟨fun pins s σ H Q I h => ?_⟩
  obtain ⟨ρ, S, R, E, hS, hρ, ht, bR, bx⟩ := h
  refine wpAny_Call_Name_kw (ld_glob I hg hm ?_ hdb)
  refine PySem.W.callWith_K (h₀ := X.base) I.ok.mod.kin c2.kp (thn (ha.run pos pins s σ H (fun ws H2 => ∀ x dx, H2 x = none → H2 dx = none → dx ≠ x → upSp X.K sp (.ref x :: ws) (upd (upd H2 dx (.own x)) x (.ins (He.ga X.K C) dx [])) (fun v H3 => v = .non ∧ Q (.ref x) H3) (WE W σ)) I ⟨ρ, S, _, E, hS, hρ, ht, fun ds S1 r1 H1 ws e1 s1 v1 => ?_, bx⟩) fun us s1 ⟨ws, H1, I1, r, q⟩ => ⟨I1.kIn, ?_⟩) he hpl
  · intro x dx hx hdx hne
    have nx : S1 x = none := s1.none_of hx
    have hx' : upd H1 dx (.own x) x = none := by rw [upd_ne (Ne.symm hne)]; exact hx
    have ex1 : Ext H1 S1 (upd H1 dx (.own x)) S1 := Ext.new hdx
    have ex2 : Ext (upd H1 dx (.own x)) S1 (upd (upd H1 dx (.own x)) x (.ins (He.ga X.K C) dx [])) (put S1 x (.ins C [] [])) := Ext.put (.inr hx')
    have s2 := (s1.new (o := .own x) hdx).put (u := .ins (He.ga X.K C) dx []) (o := .ins C [] []) (.inr hx') (by rw [nx]; rfl) ⟨dx, [], upd_same, rfl, rfl⟩
    have ee := (e1.trans ex1).trans ex2
    refine upSp_of (ds := .ref x :: ds) s2 ⟨.ref x, ws, rfl, rfl, (ex1.trans ex2).rvs s1 _ _ v1⟩ (r1 x nx) (fun d S3 z H3 v e3 s3 v3 => ?_) (bx.ext ee)
    obtain ⟨rfl, z⟩ := z
    exact ⟨v3, bR _ S3 z H3 _ (ee.trans e3) s3 rfl⟩
  · exact run_makeG c2 F (hr.mono hj) hgd hb tk I1 r q
/-! ### properties -/
structure CalP (P : Program) (w : World) (K : PySem.W.Frag) (mg : Str → Option Value) (base : Heap) (k : Nat) (C f : Str) (sp : SpD) : Prop where
  ex : ∃ fd, FnD P w K mg base k (pG K C f) fd ["self"] sp ∧ Binds K fd ["self"] []
def dProp (xs : List InD) (Cs : List Str) (f : Str) (sp : SpD) (te : TED) : TED := fun ρ S R E => te ρ S (fun x S1 => clsOf S1 x fun a C _ => (Cs.contains C = true ∧ inGs xs C f = true) ∧ sp [.ref a] S1 R E0D) E
theorem ped_prop {Cs : List Str} (T : InT X.K xs) (M : ∀ C ∈ Cs, CalP X.prog X.w X.K X.mg X.base k C f sp) (hr : Room j X.A) (hgd : X.A.guards = some []) (he : PED X W e te) (hj : k + 1 ≤ j := by decide) (hab : attributeBase e f X.env (eval e X.env) = eval e X.env := by rfl) :
    PED X W (.Attribute e f pos) (dProp xs Cs f sp te) := by
  refine ⟨fun pins s σ H Q I h => ?_⟩
  obtain ⟨ρ, S, R, E, hS, hρ, hto, bR, bx⟩ := h
  refine attr_of hab (thn (he.run pins s σ H (fun v H1 => ∃ (a C dx : Addr) (fs : List (Str × V)) (g : Addr × Addr) (fd : FuncData), v = .ref a ∧ H1 a = some (.ins C dx fs) ∧ Cls X.K C ∧ PropOf X.K C f g.1 g.2 ∧ FnD X.prog X.w X.K X.mg X.base k g.2 fd ["self"] sp ∧ Binds X.K fd ["self"] [] ∧ upSp X.K sp [.ref a] H1 Q (fun _ _ _ => False)) I ⟨ρ, S, _, E, hS, hρ, hto, fun x S1 r1 H1 v e1 s1 v1 => ?_, bx⟩) fun u s1 ⟨x, H1, I1, rx, a, C, dx, fs, g, fd, ex, ea, c, hp, F, hb, q⟩ => ?_)
  · obtain ⟨a, C, ks, dx, vs, rfl, hh, ⟨hC, hg⟩, r1⟩ := clsOf_of s1 r1
    cases v1
    obtain ⟨c1, c2⟩ := inGs_ok T hg
    obtain ⟨fd, F, hb⟩ := (M C (by simpa using hC)).ex
    exact ⟨a, _, dx, _, (pA X.K C f, pG X.K C f), fd, rfl, hh, c1, c2, F, hb, [.ref a], S1, R, E0D, s1, ⟨.ref a, [], rfl, rfl, rfl⟩, r1, bR.ext e1, fun _ _ z => z.elim⟩
  · subst ex
    obtain rfl : u = Value.ref a := rx
    obtain ⟨mA, O, _, _, _, _⟩ := ins_get I1.hok ea
    obtain ⟨od, J, _⟩ := O.look
    obtain ⟨rest, hrec⟩ := hp.rec_
    have I2 := I1.tok (s1.toks + 1)
    have hc : (PySem.W.clsIn X.K C).isSome = true := by
      obtain ⟨cd, hc, _⟩ := PySem.W.any_some c.hd
      rw [hc]; rfl
    have hb' := hb { s1 with toks := s1.toks + 1 } [.ref a] I2.kIn rfl
    refine PySem.W.get_bind I1.kIn J (PySem.W.plainGet_of (c.get f)).1 (PySem.W.findObj_data hc hp.at_ hp.get hp.tak) (PySem.W.plainGet_of (c.get f)).2 (wpAny_call (PySem.W.prop_get (s := { s1 with toks := s1.toks + 1 }) I1.kIn hrec (codeAny_mono (F.run X.A.in1 X.stack { s1 with toks := s1.toks + 1 } H1 ⟨[.ref a], []⟩ [.ref a] [.ref a] Q (fun _ _ _ => False) (hr.mono hj).in1 hgd I2.env0.in1 hb' (.cons rfl .nil) q) fun r s' hq => ?_)))
    cases r with
    | error er =>
      obtain ⟨_, _, _, _, _, _, _, _, _, _, _, _, z⟩ := hq
      exact z.elim
    | ok fl =>
      cases fl with
      | ret u =>
        obtain ⟨v, H', I3, rv, q3⟩ := I2.after hq
        show wpAny _ _ (handedOut u) _ _ _
        rw [PySem.W.handedOut_of (handed_of rv)]
        exact wpAny_pure ⟨v, H', I3, rv, q3⟩
      | next => exact False.elim hq
      | brk => exact False.elim hq
      | cont => exact False.elim hq
end
/-! ### a method, an __init__, a property by its body -/
section
variable {P : Program} {w : World} {K : PySem.W.Frag} {mg : Str → Option Value} {base : Heap} {C m x qual : Str} {st : Stmt} {N ps : List Str} {k : Nat} {sp : SpD}
theorem calM (F : ∃ fd, FunD K x qual (defArgs st) (defBody st) (defScope st) [] [] (He.ma K (He.ga K C) m) fd) (Sc : FnScope N ps (defScope st)) (len : ∀ ds S R E, sp ds S R E → ds.length = ps.length) (tB : TSD)
    (hb : ∀ (cdv : Value) (A : Around) (outer : List PySem.Env) (s : Shared) (H : Hp) (E : XK), Room k (A.deeper (envOfC qual (defScope st) s.heap.objs.size (He.ma K (He.ga K C) m) cdv)) → A.guards = some [] →
      Takes (cxOf (L2.CX P w) P w K mg base N qual (defScope st) (He.ma K (He.ga K C) m) cdv A outer s H E) (WF E) →
      PSsD (cxOf (L2.CX P w) P w K mg base N qual (defScope st) (He.ma K (He.ga K C) m) cdv A outer s H E) (WF E) (defBody st) tB)
    (pure : ∀ ds S R E, sp ds S R E → tB (endsF K R E) (startD N ds) S)
    (hbd : ∀ (kV doc pm : Value) (an : Option Addr) (cdv ct : Value) (us : List Value), us.length = ps.length → bindArgs (PySem.W.fnOf x qual (defArgs st) (defBody st) (defScope st) .none kV doc pm an cdv ct) ⟨us, []⟩ = Pure.pure (ps.zip us)) :
    CalM P w K mg base (k + 1) C m ps sp := by
  obtain ⟨fd, F⟩ := F
  exact ⟨fd, fnD F Sc len tB hb pure, F.bindsN hbd⟩
theorem calP (F : ∃ fd, FunD K x qual (defArgs st) (defBody st) (defScope st) [] [] (pG K C m) fd) (Sc : FnScope N ["self"] (defScope st)) (len : ∀ ds S R E, sp ds S R E → ds.length = (["self"] : List Str).length) (tB : TSD)
    (hb : ∀ (cdv : Value) (A : Around) (outer : List PySem.Env) (s : Shared) (H : Hp) (E : XK), Room k (A.deeper (envOfC qual (defScope st) s.heap.objs.size (pG K C m) cdv)) → A.guards = some [] →
      Takes (cxOf (L2.CX P w) P w K mg base N qual (defScope st) (pG K C m) cdv A outer s H E) (WF E) →
      PSsD (cxOf (L2.CX P w) P w K mg base N qual (defScope st) (pG K C m) cdv A outer s H E) (WF E) (defBody st) tB)
    (pure : ∀ ds S R E, sp ds S R E → tB (endsF K R E) (startD N ds) S)
    (hbd : ∀ (kV doc pm : Value) (an : Option Addr) (cdv ct : Value) (us : List Value), us.length = (["self"] : List Str).length → bindArgs (PySem.W.fnOf x qual (defArgs st) (defBody st) (defScope st) .none kV doc pm an cdv ct) ⟨us, []⟩ = Pure.pure ((["self"] : List Str).zip us)) :
    CalP P w K mg base (k + 1) C m sp := by
  obtain ⟨fd, F⟩ := F
  exact ⟨fd, fnD F Sc len tB hb pure, F.bindsN hbd⟩
end
end Dl
namespace Dl
open PySem PySem.Spec PyProof.Rows L2 TL
/-! ### repr of data with texts -/
theorem chr_ok {c : Nat} {l : List Char} (h : c ∈ l.map Char.toNat) : c < 0x110000 := by
  obtain ⟨k, _, rfl⟩ := List.mem_map.mp h
  have := k.valid
  have e : k.toNat = k.val.toNat := rfl
  rcases this with h | h
  · have : k.toNat < 0xd800 := h
    omega
  · exact h.2
theorem reprChar_ok {q c d : Nat} (hc : c < 0x110000) (h : d ∈ Builtin.Str.reprChar q c) : d < 0x110000 := by
  unfold Builtin.Str.reprChar at h
  have hx : ∀ w : Nat, d ∈ List.replicate w 48 ++ (Nat.toDigits 16 c).map Char.toNat → d < 0x110000 := fun w h => by
    rcases List.mem_append.mp h with h | h
    · rw [(List.mem_replicate.mp h).2]; decide
    · exact chr_ok h
  simp only at h
  repeat' split at h
  all_goals first
    | (simp only [List.mem_cons, List.not_mem_nil, or_false] at h; rcases h with rfl | rfl <;> omega)
    | (simp only [List.mem_cons, List.not_mem_nil, or_false] at h; subst h; exact hc)
    | (rcases List.mem_append.mp h with h | h
       · simp only [List.mem_cons, List.not_mem_nil, or_false] at h; rcases h with rfl | rfl <;> decide
       · exact hx _ h)
theorem fold_ok {q : Nat} : ∀ (l : List Nat) (acc : Array Nat), (∀ c ∈ l, c < 0x110000) → (∀ c ∈ acc.toList, c < 0x110000) → ∀ c ∈ (l.foldl (fun out c => out ++ (Builtin.Str.reprChar q c).toArray) acc).toList, c < 0x110000
  | [], _, _, ha => ha
  | x :: l, acc, hl, ha => by
    rw [List.foldl_cons]
    refine fold_ok l _ (fun c hc => hl c (by simp [hc])) fun c hc => ?_
    rw [Array.toList_append] at hc
    rcases List.mem_append.mp hc with h | h
    · exact ha c h
    · exact reprChar_ok (hl x (by simp)) h
theorem okT_repr {x : Str} (h : okT x) : okT (reprText x) := fun c hc => by
  have q : reprQuote x < 0x110000 := by unfold reprQuote; split <;> decide
  unfold reprText tl at hc
  simp only [Array.toList_push, ← Array.foldl_toList] at hc
  rcases List.mem_append.mp hc with k | k
  · exact fold_ok _ _ h (fun c hc => by simp at hc; subst hc; exact q) c k
  · simp at k; subst k; exact q
mutual
def smallx : PyData → Bool
  | .none => true
  | .bool _ => true
  | .int i => decide ((0 ≤ i ∧ i < 10 ^ 45) ∨ (-40 ≤ i ∧ i < 0))
  | .str x => PyData.strOk x
  | .list xs => smallxAll xs
  | .tuple xs => smallxAll xs
  | .dict xs => xs.isEmpty
def smallxAll : List PyData → Bool
  | [] => true
  | x :: xs => smallx x && smallxAll xs
end
mutual
theorem smallx_ok : ∀ d : PyData, smallx d = true → d.showable = true ∧ d.leavesShort 50 = true ∧ okT d.shown
  | .none, _ => ⟨rfl, rfl, by rw [PyData.shown_none]; exact okT_lit (by decide)⟩
  | .bool b, _ => ⟨rfl, rfl, by rw [PyData.shown_bool]; cases b <;> exact okT_lit (by decide)⟩
  | .int i, h => by
    have h' : (0 ≤ i ∧ i < 10 ^ 45) ∨ (-40 ≤ i ∧ i < 0) := of_decide_eq_true (by simpa only [smallx] using h)
    have hn : i.natAbs < 10 ^ 45 := by rcases h' with h' | h' <;> omega
    refine ⟨?_, ?_, by rw [PyData.shown_int]; exact okT_dec i⟩
    · simp only [PyData.showable, decide_eq_true_eq]
      by_cases h0 : i.natAbs = 0
      · rw [h0]; decide
      · exact (Nat.log2_lt h0).mpr (Nat.lt_trans hn (Nat.lt_of_lt_of_le (by decide : 10 ^ 45 < 2 ^ 150) (Nat.pow_le_pow_right (by decide) (by decide))))
    · simp only [PyData.leavesShort, decide_eq_true_eq]
      rcases h' with h' | h'
      · exact Nat.le_trans (toString_length_le h'.1 (by decide) h'.2) (by decide)
      · have := len_str_of_int i
        rw [PyData.shown_int]
        omega
  | .str x, h => by
    have h' : PyData.strOk x = true := by simpa only [smallx] using h
    have ho := okT_iff.mp h'
    refine ⟨rfl, ?_, by rw [PyData.shown_str]; exact okT_repr ho⟩
    simp only [PyData.leavesShort, List.all_eq_true, decide_eq_true_eq]
    intro c hc
    exact Nat.lt_of_lt_of_le (ho c hc) (by decide)
  | .list xs, h => by
    obtain ⟨h1, h2, h3⟩ := smallx_all xs (by simpa only [smallx] using h)
    refine ⟨by simpa only [PyData.showable] using h1, by simpa only [PyData.leavesShort] using h2, ?_⟩
    rw [PyData.shown_list]
    exact okT_app (okT_app (okT_lit (by decide)) (okT_join (okT_lit (by decide)) h3)) (okT_lit (by decide))
  | .tuple xs, h => by
    obtain ⟨h1, h2, h3⟩ := smallx_all xs (by simpa only [smallx] using h)
    refine ⟨by simpa only [PyData.showable] using h1, by simpa only [PyData.leavesShort] using h2, ?_⟩
    rw [PyData.shown_tuple]
    refine okT_app (okT_app (okT_lit (by decide)) (okT_join (okT_lit (by decide)) h3)) ?_
    split <;> exact okT_lit (by decide)
  | .dict [], h => ⟨rfl, rfl, by rw [PyData.shown_dict]; exact okT_lit (s := "{}") (by decide)⟩
  | .dict (_ :: _), h => by simp [smallx] at h
theorem smallx_all : ∀ xs : List PyData, smallxAll xs = true → PyData.showableAll xs = true ∧ PyData.leavesShortAll 50 xs = true ∧ ∀ x ∈ PyData.shownAll xs, okT x
  | [], _ => ⟨rfl, rfl, by simp [PyData.shownAll]⟩
  | x :: xs, h => by
    have h' : smallx x = true ∧ smallxAll xs = true := by simpa only [smallxAll, Bool.and_eq_true] using h
    obtain ⟨a1, a2, a3⟩ := smallx_ok x h'.1
    obtain ⟨b1, b2, b3⟩ := smallx_all xs h'.2
    refine ⟨by rw [PyData.showableAll, a1, b1]; rfl, by rw [PyData.leavesShortAll, a2, b2]; rfl, fun y hy => ?_⟩
    simp only [PyData.shownAll, List.mem_cons] at hy
    rcases hy with rfl | hy
    · exact a3
    · exact b3 y hy
end
theorem smallx_len {d : PyData} (h : smallx d = true) (hb : d.bulk ≤ 100000) : d.shown.length ≤ sizeLine := by
  have := PyData.shown_le_bulk 50 (by decide) d (smallx_ok d h).2.1
  have e : (5200050 : Nat) ≤ sizeLine := by decide
  omega
theorem r_reprx {S : Sto} {R : QD} {x : D} {d : PyData} (h : pyR S x = some d) (hs : smallx d = true) (hb : d.bulk ≤ 100000) (hd : d.depth ≤ 60) (r : R (.str d.shown) S) : cRepr [x] S R :=
  ⟨d, h, (smallx_ok d hs).1, hd, smallx_len hs hb, r⟩
theorem okx {d : PyData} (h : smallx d = true) : PyData.strOk d.shown = true := okT_iff.mpr (smallx_ok d h).2.2
/-! ### list.count of True, False -/
def blsD : List D → Option (List Bool)
  | [] => some []
  | .bl i :: r => (blsD r).map (i :: ·)
  | _ => none
theorem blsD_of {K : PySem.W.Frag} {H : Hp} {S : Sto} : ∀ {ds : List D} {zs : List Bool} {vs : List V} {us : List Value}, blsD ds = some zs → rvs K H S ds vs → Vals vs us → us = zs.map Value.bool
  | [], _, _, _, h, q, r => by cases h; cases q; cases r; rfl
  | d :: r, _, _, _, h, q, w => by
    obtain ⟨v, r', rfl, h1, h2⟩ := q
    cases d with
    | bl i =>
      unfold blsD at h
      obtain ⟨ns, e, rfl⟩ := Option.map_eq_some_iff.mp h
      cases h1
      cases w with
      | cons w1 w2 =>
        cases w1
        rw [blsD_of e h2 w2]; rfl
    | _ => cases h
def mCountB : RMD := fun x ds S R => match x with
  | .lst es => one ds fun y => ∃ bs b, blsD es = some bs ∧ y = .bl b ∧ R (.int (bs.count b : Nat)) S
  | _ => False
theorem md_countB {X : Cx} : MtR X "list.count" (upM X.K mCountB) := by
  intro pins s σ H x xs v us Q I rx rxs h
  obtain ⟨y, ds, S, R, hS, ry, q, h, bR⟩ := h
  cases y with
  | lst es =>
    obtain ⟨z, rfl, bs, b, hb, rfl, hh⟩ := one_of h
    obtain ⟨p, ws, rfl, hp, _, qs⟩ := ry
    obtain ⟨u1, rfl, ru⟩ := q.one
    cases ru
    cases rx
    obtain ⟨u, rfl, ru⟩ := rxs.one
    cases ru
    obtain ⟨its, rv0, ⟨⟨cls, dd, data, sl⟩, n, ho, hc, hdn, hd⟩, hlen⟩ := I.list (SqL.of hp)
    simp only at hc hd
    subst hc hd
    have ei := blsD_of hb qs rv0
    subst ei
    refine call_meets PySem.F.slot_list_count ⟨_, ho, rfl⟩ PySem.F.entry_list_count (PySem.F.args_list_count_2 _ _)
      (SeqAt.list_countAt p (bs.map Value.bool).toArray n dd sl (.bool b) (fun y => y == .bool b)) ⟨ho, fun y hy => ?_, ?_⟩
    · obtain ⟨k, _, rfl⟩ := List.mem_map.mp (by simpa using hy : y ∈ bs.map Value.bool)
      have e : (Value.bool k == Value.bool b) = (k == b) := by cases k <;> cases b <;> decide
      rw [e]
      exact SeqAt.EqAt.bool_bool k b
    · have ec : (bs.map Value.bool).countP (fun y => y == .bool b) = bs.count b := by
        rw [List.countP_map, List.count]
        congr 1
        funext k
        show (Value.bool k == Value.bool b) = (k == b)
        cases k <;> cases b <;> decide
      refine ⟨.int (bs.count b : Nat), H, I.tok _, ⟨s.toks, ?_⟩, bR _ S hh H _ (Ext.refl _ _) hS rfl⟩
      show Value.int (((bs.map Value.bool).toArray.toList.countP (fun y => y == .bool b) : Nat) : Int) s.toks = Value.int ((bs.count b : Nat) : Int) s.toks
      rw [← ec]
  | _ => exact h.elim
end Dl
namespace Dl
open PySem PySem.Spec PyProof.Rows L2 TL
/-! ### isinstance with own classes -/
/-- built-in types against own classes: never -/
def tyOwnB (K : PySem.W.Frag) (Cs : List Str) : Bool := Cs.all fun C => tyNames.all fun T => decide (PySem.W.kitOne K (.type T) (eC K C) = some false)
def objB (K : PySem.W.Frag) (Cs : List Str) : Bool := decide (PySem.W.specialIn K (.builtin "object.__class__") "__get__" = some (some (.builtin "getset_descriptor.__get__"))) && (decide (PySem.W.takesIn K (.builtin "object.__class__") = some true) && Cs.all fun C => decide (PySem.W.mroIn K (He.ga K C) (.type "object") = some true))
/-- what isinstance asks of x: its tag -/
inductive Tag where
  | ty (T : String)
  | own (C : Str)
def tagD (S : Sto) (x : D) : Option Tag := match x with
  | .ref a => (match S a with
    | some (.ins C _ _) => some (.own C)
    | some (.hst C _ _ _ _ _ _) => some (.own C)
    | _ => (tyD S x).map .ty)
  | _ => (tyD S x).map .ty
def isG (xs : List InD) (C D : Str) : Option Bool := (inFind xs C).bind fun e => e.g.lookup D
def isT (xs : List InD) (C : Str) (D : String) : Option Bool := (inFind xs C).bind fun e => e.t.lookup D
/-- the answer for one class -/
def isA (xs : List InD) (ow : List Str) (g : Tag) (c : D) : Option Bool := match g, c with
  | .ty T, .ty U => if tyNames.contains U then some (isTy T U) else none
  | .ty _, .glo D => if ow.contains D then some false else none
  | .own C, .glo D => isG xs C D
  | .own C, .ty U => isT xs C U
  | _, _ => none
def isAny (xs : List InD) (ow : List Str) (g : Tag) : List D → Option Bool
  | [] => some false
  | c :: r => (isA xs ow g c).bind fun a => (isAny xs ow g r).map fun b => a || b
def cIsX (xs : List InD) (ow : List Str) : RCD := fun ds S R => two ds fun x t => ∃ g, tagD S x = some g ∧ (match t with
  | .tup cs => cs ≠ [] ∧ ∃ b, isAny xs ow g cs = some b ∧ R (.bl b) S
  | t => ∃ b, isA xs ow g t = some b ∧ R (.bl b) S)
structure IsF (K : PySem.W.Frag) (xs : List InD) (ow : List Str) : Prop where
  t : InT K xs
  o : tyOwnB K ow = true
  j : objB K (xs.map (·.C)) = true
def tagV (K : PySem.W.Frag) : Tag → Value
  | .ty T => .type T
  | .own C => eC K C
theorem isA_ok {K : PySem.W.Frag} {xs : List InD} {ow : List Str} (F : IsF K xs ow) {g : Tag} {c : D} {b : Bool} {S : Sto} {H : Hp} {v : V} (hg : ∀ T, g = .ty T → T ∈ tyNames) (h : isA xs ow g c = some b) (r : rv K H S c v) : ∃ cv, ClsV v cv ∧ PySem.W.kitOne K (tagV K g) cv = some b := by
  cases g with
  | ty T =>
    cases c with
    | ty U =>
      cases r
      have h : (if tyNames.contains U then some (isTy T U) else none) = some b := h
      by_cases hU : tyNames.contains U = true
      · rw [if_pos hU] at h
        cases h
        exact ⟨_, .ty U, kit_ty (kitB_tab T (hg T rfl) U (by simpa using hU))⟩
      · rw [if_neg hU] at h; cases h
    | glo D =>
      cases r
      have h : (if ow.contains D then some false else none) = some b := h
      by_cases hD : ow.contains D = true
      · rw [if_pos hD] at h
        cases h
        refine ⟨_, .own _, ?_⟩
        have := List.all_eq_true.mp F.o D (by simpa using hD)
        exact of_decide_eq_true (List.all_eq_true.mp this T (hg T rfl))
      · rw [if_neg hD] at h; cases h
    | _ => cases h
  | own C =>
    cases c with
    | ty U =>
      cases r
      obtain ⟨d, h1, h2⟩ := Option.bind_eq_some_iff.mp (show (inFind xs C).bind (fun e => e.t.lookup U) = some b from h)
      obtain ⟨Fd, rfl⟩ := inFind_ok F.t h1
      exact ⟨_, .ty U, Fd.t _ (mem_lookup h2)⟩
    | glo D =>
      cases r
      obtain ⟨d, h1, h2⟩ := Option.bind_eq_some_iff.mp (show (inFind xs C).bind (fun e => e.g.lookup D) = some b from h)
      obtain ⟨Fd, rfl⟩ := inFind_ok F.t h1
      exact ⟨_, .own _, Fd.g _ (mem_lookup h2)⟩
    | _ => cases h
theorem isAny_ok {K : PySem.W.Frag} {xs : List InD} {ow : List Str} (F : IsF K xs ow) {g : Tag} {S : Sto} {H : Hp} (hg : ∀ T, g = .ty T → T ∈ tyNames) : ∀ (cs : List D) (vs : List V) (b : Bool), isAny xs ow g cs = some b → rvs K H S cs vs → ∃ us, Paired ClsV vs us ∧ PySem.W.kitAny K (tagV K g) us = some b
  | [], _, b, h, q => by cases q; cases h; exact ⟨[], .nil, rfl⟩
  | c :: cs, _, b, h, q => by
    obtain ⟨v, vs, rfl, q1, q2⟩ := q
    obtain ⟨k, hx, h⟩ := Option.bind_eq_some_iff.mp (show (isA xs ow g c).bind (fun a => (isAny xs ow g cs).map fun b => a || b) = some b from h)
    obtain ⟨b', hy, rfl⟩ := Option.map_eq_some_iff.mp h
    obtain ⟨cv, h1, h2⟩ := isA_ok F hg hx q1
    obtain ⟨us, hu, e⟩ := isAny_ok F hg cs vs b' hy q2
    refine ⟨cv :: us, .cons h1 hu, kitAny_cons h2 (fun hk => ?_) fun hk => ?_⟩
    · rw [hk, Bool.false_or]; exact e
    · rw [hk]; rfl
theorem tag_ty {K : PySem.W.Frag} {xs : List InD} {H : Hp} {S : Sto} {x : D} {v : V} {g : Tag} (T : InT K xs) (ob : objB K (xs.map (·.C)) = true) (hS : RS K H S) (h : tagD S x = some g) (hown : ∀ C, g = .own C → (inFind xs C).isSome = true) (r : rv K H S x v) : TyX K H v (tagV K g) ∧ ∀ T, g = .ty T → T ∈ tyNames := by
  have base : ∀ {U : String}, tyD S x = some U → g = .ty U → TyX K H v (tagV K g) ∧ ∀ T, g = .ty T → T ∈ tyNames := fun {U} e eg => by
    subst eg
    exact ⟨tyD_of hS e r, fun T e2 => by cases e2; exact tyD_names e⟩
  have other : (tyD S x).map Tag.ty = some g → TyX K H v (tagV K g) ∧ ∀ T, g = .ty T → T ∈ tyNames := fun e => by
    obtain ⟨U, e1, e2⟩ := Option.map_eq_some_iff.mp e
    exact base e1 e2.symm
  cases x with
  | ref a =>
    unfold tagD at h
    cases ha : S a with
    | none => simp only [ha] at h; exact other h
    | some o =>
      cases o with
      | ins C ks ds =>
        simp only [ha] at h
        cases h
        cases r
        obtain ⟨dx, vs, hh, _, _⟩ := hS a _ ha
        obtain ⟨d, hd⟩ := Option.isSome_iff_exists.mp (hown C rfl)
        obtain ⟨F, rfl⟩ := inFind_ok T hd
        obtain ⟨o1, o2⟩ := He.ba ob
        obtain ⟨o2, o3⟩ := He.ba o2
        have o4 := of_decide_eq_true (List.all_eq_true.mp o3 d.C (List.mem_map.mpr ⟨d, List.mem_of_find?_eq_some hd, rfl⟩))
        exact ⟨.base (.ins hh F.c F.cl (of_decide_eq_true o1) (of_decide_eq_true o2) o4), fun T e => nomatch e⟩
      | hst C ks l0 l1 l2 w more =>
        simp only [ha] at h
        cases h
        cases r
        obtain ⟨dx, s, t, e, v0, v1, v2, vw, vm, hh, _⟩ := hS a _ ha
        obtain ⟨d, hd⟩ := Option.isSome_iff_exists.mp (hown C rfl)
        obtain ⟨F, rfl⟩ := inFind_ok T hd
        obtain ⟨o1, o2⟩ := He.ba ob
        obtain ⟨o2, o3⟩ := He.ba o2
        have o4 := of_decide_eq_true (List.all_eq_true.mp o3 d.C (List.mem_map.mpr ⟨d, List.mem_of_find?_eq_some hd, rfl⟩))
        exact ⟨.base (.ins hh F.c F.cl (of_decide_eq_true o1) (of_decide_eq_true o2) o4), fun T e => nomatch e⟩
      | _ => simp only [ha] at h; exact other h
  | _ => exact other h
theorem own_found {xs : List InD} {ow : List Str} {C : Str} {c : D} {b : Bool} (h : isA xs ow (.own C) c = some b) : (inFind xs C).isSome = true := by
  cases e : inFind xs C with
  | some d => rfl
  | none =>
    cases c with
    | ty U =>
      have h : (inFind xs C).bind (fun e => e.t.lookup U) = some b := h
      rw [e] at h; cases h
    | glo U =>
      have h : (inFind xs C).bind (fun e => e.g.lookup U) = some b := h
      rw [e] at h; cases h
    | _ => cases h
theorem cd_isX {X : Cx} {xs : List InD} {ow : List Str} (F : IsF X.K xs ow) : CallR X (.builtin "isinstance") (upC X.K (cIsX xs ow)) := by
  have two : CallR X (.builtin "isinstance") (fun vs H Q => rIsi X.K vs H Q ∨ rIsiT X.K vs H Q) := fun pins s σ H xs us Q I r h => h.elim (call_isi pins s σ H xs us Q I r) (call_isiT pins s σ H xs us Q I r)
  refine CallR_imp two fun vs H Q h => ?_
  obtain ⟨ds, S, R, hS, q, r, bR⟩ := h
  obtain ⟨x, t, rfl, g, hg, r⟩ := two_of r
  obtain ⟨v, u, rfl, rx, ry⟩ := q.two
  have fin : ∀ {b : Bool}, R (.bl b) S → Q (.bl b) H := fun h => bR _ S h H _ (Ext.refl _ _) hS rfl
  have onec : (∃ b, isA xs ow g t = some b ∧ R (.bl b) S) → rIsi X.K [v, u] H Q ∨ rIsiT X.K [v, u] H Q := fun ⟨b, e, h⟩ => by
    obtain ⟨ty, hn⟩ := tag_ty F.t F.j hS hg (fun C ec => own_found (by rw [← ec]; exact e)) rx
    obtain ⟨cv, h1, h2⟩ := isA_ok F hn e ry
    exact .inl ⟨v, u, _, cv, b, rfl, h1, ty, h2, fin h⟩
  cases t with
  | tup cs =>
    obtain ⟨hne, b, e, h⟩ := r
    cases cs with
    | nil => exact absurd rfl hne
    | cons c cr =>
      have e' := e
      obtain ⟨k, hx, _⟩ := Option.bind_eq_some_iff.mp (show (isA xs ow g c).bind (fun a => (isAny xs ow g cr).map fun b => a || b) = some b from e')
      obtain ⟨ty, hn⟩ := tag_ty F.t F.j hS hg (fun C ec => own_found (by rw [← ec]; exact hx)) rx
      obtain ⟨p, ws, rfl, hp, q⟩ := ry
      obtain ⟨us, h1, h2⟩ := isAny_ok F hn (c :: cr) ws b e q
      exact .inr ⟨v, p, ws, _, us, b, rfl, hp, h1, ty, h2, fin h⟩
  | _ => exact onec r
end Dl
namespace Dl
open PySem PySem.Spec PyProof.Rows L2
/-! ### the deck, opened and closed -/
section
variable {K : PySem.W.Frag} {H : Hp} {S S' : Sto} {a c : Addr} {n : Nat} {m : Int} {cells : List Int}
theorem open_deck {G : Sto → Prop} (hS : RS K H S) (ha : S a = some (.draw false n)) (e1 : H a = some (.lst [.ref c, .int m])) (e2 : S c = some (.part a)) (e4 : H c = some (.lst (cells.map V.int)))
    (go : ∀ S2 : Sto, a ≠ c → S2 a = some (.lst [.ref c, .int m]) → S2 c = some (.lst (cells.map .int)) →
      (∀ (S3 : Sto) (m' : Int) (cells' : List Int) (n' : Nat), S3 a = some (.lst [.ref c, .int m']) → S3 c = some (.lst (cells'.map .int)) → (∀ x, x ≠ a → x ≠ c → S3 x = S2 x) → 0 ≤ m' → m' ≤ (n' : Int) → (∀ z ∈ cells', 0 ≤ z) → cells'.length ≤ 63 → Wk K (put S a (.draw false n')) S3) → G S2) :
    ∃ S2, RS K H S2 ∧ (∀ a, S a = none → S2 a = none) ∧ G S2 := by
  have nca : c ≠ a := fun z => by rw [z, ha] at e2; cases e2
  let S2 : Sto := fun b => if b = a then some (.lst [.ref c, .int m]) else if b = c then some (.lst (cells.map .int)) else S b
  have s2a : S2 a = some (.lst [.ref c, .int m]) := if_pos rfl
  have s2c : S2 c = some (.lst (cells.map .int)) := by show (if c = a then _ else _) = _; rw [if_neg nca, if_pos rfl]
  have s2o : ∀ {x}, x ≠ a → x ≠ c → S2 x = S x := fun {x} h1 h2 => by show (if x = a then _ else _) = _; rw [if_neg h1, if_neg h2]
  have nn : ∀ x, S x = none → S2 x = none := fun x h => by
    rw [s2o (fun z => by rw [z, ha] at h; cases h) (fun z => by rw [z, e2] at h; cases h)]; exact h
  refine ⟨S2, ?_, nn, go S2 (Ne.symm nca) s2a s2c ?_⟩
  · intro b o e
    by_cases h1 : b = a
    · subst h1; rw [s2a] at e; cases e
      exact ⟨_, e1, _, _, rfl, rfl, _, _, rfl, rfl, rfl⟩
    by_cases h2 : b = c
    · subst h2; rw [s2c] at e; cases e
      exact ⟨_, e4, rvs.of_ints⟩
    rw [s2o h1 h2] at e
    refine ro_mv (hS b o e) hS nn fun x q => ?_
    rw [s2o (fun z => by rw [z, ha] at q; cases q) (fun z => by rw [z, e2] at q; cases q; exact h1 rfl)]
    exact q
  · intro S3 m' cells' n' q1 q2 qo b1 b2 b3 b4
    have sp : ∀ {x}, x ≠ a → put S a (.draw false n') x = S x := fun h => put_ne h
    have nn3 : ∀ x, S3 x = none → put S a (.draw false n') x = none := fun x h => by
      have h1 : x ≠ a := fun z => by rw [z, q1] at h; cases h
      have h2 : x ≠ c := fun z => by rw [z, q2] at h; cases h
      rw [sp h1, ← s2o h1 h2, ← qo x h1 h2]; exact h
    refine ⟨fun H' hS' => ?_, nn3⟩
    intro b o e
    by_cases h1 : b = a
    · subst h1
      rw [put_same] at e; cases e
      obtain ⟨vs, hv, q⟩ := hS' b _ q1
      obtain ⟨v1, t1, rfl, g1, v2, t2, rfl, g2, rfl⟩ := q
      cases g1; cases g2
      obtain ⟨ws, hw, qw⟩ := hS' c _ q2
      rw [qw.ints] at hw
      exact ⟨c, cells', m', hv, by rw [sp nca]; exact e2, hw, b1, b2, b3, b4⟩
    rw [sp h1] at e
    by_cases h2 : b = c
    · subst h2; rw [e2] at e; cases e
      obtain ⟨ws, hw, _⟩ := hS' b _ q2
      exact ⟨ws, hw⟩
    refine ro_mv (hS' b o (by rw [qo b h1 h2, s2o h1 h2]; exact e)) hS' nn3 fun x q => ?_
    have k1 : x ≠ a := fun z => by rw [z, q1] at q; cases q
    have k2 : x ≠ c := fun z => by rw [z, q2] at q; cases q
    rw [sp k1, ← s2o k1 k2, ← qo x k1 k2]; exact q
/-- two lists become a deck -/
theorem make_deck {S3 : Sto} (nca : c ≠ a) (qa : S a = none) (qc : S c = none) (q1 : S3 a = some (.lst [.ref c, .int 0])) (q2 : S3 c = some (.lst (cells.map .int))) (qo : ∀ x, x ≠ a → x ≠ c → S3 x = S x) (pc : ∀ z ∈ cells, 0 ≤ z) (lc : cells.length ≤ 63) :
    ∃ S4 : Sto, Wk K S4 S3 ∧ S4 a = some (.draw false 0) ∧ More S S4 := by
  let S4 : Sto := fun b => if b = a then some (.draw false 0) else if b = c then some (.part a) else S b
  have s4a : S4 a = some (.draw false 0) := if_pos rfl
  have s4c : S4 c = some (.part a) := by show (if c = a then _ else _) = _; rw [if_neg nca, if_pos rfl]
  have s4o : ∀ {x}, x ≠ a → x ≠ c → S4 x = S x := fun {x} h1 h2 => by show (if x = a then _ else _) = _; rw [if_neg h1, if_neg h2]
  have nn : ∀ x, S3 x = none → S4 x = none := fun x h => by
    have h1 : x ≠ a := fun z => by rw [z, q1] at h; cases h
    have h2 : x ≠ c := fun z => by rw [z, q2] at h; cases h
    rw [s4o h1 h2, ← qo x h1 h2]; exact h
  refine ⟨S4, ⟨fun H' hS' => ?_, nn⟩, s4a, fun x o e => ?_⟩
  · intro b o e
    by_cases h1 : b = a
    · subst h1
      rw [s4a] at e; cases e
      obtain ⟨vs, hv, q⟩ := hS' b _ q1
      obtain ⟨v1, t1, rfl, g1, v2, t2, rfl, g2, rfl⟩ := q
      cases g1; cases g2
      obtain ⟨ws, hw, qw⟩ := hS' c _ q2
      rw [qw.ints] at hw
      exact ⟨c, cells, 0, hv, s4c, hw, Int.le_refl 0, Int.le_refl 0, pc, lc⟩
    by_cases h2 : b = c
    · subst h2; rw [s4c] at e; cases e
      obtain ⟨ws, hw, _⟩ := hS' b _ q2
      exact ⟨ws, hw⟩
    rw [s4o h1 h2] at e
    refine ro_mv (hS' b o (by rw [qo b h1 h2]; exact e)) hS' nn fun x q => ?_
    have k1 : x ≠ a := fun z => by rw [z, q1] at q; cases q
    have k2 : x ≠ c := fun z => by rw [z, q2] at q; cases q
    rw [s4o k1 k2, ← qo x k1 k2]; exact q
  · rw [s4o (fun z => by rw [z, qa] at e; cases e) (fun z => by rw [z, qc] at e; cases e)]; exact e
end
theorem all1 {P : Str → Prop} {c : Str} (h : P c) : ∀ C ∈ [c], P C := fun C hc => by rw [List.mem_singleton.mp hc]; exact h
theorem all2 {P : Str → Prop} {c d : Str} (h : P c) (k : P d) : ∀ C ∈ [c, d], P C := fun C hc => by
  simp only [List.mem_cons, List.not_mem_nil, or_false] at hc
  rcases hc with rfl | rfl
  · exact h
  · exact k
theorem cpow5 {i : Int} (h0 : 0 ≤ i) (h1 : i < 18446744073709551616) : CPow i 5 := ⟨by decide, by decide, by omega⟩
theorem subAt_q {a : Addr} {k : Int} {d : D} {S : Sto} {Q : Sto → Prop} {ds : List D} (e : S a = some (.lst ds)) (h0 : 0 ≤ k) (h1 : k < ds.length) (q : Q (put S a (.lst (ds.set k.toNat d)))) : subAt (.ref a) (.int k) d S Q := subAt_in e (ix_n h0 h1) q
end Dl
namespace Dl
open PySem PySem.Spec PyProof.Rows L2
def chkY (ex : List ExD) (inn : List InD) (ow : List Str) (K : PySem.W.Frag) : Bool := (ex.all fun e => exOk K e) && ((inn.all fun d => inOk K d) && (tyOwnB K ow && objB K (inn.map (·.C))))
theorem chkY_ok {ex : List ExD} {inn : List InD} {ow : List Str} {K : PySem.W.Frag} (h : chkY ex inn ow K = true) : ExT K ex ∧ InT K inn ∧ IsF K inn ow := by
  obtain ⟨h1, h⟩ := He.ba h
  obtain ⟨h2, h⟩ := He.ba h
  obtain ⟨h3, h4⟩ := He.ba h
  have t : InT K inn := fun d hd => inOk_of (List.all_eq_true.mp h2 d hd)
  exact ⟨fun e he => exOk_of (List.all_eq_true.mp h1 e he), t, t, h3, h4⟩
end Dl
namespace Dl
open PySem PySem.Spec PyProof.Rows L2
theorem boot_ValueError : bootBuiltins "ValueError" = some (.type "ValueError") := by kernel_rfl
theorem boot_LookupError : bootBuiltins "LookupError" = some (.type "LookupError") := by kernel_rfl
end Dl
namespace Dl
open PySem PySem.Spec PyProof.Rows L2 TL
section
variable {S : Sto} {R : QD} {xs : List InD} {ow : List Str}
theorem ti_non_bool  : cIsi [.non, .ty "bool"] S R = R (.bl false) S := propext ⟨fun ⟨U, h1, _, h3⟩ => by cases h1; exact h3, fun h => ⟨"NoneType", rfl, by decide, h⟩⟩
theorem tx_non_bool  : cIsX xs ow [.non, .ty "bool"] S R = R (.bl false) S := propext ⟨fun ⟨U, h1, b, h2, h3⟩ => by cases h1; cases h2; exact h3, fun h => ⟨.ty "NoneType", rfl, false, rfl, h⟩⟩
theorem ti_non_int  : cIsi [.non, .ty "int"] S R = R (.bl false) S := propext ⟨fun ⟨U, h1, _, h3⟩ => by cases h1; exact h3, fun h => ⟨"NoneType", rfl, by decide, h⟩⟩
theorem tx_non_int  : cIsX xs ow [.non, .ty "int"] S R = R (.bl false) S := propext ⟨fun ⟨U, h1, b, h2, h3⟩ => by cases h1; cases h2; exact h3, fun h => ⟨.ty "NoneType", rfl, false, rfl, h⟩⟩
theorem ti_non_str  : cIsi [.non, .ty "str"] S R = R (.bl false) S := propext ⟨fun ⟨U, h1, _, h3⟩ => by cases h1; exact h3, fun h => ⟨"NoneType", rfl, by decide, h⟩⟩
theorem tx_non_str  : cIsX xs ow [.non, .ty "str"] S R = R (.bl false) S := propext ⟨fun ⟨U, h1, b, h2, h3⟩ => by cases h1; cases h2; exact h3, fun h => ⟨.ty "NoneType", rfl, false, rfl, h⟩⟩
theorem ti_non_tuple  : cIsi [.non, .ty "tuple"] S R = R (.bl false) S := propext ⟨fun ⟨U, h1, _, h3⟩ => by cases h1; exact h3, fun h => ⟨"NoneType", rfl, by decide, h⟩⟩
theorem tx_non_tuple  : cIsX xs ow [.non, .ty "tuple"] S R = R (.bl false) S := propext ⟨fun ⟨U, h1, b, h2, h3⟩ => by cases h1; cases h2; exact h3, fun h => ⟨.ty "NoneType", rfl, false, rfl, h⟩⟩
theorem ti_non_list  : cIsi [.non, .ty "list"] S R = R (.bl false) S := propext ⟨fun ⟨U, h1, _, h3⟩ => by cases h1; exact h3, fun h => ⟨"NoneType", rfl, by decide, h⟩⟩
theorem tx_non_list  : cIsX xs ow [.non, .ty "list"] S R = R (.bl false) S := propext ⟨fun ⟨U, h1, b, h2, h3⟩ => by cases h1; cases h2; exact h3, fun h => ⟨.ty "NoneType", rfl, false, rfl, h⟩⟩
theorem ti_non_dict  : cIsi [.non, .ty "dict"] S R = R (.bl false) S := propext ⟨fun ⟨U, h1, _, h3⟩ => by cases h1; exact h3, fun h => ⟨"NoneType", rfl, by decide, h⟩⟩
theorem tx_non_dict  : cIsX xs ow [.non, .ty "dict"] S R = R (.bl false) S := propext ⟨fun ⟨U, h1, b, h2, h3⟩ => by cases h1; cases h2; exact h3, fun h => ⟨.ty "NoneType", rfl, false, rfl, h⟩⟩
theorem ti_bl_bool {b : Bool} : cIsi [.bl b, .ty "bool"] S R = R (.bl true) S := propext ⟨fun ⟨U, h1, _, h3⟩ => by cases h1; exact h3, fun h => ⟨"bool", rfl, by decide, h⟩⟩
theorem tx_bl_bool {b : Bool} : cIsX xs ow [.bl b, .ty "bool"] S R = R (.bl true) S := propext ⟨fun ⟨U, h1, b, h2, h3⟩ => by cases h1; cases h2; exact h3, fun h => ⟨.ty "bool", rfl, true, rfl, h⟩⟩
theorem ti_bl_int {b : Bool} : cIsi [.bl b, .ty "int"] S R = R (.bl true) S := propext ⟨fun ⟨U, h1, _, h3⟩ => by cases h1; exact h3, fun h => ⟨"bool", rfl, by decide, h⟩⟩
theorem tx_bl_int {b : Bool} : cIsX xs ow [.bl b, .ty "int"] S R = R (.bl true) S := propext ⟨fun ⟨U, h1, b, h2, h3⟩ => by cases h1; cases h2; exact h3, fun h => ⟨.ty "bool", rfl, true, rfl, h⟩⟩
theorem ti_bl_str {b : Bool} : cIsi [.bl b, .ty "str"] S R = R (.bl false) S := propext ⟨fun ⟨U, h1, _, h3⟩ => by cases h1; exact h3, fun h => ⟨"bool", rfl, by decide, h⟩⟩
theorem tx_bl_str {b : Bool} : cIsX xs ow [.bl b, .ty "str"] S R = R (.bl false) S := propext ⟨fun ⟨U, h1, b, h2, h3⟩ => by cases h1; cases h2; exact h3, fun h => ⟨.ty "bool", rfl, false, rfl, h⟩⟩
theorem ti_bl_tuple {b : Bool} : cIsi [.bl b, .ty "tuple"] S R = R (.bl false) S := propext ⟨fun ⟨U, h1, _, h3⟩ => by cases h1; exact h3, fun h => ⟨"bool", rfl, by decide, h⟩⟩
theorem tx_bl_tuple {b : Bool} : cIsX xs ow [.bl b, .ty "tuple"] S R = R (.bl false) S := propext ⟨fun ⟨U, h1, b, h2, h3⟩ => by cases h1; cases h2; exact h3, fun h => ⟨.ty "bool", rfl, false, rfl, h⟩⟩
theorem ti_bl_list {b : Bool} : cIsi [.bl b, .ty "list"] S R = R (.bl false) S := propext ⟨fun ⟨U, h1, _, h3⟩ => by cases h1; exact h3, fun h => ⟨"bool", rfl, by decide, h⟩⟩
theorem tx_bl_list {b : Bool} : cIsX xs ow [.bl b, .ty "list"] S R = R (.bl false) S := propext ⟨fun ⟨U, h1, b, h2, h3⟩ => by cases h1; cases h2; exact h3, fun h => ⟨.ty "bool", rfl, false, rfl, h⟩⟩
theorem ti_bl_dict {b : Bool} : cIsi [.bl b, .ty "dict"] S R = R (.bl false) S := propext ⟨fun ⟨U, h1, _, h3⟩ => by cases h1; exact h3, fun h => ⟨"bool", rfl, by decide, h⟩⟩
theorem tx_bl_dict {b : Bool} : cIsX xs ow [.bl b, .ty "dict"] S R = R (.bl false) S := propext ⟨fun ⟨U, h1, b, h2, h3⟩ => by cases h1; cases h2; exact h3, fun h => ⟨.ty "bool", rfl, false, rfl, h⟩⟩
theorem ti_int_bool {i : Int} : cIsi [.int i, .ty "bool"] S R = R (.bl false) S := propext ⟨fun ⟨U, h1, _, h3⟩ => by cases h1; exact h3, fun h => ⟨"int", rfl, by decide, h⟩⟩
theorem tx_int_bool {i : Int} : cIsX xs ow [.int i, .ty "bool"] S R = R (.bl false) S := propext ⟨fun ⟨U, h1, b, h2, h3⟩ => by cases h1; cases h2; exact h3, fun h => ⟨.ty "int", rfl, false, rfl, h⟩⟩
theorem ti_int_int {i : Int} : cIsi [.int i, .ty "int"] S R = R (.bl true) S := propext ⟨fun ⟨U, h1, _, h3⟩ => by cases h1; exact h3, fun h => ⟨"int", rfl, by decide, h⟩⟩
theorem tx_int_int {i : Int} : cIsX xs ow [.int i, .ty "int"] S R = R (.bl true) S := propext ⟨fun ⟨U, h1, b, h2, h3⟩ => by cases h1; cases h2; exact h3, fun h => ⟨.ty "int", rfl, true, rfl, h⟩⟩
theorem ti_int_str {i : Int} : cIsi [.int i, .ty "str"] S R = R (.bl false) S := propext ⟨fun ⟨U, h1, _, h3⟩ => by cases h1; exact h3, fun h => ⟨"int", rfl, by decide, h⟩⟩
theorem tx_int_str {i : Int} : cIsX xs ow [.int i, .ty "str"] S R = R (.bl false) S := propext ⟨fun ⟨U, h1, b, h2, h3⟩ => by cases h1; cases h2; exact h3, fun h => ⟨.ty "int", rfl, false, rfl, h⟩⟩
theorem ti_int_tuple {i : Int} : cIsi [.int i, .ty "tuple"] S R = R (.bl false) S := propext ⟨fun ⟨U, h1, _, h3⟩ => by cases h1; exact h3, fun h => ⟨"int", rfl, by decide, h⟩⟩
theorem tx_int_tuple {i : Int} : cIsX xs ow [.int i, .ty "tuple"] S R = R (.bl false) S := propext ⟨fun ⟨U, h1, b, h2, h3⟩ => by cases h1; cases h2; exact h3, fun h => ⟨.ty "int", rfl, false, rfl, h⟩⟩
theorem ti_int_list {i : Int} : cIsi [.int i, .ty "list"] S R = R (.bl false) S := propext ⟨fun ⟨U, h1, _, h3⟩ => by cases h1; exact h3, fun h => ⟨"int", rfl, by decide, h⟩⟩
theorem tx_int_list {i : Int} : cIsX xs ow [.int i, .ty "list"] S R = R (.bl false) S := propext ⟨fun ⟨U, h1, b, h2, h3⟩ => by cases h1; cases h2; exact h3, fun h => ⟨.ty "int", rfl, false, rfl, h⟩⟩
theorem ti_int_dict {i : Int} : cIsi [.int i, .ty "dict"] S R = R (.bl false) S := propext ⟨fun ⟨U, h1, _, h3⟩ => by cases h1; exact h3, fun h => ⟨"int", rfl, by decide, h⟩⟩
theorem tx_int_dict {i : Int} : cIsX xs ow [.int i, .ty "dict"] S R = R (.bl false) S := propext ⟨fun ⟨U, h1, b, h2, h3⟩ => by cases h1; cases h2; exact h3, fun h => ⟨.ty "int", rfl, false, rfl, h⟩⟩
theorem ti_str_bool {u : Str} : cIsi [.str u, .ty "bool"] S R = R (.bl false) S := propext ⟨fun ⟨U, h1, _, h3⟩ => by cases h1; exact h3, fun h => ⟨"str", rfl, by decide, h⟩⟩
theorem tx_str_bool {u : Str} : cIsX xs ow [.str u, .ty "bool"] S R = R (.bl false) S := propext ⟨fun ⟨U, h1, b, h2, h3⟩ => by cases h1; cases h2; exact h3, fun h => ⟨.ty "str", rfl, false, rfl, h⟩⟩
theorem ti_str_int {u : Str} : cIsi [.str u, .ty "int"] S R = R (.bl false) S := propext ⟨fun ⟨U, h1, _, h3⟩ => by cases h1; exact h3, fun h => ⟨"str", rfl, by decide, h⟩⟩
theorem tx_str_int {u : Str} : cIsX xs ow [.str u, .ty "int"] S R = R (.bl false) S := propext ⟨fun ⟨U, h1, b, h2, h3⟩ => by cases h1; cases h2; exact h3, fun h => ⟨.ty "str", rfl, false, rfl, h⟩⟩
theorem ti_str_str {u : Str} : cIsi [.str u, .ty "str"] S R = R (.bl true) S := propext ⟨fun ⟨U, h1, _, h3⟩ => by cases h1; exact h3, fun h => ⟨"str", rfl, by decide, h⟩⟩
theorem tx_str_str {u : Str} : cIsX xs ow [.str u, .ty "str"] S R = R (.bl true) S := propext ⟨fun ⟨U, h1, b, h2, h3⟩ => by cases h1; cases h2; exact h3, fun h => ⟨.ty "str", rfl, true, rfl, h⟩⟩
theorem ti_str_tuple {u : Str} : cIsi [.str u, .ty "tuple"] S R = R (.bl false) S := propext ⟨fun ⟨U, h1, _, h3⟩ => by cases h1; exact h3, fun h => ⟨"str", rfl, by decide, h⟩⟩
theorem tx_str_tuple {u : Str} : cIsX xs ow [.str u, .ty "tuple"] S R = R (.bl false) S := propext ⟨fun ⟨U, h1, b, h2, h3⟩ => by cases h1; cases h2; exact h3, fun h => ⟨.ty "str", rfl, false, rfl, h⟩⟩
theorem ti_str_list {u : Str} : cIsi [.str u, .ty "list"] S R = R (.bl false) S := propext ⟨fun ⟨U, h1, _, h3⟩ => by cases h1; exact h3, fun h => ⟨"str", rfl, by decide, h⟩⟩
theorem tx_str_list {u : Str} : cIsX xs ow [.str u, .ty "list"] S R = R (.bl false) S := propext ⟨fun ⟨U, h1, b, h2, h3⟩ => by cases h1; cases h2; exact h3, fun h => ⟨.ty "str", rfl, false, rfl, h⟩⟩
theorem ti_str_dict {u : Str} : cIsi [.str u, .ty "dict"] S R = R (.bl false) S := propext ⟨fun ⟨U, h1, _, h3⟩ => by cases h1; exact h3, fun h => ⟨"str", rfl, by decide, h⟩⟩
theorem tx_str_dict {u : Str} : cIsX xs ow [.str u, .ty "dict"] S R = R (.bl false) S := propext ⟨fun ⟨U, h1, b, h2, h3⟩ => by cases h1; cases h2; exact h3, fun h => ⟨.ty "str", rfl, false, rfl, h⟩⟩
theorem ti_tup_bool {es : List D} : cIsi [.tup es, .ty "bool"] S R = R (.bl false) S := propext ⟨fun ⟨U, h1, _, h3⟩ => by cases h1; exact h3, fun h => ⟨"tuple", rfl, by decide, h⟩⟩
theorem tx_tup_bool {es : List D} : cIsX xs ow [.tup es, .ty "bool"] S R = R (.bl false) S := propext ⟨fun ⟨U, h1, b, h2, h3⟩ => by cases h1; cases h2; exact h3, fun h => ⟨.ty "tuple", rfl, false, rfl, h⟩⟩
theorem ti_tup_int {es : List D} : cIsi [.tup es, .ty "int"] S R = R (.bl false) S := propext ⟨fun ⟨U, h1, _, h3⟩ => by cases h1; exact h3, fun h => ⟨"tuple", rfl, by decide, h⟩⟩
theorem tx_tup_int {es : List D} : cIsX xs ow [.tup es, .ty "int"] S R = R (.bl false) S := propext ⟨fun ⟨U, h1, b, h2, h3⟩ => by cases h1; cases h2; exact h3, fun h => ⟨.ty "tuple", rfl, false, rfl, h⟩⟩
theorem ti_tup_str {es : List D} : cIsi [.tup es, .ty "str"] S R = R (.bl false) S := propext ⟨fun ⟨U, h1, _, h3⟩ => by cases h1; exact h3, fun h => ⟨"tuple", rfl, by decide, h⟩⟩
theorem tx_tup_str {es : List D} : cIsX xs ow [.tup es, .ty "str"] S R = R (.bl false) S := propext ⟨fun ⟨U, h1, b, h2, h3⟩ => by cases h1; cases h2; exact h3, fun h => ⟨.ty "tuple", rfl, false, rfl, h⟩⟩
theorem ti_tup_tuple {es : List D} : cIsi [.tup es, .ty "tuple"] S R = R (.bl true) S := propext ⟨fun ⟨U, h1, _, h3⟩ => by cases h1; exact h3, fun h => ⟨"tuple", rfl, by decide, h⟩⟩
theorem tx_tup_tuple {es : List D} : cIsX xs ow [.tup es, .ty "tuple"] S R = R (.bl true) S := propext ⟨fun ⟨U, h1, b, h2, h3⟩ => by cases h1; cases h2; exact h3, fun h => ⟨.ty "tuple", rfl, true, rfl, h⟩⟩
theorem ti_tup_list {es : List D} : cIsi [.tup es, .ty "list"] S R = R (.bl false) S := propext ⟨fun ⟨U, h1, _, h3⟩ => by cases h1; exact h3, fun h => ⟨"tuple", rfl, by decide, h⟩⟩
theorem tx_tup_list {es : List D} : cIsX xs ow [.tup es, .ty "list"] S R = R (.bl false) S := propext ⟨fun ⟨U, h1, b, h2, h3⟩ => by cases h1; cases h2; exact h3, fun h => ⟨.ty "tuple", rfl, false, rfl, h⟩⟩
theorem ti_tup_dict {es : List D} : cIsi [.tup es, .ty "dict"] S R = R (.bl false) S := propext ⟨fun ⟨U, h1, _, h3⟩ => by cases h1; exact h3, fun h => ⟨"tuple", rfl, by decide, h⟩⟩
theorem tx_tup_dict {es : List D} : cIsX xs ow [.tup es, .ty "dict"] S R = R (.bl false) S := propext ⟨fun ⟨U, h1, b, h2, h3⟩ => by cases h1; cases h2; exact h3, fun h => ⟨.ty "tuple", rfl, false, rfl, h⟩⟩
theorem ti_lst_bool {es : List D} : cIsi [.lst es, .ty "bool"] S R = R (.bl false) S := propext ⟨fun ⟨U, h1, _, h3⟩ => by cases h1; exact h3, fun h => ⟨"list", rfl, by decide, h⟩⟩
theorem tx_lst_bool {es : List D} : cIsX xs ow [.lst es, .ty "bool"] S R = R (.bl false) S := propext ⟨fun ⟨U, h1, b, h2, h3⟩ => by cases h1; cases h2; exact h3, fun h => ⟨.ty "list", rfl, false, rfl, h⟩⟩
theorem ti_lst_int {es : List D} : cIsi [.lst es, .ty "int"] S R = R (.bl false) S := propext ⟨fun ⟨U, h1, _, h3⟩ => by cases h1; exact h3, fun h => ⟨"list", rfl, by decide, h⟩⟩
theorem tx_lst_int {es : List D} : cIsX xs ow [.lst es, .ty "int"] S R = R (.bl false) S := propext ⟨fun ⟨U, h1, b, h2, h3⟩ => by cases h1; cases h2; exact h3, fun h => ⟨.ty "list", rfl, false, rfl, h⟩⟩
theorem ti_lst_str {es : List D} : cIsi [.lst es, .ty "str"] S R = R (.bl false) S := propext ⟨fun ⟨U, h1, _, h3⟩ => by cases h1; exact h3, fun h => ⟨"list", rfl, by decide, h⟩⟩
theorem tx_lst_str {es : List D} : cIsX xs ow [.lst es, .ty "str"] S R = R (.bl false) S := propext ⟨fun ⟨U, h1, b, h2, h3⟩ => by cases h1; cases h2; exact h3, fun h => ⟨.ty "list", rfl, false, rfl, h⟩⟩
theorem ti_lst_tuple {es : List D} : cIsi [.lst es, .ty "tuple"] S R = R (.bl false) S := propext ⟨fun ⟨U, h1, _, h3⟩ => by cases h1; exact h3, fun h => ⟨"list", rfl, by decide, h⟩⟩
theorem tx_lst_tuple {es : List D} : cIsX xs ow [.lst es, .ty "tuple"] S R = R (.bl false) S := propext ⟨fun ⟨U, h1, b, h2, h3⟩ => by cases h1; cases h2; exact h3, fun h => ⟨.ty "list", rfl, false, rfl, h⟩⟩
theorem ti_lst_list {es : List D} : cIsi [.lst es, .ty "list"] S R = R (.bl true) S := propext ⟨fun ⟨U, h1, _, h3⟩ => by cases h1; exact h3, fun h => ⟨"list", rfl, by decide, h⟩⟩
theorem tx_lst_list {es : List D} : cIsX xs ow [.lst es, .ty "list"] S R = R (.bl true) S := propext ⟨fun ⟨U, h1, b, h2, h3⟩ => by cases h1; cases h2; exact h3, fun h => ⟨.ty "list", rfl, true, rfl, h⟩⟩
theorem ti_lst_dict {es : List D} : cIsi [.lst es, .ty "dict"] S R = R (.bl false) S := propext ⟨fun ⟨U, h1, _, h3⟩ => by cases h1; exact h3, fun h => ⟨"list", rfl, by decide, h⟩⟩
theorem tx_lst_dict {es : List D} : cIsX xs ow [.lst es, .ty "dict"] S R = R (.bl false) S := propext ⟨fun ⟨U, h1, b, h2, h3⟩ => by cases h1; cases h2; exact h3, fun h => ⟨.ty "list", rfl, false, rfl, h⟩⟩
theorem ti_dct_bool {kvs : List (Key × V)} : cIsi [.dct kvs, .ty "bool"] S R = R (.bl false) S := propext ⟨fun ⟨U, h1, _, h3⟩ => by cases h1; exact h3, fun h => ⟨"dict", rfl, by decide, h⟩⟩
theorem tx_dct_bool {kvs : List (Key × V)} : cIsX xs ow [.dct kvs, .ty "bool"] S R = R (.bl false) S := propext ⟨fun ⟨U, h1, b, h2, h3⟩ => by cases h1; cases h2; exact h3, fun h => ⟨.ty "dict", rfl, false, rfl, h⟩⟩
theorem ti_dct_int {kvs : List (Key × V)} : cIsi [.dct kvs, .ty "int"] S R = R (.bl false) S := propext ⟨fun ⟨U, h1, _, h3⟩ => by cases h1; exact h3, fun h => ⟨"dict", rfl, by decide, h⟩⟩
theorem tx_dct_int {kvs : List (Key × V)} : cIsX xs ow [.dct kvs, .ty "int"] S R = R (.bl false) S := propext ⟨fun ⟨U, h1, b, h2, h3⟩ => by cases h1; cases h2; exact h3, fun h => ⟨.ty "dict", rfl, false, rfl, h⟩⟩
theorem ti_dct_str {kvs : List (Key × V)} : cIsi [.dct kvs, .ty "str"] S R = R (.bl false) S := propext ⟨fun ⟨U, h1, _, h3⟩ => by cases h1; exact h3, fun h => ⟨"dict", rfl, by decide, h⟩⟩
theorem tx_dct_str {kvs : List (Key × V)} : cIsX xs ow [.dct kvs, .ty "str"] S R = R (.bl false) S := propext ⟨fun ⟨U, h1, b, h2, h3⟩ => by cases h1; cases h2; exact h3, fun h => ⟨.ty "dict", rfl, false, rfl, h⟩⟩
theorem ti_dct_tuple {kvs : List (Key × V)} : cIsi [.dct kvs, .ty "tuple"] S R = R (.bl false) S := propext ⟨fun ⟨U, h1, _, h3⟩ => by cases h1; exact h3, fun h => ⟨"dict", rfl, by decide, h⟩⟩
theorem tx_dct_tuple {kvs : List (Key × V)} : cIsX xs ow [.dct kvs, .ty "tuple"] S R = R (.bl false) S := propext ⟨fun ⟨U, h1, b, h2, h3⟩ => by cases h1; cases h2; exact h3, fun h => ⟨.ty "dict", rfl, false, rfl, h⟩⟩
theorem ti_dct_list {kvs : List (Key × V)} : cIsi [.dct kvs, .ty "list"] S R = R (.bl false) S := propext ⟨fun ⟨U, h1, _, h3⟩ => by cases h1; exact h3, fun h => ⟨"dict", rfl, by decide, h⟩⟩
theorem tx_dct_list {kvs : List (Key × V)} : cIsX xs ow [.dct kvs, .ty "list"] S R = R (.bl false) S := propext ⟨fun ⟨U, h1, b, h2, h3⟩ => by cases h1; cases h2; exact h3, fun h => ⟨.ty "dict", rfl, false, rfl, h⟩⟩
theorem ti_dct_dict {kvs : List (Key × V)} : cIsi [.dct kvs, .ty "dict"] S R = R (.bl true) S := propext ⟨fun ⟨U, h1, _, h3⟩ => by cases h1; exact h3, fun h => ⟨"dict", rfl, by decide, h⟩⟩
theorem tx_dct_dict {kvs : List (Key × V)} : cIsX xs ow [.dct kvs, .ty "dict"] S R = R (.bl true) S := propext ⟨fun ⟨U, h1, b, h2, h3⟩ => by cases h1; cases h2; exact h3, fun h => ⟨.ty "dict", rfl, true, rfl, h⟩⟩
theorem tx_own {a : Addr} {C : Str} {ks : List Str} {ds : List D} {T : String} {b : Bool} (h : S a = some (.ins C ks ds)) (e : isT xs C T = some b) : cIsX xs ow [.ref a, .ty T] S R = R (.bl b) S := by
  have ht : tagD S (.ref a) = some (.own C) := by unfold tagD; simp only [h]
  refine propext ⟨fun ⟨g, h1, b', h2, h3⟩ => ?_, fun r => ⟨.own C, ht, b, e, r⟩⟩
  rw [ht] at h1; cases h1
  have h2 : isT xs C T = some b' := h2
  rw [e] at h2; cases h2; exact h3
end
/-! ### values that are data -/
def pyV : D → Option PyData
  | .dct [] => some (.dict [])
  | .non => some .none
  | .bl b => some (.bool b)
  | .int i => some (.int i)
  | .str x => some (.str x)
  | .tup ds => py (.tup ds)
  | .lst ds => py (.lst ds)
  | _ => none
/-- plain data, small -/
structure Pl (d : D) (p : PyData) : Prop where
  v : pyV d = some p
  s : smallx p = true
  b : p.bulk ≤ 1000
  d : p.depth ≤ 5
theorem Pl.pyR {d : D} {p : PyData} (h : Pl d p) {S : Sto} : Dl.pyR S d = some p := by
  have e := h.v
  cases d with
  | dct kvs => cases kvs with
    | nil => exact e
    | cons _ _ => cases e
  | ref a => cases e
  | _ => first | exact e | cases e
theorem Pl.repr {d : D} {p : PyData} (h : Pl d p) {S : Sto} {R : QD} (r : R (.str p.shown) S) : cRepr [d] S R := r_reprx h.pyR h.s (Nat.le_trans h.b (by decide)) (Nat.le_trans h.d (by decide)) r
theorem Pl.ok {d : D} {p : PyData} (h : Pl d p) : PyData.strOk p.shown = true := Dl.okx h.s
theorem Pl.int {i : Int} (h : (0 ≤ i ∧ i < 10 ^ 45) ∨ (-40 ≤ i ∧ i < 0)) : Pl (.int i) (.int i) := ⟨rfl, by simp only [smallx, decide_eq_true_eq]; exact h, by simp [PyData.bulk], by simp [PyData.depth]⟩
theorem Pl.bl {b : Bool} : Pl (.bl b) (.bool b) := ⟨rfl, rfl, by simp [PyData.bulk], by simp [PyData.depth]⟩
theorem Pl.non : Pl .non .none := ⟨rfl, rfl, by simp [PyData.bulk], by simp [PyData.depth]⟩
theorem Pl.str {u : Str} (h : okT u) (hl : u.length ≤ 1000) : Pl (.str u) (.str u) := ⟨rfl, by simpa only [smallx] using okT_iff.mpr h, by simpa [PyData.bulk, Str.length] using hl, by simp [PyData.depth]⟩
theorem Pl.two {u v : Str} (hu : okT u) (hv : okT v) (hl : u.length + v.length ≤ 900) : Pl (.lst [.str u, .str v]) (.list [.str u, .str v]) := by
  refine ⟨rfl, ?_, ?_, by simp [PyData.depth, PyData.depthAll]⟩
  · simp only [smallx, smallxAll, okT_iff.mpr hu, okT_iff.mpr hv, Bool.and_true]
  · have e1 : u.cps.size = u.length := rfl
    have e2 : v.cps.size = v.length := rfl
    simp only [PyData.bulk, PyData.bulkAll]
    omega
theorem r_neSS {S : Sto} {R : QD} {u v u' v' : Str} (a : okT u) (b : okT v) (c : okT u') (d : okT v') : opNe (.lst [.str u, .str v]) (.lst [.str u', .str v']) S R = R (.bl (!decide ([u, v] = [u', v']))) S :=
  ne_en (isE [u, v]) (isE [u', v']) (fun x hx => by
    simp only [List.mem_cons, List.not_mem_nil, or_false] at hx
    rcases hx with rfl | rfl <;> exact okT_iff.mpr (by assumption)) (fun x hx => by
    simp only [List.mem_cons, List.not_mem_nil, or_false] at hx
    rcases hx with rfl | rfl <;> exact okT_iff.mpr (by assumption)) (by decide) (by simp)
end Dl
namespace Dl
open PySem PySem.Spec PyProof.Rows L2 TL
section
variable {S : Sto} {R : QD} {E : XD} {ρ : DEnv} {xs : List ExD} {a : Addr} {C f x : Str} {d : Option Addr} {ks : List Str} {es : List D} {t v : D} {te : TED} {cs : List D}
theorem r_isE : cIsE xs a C d [.exn a C d ks es, t] S R = isE1 xs C t S R := propext ⟨fun ⟨_, h⟩ => h, fun h => ⟨⟨ks, es, rfl⟩, h⟩⟩
theorem r_isE_g : isE1 xs C (.glo x) S R = ∃ b, exG xs C x = some b ∧ R (.bl b) S := rfl
theorem r_isE_t {T : String} : isE1 xs C (.ty T) S R = ∃ b, exTy xs C T = some b ∧ R (.bl b) S := rfl
theorem r_isE_c {c : D} : isE1 xs C (.tup (c :: cs)) S R = ∃ b, exAny xs C (c :: cs) = some b ∧ R (.bl b) S := propext ⟨fun ⟨_, h⟩ => h, fun h => ⟨by simp, h⟩⟩
theorem r_anyN : exAny xs C [] = some false := rfl
theorem r_anyT (h : exG xs C x = some true) : exAny xs C (.glo x :: cs) = some true := by unfold exAny; rw [h]
theorem r_anyF (h : exG xs C x = some false) : exAny xs C (.glo x :: cs) = exAny xs C cs := by rw [exAny, h]
theorem r_anyTt {T : String} (h : exTy xs C T = some true) : exAny xs C (.ty T :: cs) = some true := by unfold exAny; rw [h]
theorem r_anyFt {T : String} (h : exTy xs C T = some false) : exAny xs C (.ty T :: cs) = exAny xs C cs := by rw [exAny, h]
def xf1 (xs : List ExD) (a : Addr) (C : Str) (d : Option Addr) (f : Str) (R : QD) (x : D) (S1 : Sto) : Prop := exFs xs C f = true ∧ ∃ ks es v, x = .exn a C d ks es ∧ (ks.zip es).lookup f = some v ∧ R v S1
theorem r_dXf : dXf xs a C d f te ρ S R E = te ρ S (xf1 xs a C d f R) E := rfl
theorem r_xf1 (h : exFs xs C f = true) (l : (ks.zip es).lookup f = some v) : xf1 xs a C d f R (.exn a C d ks es) S = R v S := propext ⟨fun ⟨_, ks', es', v', e, l', r⟩ => by
  cases e
  rw [l] at l'; cases l'; exact r, fun r => ⟨h, ks, es, v, rfl, l, r⟩⟩
theorem r_cnt2 {p q b : Bool} : mCountB (.lst [.bl p, .bl q]) [.bl b] S R = R (.int (([p, q].count b : Nat) : Int)) S := propext ⟨fun ⟨bs, b', h1, h2, r⟩ => by cases h1; cases h2; exact r, fun r => ⟨_, _, rfl, rfl, r⟩⟩
end
end Dl
namespace Dl
open PySem PySem.Spec PyProof.Rows L2 TL
theorem Pl.len {d : D} {p : PyData} (h : Pl d p) : p.shown.length ≤ 52050 := by
  have := PyData.shown_le_bulk 50 (by decide) p (smallx_ok p h.s).2.1
  have := h.b
  omega
theorem Pl.okT {d : D} {p : PyData} (h : Pl d p) : Dl.okT p.shown := (smallx_ok p h.s).2.2
theorem two_small {u v : Str} (hu : okT u) (hv : okT v) : smallx (.list [.str u, .str v]) = true := by
  simp only [smallx, smallxAll, okT_iff.mpr hu, okT_iff.mpr hv, Bool.and_true]
theorem two_repr {u v : Str} {S : Sto} {R : QD} (hu : okT u) (hv : okT v) (hl : u.length + v.length ≤ 90000) (r : R (.str (PyData.list [.str u, .str v]).shown) S) : cRepr [.lst [.str u, .str v]] S R := by
  refine r_reprx (d := .list [.str u, .str v]) rfl (two_small hu hv) ?_ (by simp [PyData.depth, PyData.depthAll]) r
  have e1 : u.cps.size = u.length := rfl
  have e2 : v.cps.size = v.length := rfl
  simp only [PyData.bulk, PyData.bulkAll]
  omega
end Dl
namespace Dl
open PySem PySem.Spec PyProof.Rows L2 TL
theorem pw8 : CPow 10 8 = True := eq_true cpow_c
theorem pw39 : CPow 10 39 = True := eq_true cpow_c
end Dl
namespace Dl
open PySem PySem.Spec PyProof.Rows L2 TL
/-! ### match: constants, then _ -/
/-- the subject's data d, its value xv -/
def upC2 (K : PySem.W.Frag) (W : WX) (t : D → TSD) (xv : V) : TS := fun Dn σ H => ∃ d ρ S R, RS K H S ∧ re K H S ρ σ ∧ rv K H S d xv ∧ t d R ρ S ∧
  (∀ ρ' S', R.nx ρ' S' → ∀ σ' H', Ext H S H' S' → RS K H' S' → re K H' S' ρ' σ' → Dn.nx σ' H') ∧
  bE K H S R.rt Dn.rt ∧
  (∀ ρ' S', R.bk ρ' S' → ∀ σ' H', Ext H S H' S' → RS K H' S' → re K H' S' ρ' σ' → Dn.bk σ' H') ∧
  (∀ ρ' S', R.ct ρ' S' → ∀ σ' H', Ext H S H' S' → RS K H' S' → re K H' S' ρ' σ' → Dn.ct σ' H') ∧
  (∀ x ρ' S', R.xc x ρ' S' → ∀ σ' H' cls d, Ext H S H' S' → RS K H' S' → re K H' S' ρ' σ' → rx K H' S' x cls d → W cls d σ' H')
structure PMc (X : Cx) (W : WX) (cases : List MatchCase) (t : D → TSD) : Prop where
  run : ∀ (pins : List (Addr × Obj)) (s : Shared) (σ : L2.St) (H : Hp) (Dn : Ends) (xv : V) (v : Value) (first : Bool), Inv X pins σ H s → RelV xv v → upC2 X.K W t xv Dn σ H → wpAny (model X.prog X.w) X.A (matchCases cases X.env v first) (SP X pins Dn) X.xe s
def sMatch (te : TED) (tc : D → TSD) : TSD := fun Dn ρ S => te ρ S (fun x S1 => tc x Dn ρ S1) (fun z S1 => Dn.xc z ρ S1)
section
variable {X : Cx} {W : WX} {e subj : Expr} {te : TED} {tb : TSD} {tc : D → TSD} {cases : List MatchCase} {body : List Stmt} {pos p : Pos} {es : List Expr} {tas : TAD}
theorem pmc_nil : PMc X W [] (fun _ => sNext) := ⟨fun pins s σ H Dn xv v first I rx ⟨d, ρ, S, R, hS, hρ, rd, ht, b1, _⟩ => wpAny_matchCases_nil ⟨σ, H, I, b1 ρ S ht σ H (Ext.refl _ _) hS hρ⟩⟩
theorem pmc_wild (hb : PSsD X W body tb) : PMc X W [⟨.MatchAs none none p, none, body⟩] (fun _ => tb) := ⟨fun pins s σ H Dn xv v first I rx ⟨d, ρ, S, R, hS, hρ, rd, ht, b1, b2, b3, b4, b5⟩ =>
  wpAny_matchCases_cons (wpAny_matchPattern_Capture (wpAny_assignInOrder_none (hb.run pins s σ H Dn I (upS_eq.mpr ⟨ρ, S, R, hS, hρ, ht, b1, b2, b3, b4, b5⟩))))⟩
def cVal (te : TED) (tb : TSD) (tc : D → TSD) : D → TSD := fun x Dn ρ S => te ρ S (fun y S1 => opEq x y S1 (fun z S2 => isB z fun b => if b = true then tb Dn ρ S2 else tc x Dn ρ S2)) (fun z S1 => Dn.xc z ρ S1)
theorem pmc_val (hu : X.A.units + 64 < cLine) (he : PED X W e te) (hb : PSsD X W body tb) (hc : PMc X W cases tc) : PMc X W (⟨.MatchValue e p, none, body⟩ :: cases) (cVal te tb tc) := ⟨fun pins s σ H Dn xv v first I rx ⟨d, ρ, S, R, hS, hρ, rd, ht, b1, b2, b3, b4, b5⟩ => by
  refine wpAny_matchCases_cons (wpAny_matchPattern_Value (thn (he.run pins s σ H (fun yv H1 => ∃ y S1, Ext H S H1 S1 ∧ RS X.K H1 S1 ∧ rv X.K H1 S1 y yv ∧ opEq d y S1 (fun z S2 => isB z fun b => if b = true then tb R ρ S2 else tc d R ρ S2)) I ⟨ρ, S, _, _, hS, hρ, ht, fun y S1 r1 H1 w e1 s1 v1 => ⟨y, S1, e1, s1, v1, r1⟩, (show bXN X.K W H S R.xc from b5).at hS hρ⟩) fun u s1 ⟨yv, H1, I1, ry, y, S1, e1, s1', v1, r1⟩ => ?_))
  refine thn (opd_eq hu pins s1 σ H1 xv yv v u (fun zv H2 => ∃ b S2, zv = .bl b ∧ Ext H S H2 S2 ∧ RS X.K H2 S2 ∧ (if b = true then tb R ρ S2 else tc d R ρ S2)) I1 rx ry ⟨d, y, S1, _, s1', e1.rv hS _ _ rd, v1, r1, fun z S2 r2 H2 w e2 s2 v2 => ?_⟩) fun c s2 ⟨zv, H2, I2, rz, b, S2, ez, e2, s2', r2⟩ => ?_
  · obtain ⟨b, rfl, rfl, q⟩ := isB_of r2 v2
    exact ⟨b, S2, rfl, e1.trans e2, s2, q⟩
  · subst ez
    cases rz
    refine wpAny_truthy_bool ?_
    cases b with
    | true =>
      rw [if_pos rfl] at r2 ⊢
      refine wpAny_assignInOrder_none (hb.run pins s2 σ H2 Dn I2 (upS_eq.mpr ⟨ρ, S2, R, s2', e2.re hS hρ, r2, fun ρ' S' q σ' H' e3 => b1 ρ' S' q σ' H' (e2.trans e3), b2.ext e2, fun ρ' S' q σ' H' e3 => b3 ρ' S' q σ' H' (e2.trans e3), fun ρ' S' q σ' H' e3 => b4 ρ' S' q σ' H' (e2.trans e3), fun x ρ' S' q σ' H' cls d' e3 => b5 x ρ' S' q σ' H' cls d' (e2.trans e3)⟩))
    | false =>
      rw [if_neg Bool.false_ne_true] at r2 ⊢
      exact hc.run pins s2 σ H2 Dn xv v false I2 rx ⟨d, ρ, S2, R, s2', e2.re hS hρ, e2.rv hS _ _ rd, r2, fun ρ' S' q σ' H' e3 => b1 ρ' S' q σ' H' (e2.trans e3), b2.ext e2, fun ρ' S' q σ' H' e3 => b3 ρ' S' q σ' H' (e2.trans e3), fun ρ' S' q σ' H' e3 => b4 ρ' S' q σ' H' (e2.trans e3), fun x ρ' S' q σ' H' cls d' e3 => b5 x ρ' S' q σ' H' cls d' (e2.trans e3)⟩⟩
theorem psd_match (he : PED X W subj te) (hc : PMc X W cases tc) : PSD X W (.Match subj cases pos) (sMatch te tc) := ⟨fun pins s σ H Dn I h => by
  obtain ⟨ρ, S, R, hS, hρ, ht, b1, b2, b3, b4, b5⟩ := upS_eq.mp h
  refine wpAny_Match (thn (he.run pins s σ H (fun xv H1 => upC2 X.K W tc xv Dn σ H1) I ⟨ρ, S, _, _, hS, hρ, ht, fun x S1 r1 H1 w e1 s1 v1 => ?_, b5.at hS hρ⟩) fun v s1 ⟨xv, H1, I1, rx, q⟩ => hc.run pins s1 σ H1 Dn xv v true I1 rx q)
  exact ⟨x, ρ, S1, R, s1, e1.re hS hρ, v1, r1, fun ρ' S' q σ' H' e3 => b1 ρ' S' q σ' H' (e1.trans e3), b2.ext e1, fun ρ' S' q σ' H' e3 => b3 ρ' S' q σ' H' (e1.trans e3), fun ρ' S' q σ' H' e3 => b4 ρ' S' q σ' H' (e1.trans e3), fun x ρ' S' q σ' H' cls d' e3 => b5 x ρ' S' q σ' H' cls d' (e1.trans e3)⟩⟩
/-! ### all of a list of True, False -/
theorem blsD_rvs {K : PySem.W.Frag} {H : Hp} {S : Sto} : ∀ {ds : List D} {zs : List Bool} {vs : List V}, blsD ds = some zs → rvs K H S ds vs → vs = zs.map V.bl
  | [], _, _, h, q => by cases h; cases q; rfl
  | d :: r, _, _, h, q => by
    obtain ⟨v, r', rfl, h1, h2⟩ := q
    cases d with
    | bl i =>
      unfold blsD at h
      obtain ⟨ns, e, rfl⟩ := Option.map_eq_some_iff.mp h
      cases h1
      rw [blsD_rvs e h2]; rfl
    | _ => cases h
theorem blsD_map (zs : List Bool) : blsD (zs.map D.bl) = some zs := by
  induction zs with
  | nil => rfl
  | cons n ns ih => rw [List.map_cons]; unfold blsD; rw [ih]; rfl
def cAll : RCD := fun ds S R => one ds fun x => lsD S x fun es => ∃ bs, blsD es = some bs ∧ R (.bl (bs.all id)) S
theorem cd_all (hc : X.calm = true) : CallR X (.builtin "all") (upC X.K cAll) := by
  refine CallR_imp (cr_all hc) fun vs H Q h => ?_
  obtain ⟨ds, S, R, hS, q, r, bR⟩ := h
  obtain ⟨x, rfl, r⟩ := one_of r
  obtain ⟨v, rfl, rx⟩ := q.one
  obtain ⟨es, p, ws, rfl, hp, q, bs, e, h⟩ := lsD_of hS r rx
  rw [blsD_rvs e q] at hp
  exact ⟨p, bs, rfl, SqL.of hp, bR _ S h H _ (Ext.refl _ _) hS rfl⟩
/-! ### split -/
def mSplit : RMD := fun x ds S R => match x with
  | .str a => one ds fun y => (match y with
    | .str b => (b.length == 0) = false ∧ a.length + 2 ≤ sizeLine ∧ R (.lst ((Txt.split a b).map D.str)) S
    | _ => False)
  | _ => False
theorem rvs_strs {K : PySem.W.Frag} {H : Hp} {S : Sto} : ∀ zs : List Str, rvs K H S (zs.map D.str) (zs.map V.str)
  | [] => rfl
  | z :: zs => ⟨_, _, rfl, rfl, rvs_strs zs⟩
theorem md_split : MtR X "str.split" (upM X.K mSplit) := by
  refine MtR_imp mt_split fun v vs H Q h => ?_
  obtain ⟨x, ds, S, R, hS, rx, q, r, bR⟩ := h
  cases x with
  | str a =>
    obtain ⟨y, rfl, r⟩ := one_of r
    obtain ⟨u, rfl, ry⟩ := q.one
    cases y with
    | str b =>
      cases rx; cases ry
      exact ⟨a, b, rfl, rfl, r.1, r.2.1, fun p hp => bR _ S r.2.2 _ _ (Ext.new hp) (hS.new hp) (rv.lst_new hS hp (rvs_strs _))⟩
    | _ => exact r.elim
  | _ => exact r.elim
/-! ### enumerate(list) -/
def enumD : Nat → List D → List D
  | _, [] => []
  | k, x :: xs => .tup [.int (k : Nat), x] :: enumD (k + 1) xs
theorem enumD_get : ∀ {k : Nat} {xs : List D} {i : Nat} {d : D}, (enumD k xs)[i]? = some d → ∃ x, xs[i]? = some x ∧ d = .tup [.int ((k + i : Nat) : Int), x]
  | _, [], _, _, h => by simp [enumD] at h
  | k, x :: xs, 0, d, h => ⟨x, rfl, by simpa [enumD] using h.symm⟩
  | k, x :: xs, i + 1, d, h => by
    obtain ⟨y, h1, h2⟩ := enumD_get (k := k + 1) (xs := xs) (i := i) (by simpa [enumD] using h)
    exact ⟨y, by simpa using h1, by rw [h2, show k + 1 + i = k + (i + 1) by omega]⟩
theorem enumD_length : ∀ (k : Nat) (xs : List D), (enumD k xs).length = xs.length
  | _, [] => rfl
  | k, x :: xs => by simp [enumD, enumD_length (k + 1) xs]
def iEn (t : TAD) : TID := fun ρ S R E => t ρ S (fun ds S1 => one ds fun x => lsD S1 x fun xs => R (enumD 0 xs) (keepL x xs) S1) E
theorem pid_enum {elts : List Expr} {kk : Nat} {tpos : Pos} (hm : X.mg "enumerate" = none) (ha : PAD X W [e] tas) (hg : Gl X "enumerate" := by rfl) (hs : starEach [e] X.env = [(false, eval e X.env)] := by rfl) :
    PID X W (.Tuple elts kk tpos) (.Call (.Name "enumerate" p) [e] [] pos) (iEn tas) := by
  refine PI_imp (pi_enum hg hm ha hs) fun σ H Q h => ?_
  obtain ⟨ρ, S, R, E, hS, hρ, ht, bx, bQ⟩ := h
  refine ⟨ρ, S, _, E, hS, hρ, ht, fun ds S1 r1 H1 vs e1 s1 v1 => ?_, bx⟩
  obtain ⟨x, rfl, r1⟩ := one_of r1
  obtain ⟨v, rfl, rx⟩ := v1.one
  obtain ⟨xs, pa, rfl, r1, ⟨va, hva⟩, ka⟩ := keepL_of (H' := H1) (S' := S1) (a := 0) s1 r1 rx
  refine ⟨pa, va, rfl, SqL.of hva, bQ _ _ S1 r1 H1 e1 s1 _ fun H' S' e s k => ?_⟩
  obtain ⟨wa, ha, qa⟩ := ka H' S' e s k
  refine ⟨fun i hi => ?_, ?_, fun i d hd z H2 hy => ?_⟩
  · rw [enumD_length] at hi
    obtain ⟨d1, h1⟩ : ∃ d, xs[i]? = some d := ⟨_, List.getElem?_eq_getElem hi⟩
    obtain ⟨w1, g1, _⟩ := qa.get h1
    exact ⟨wa, w1, SqL.of ha, g1⟩
  · rw [enumD_length]
    exact ⟨wa, SqL.of ha, by rw [← qa.len]; exact Nat.le_refl _⟩
  · obtain ⟨T, x', rfl, hT, rfl, y1⟩ := hy
    obtain ⟨d1, h1, rfl⟩ := enumD_get hd
    obtain ⟨w1, g1, r1'⟩ := qa.get h1
    have z1 := y1 wa (SqL.of ha)
    rw [g1] at z1; cases z1
    rw [Nat.zero_add]
    exact ⟨Ext.new hT, s.new hT, rv.tup_new s hT ⟨_, _, rfl, rfl, _, _, rfl, r1', rfl⟩⟩
end
end Dl
/-! ### enumerate(tuple) -/
namespace DlEn
open PySem PySem.Spec PyProof.Rows L2
theorem new_tup (l : Addr) (items : Array Value) (o : Obj) (n : Nat) (hc : o.cls = .type "tuple") (hd : o.data = .seq items n) :
    Meets (Builtin.«enumerate.__new__» ⟨[.type "enumerate", .ref l], []⟩) (fun _ R s => s.heap.get? l = some o ∧
      R (.ok (.ret (.ref (s.heap.push { cls := .type "tuple_iterator", data := .fields #[.ref l, .int 0 0] }).objs.size)))
        { s with heap := (s.heap.push { cls := .type "tuple_iterator", data := .fields #[.ref l, .int 0 0] }).push { cls := .type "enumerate", data := .fields #[.none, .bool false, .ref s.heap.objs.size, rawInt 0, .none, .none] } }) :=
  .of_wp fun prog w A R s h => by
    obtain ⟨c0, d0, dt0, sl0⟩ := o
    simp only at hc hd
    subst hc hd
    obtain ⟨hp, g, d, tk, os⟩ := s; obtain ⟨hl, h⟩ := h
    have hsub := sub_enumerate
    have hL : Heap.IsTuple (Shared.heap ⟨hp, g, d, tk, os⟩) l items := ⟨_, hl, rfl, n, rfl⟩
    wp_walk using wpAny_loadPart' hl
    refine wpAny_stack_any fun st => wpAny_pure ?_
    split
    · rename_i c _ _ _ _ _
      cases (c == Value.type "enumerate") <;> (wp_walk using wpAny_loadPart' hl, wpAny_pyIter_tuple hL; exact ⟨_, rfl, h⟩)
    · wp_walk using wpAny_loadPart' hl, wpAny_pyIter_tuple hL; exact ⟨_, rfl, h⟩
section
variable {prog : Program} {w : World} {A : Around} {E : Value → Shared → Prop} {s : Shared}
theorem call_enum_tup {l : Addr} {items : Array Value} {Q : Value → Shared → Prop} (hL : s.heap.IsTuple l items)
    (h : ∀ h', IsEnum h' (s.heap.objs.size + 1) s.heap.objs.size 0 .none → h'.IsTupleIter s.heap.objs.size l 0 → h'.objs.size = s.heap.objs.size + 2 → (∀ b o, s.heap.get? b = some o → h'.get? b = some o) → Q (.ref (s.heap.objs.size + 1)) { s with heap := h' }) :
    wpAny (model prog w) A (call (.type "enumerate") [.ref l]) Q E s := by
  obtain ⟨o, hl, hc, n, hd⟩ := hL
  refine callType_new F.called_enumerate (by decide) (F.typeCall_enumerate_1 _) (F.newCall_enumerate_1 _) (fun obj => F.args_object_init_2 obj _) F.entry_enumerate_new (new_tup l items o n hc hd) ⟨hl, ?_⟩
  have hz : (s.heap.push { cls := .type "tuple_iterator", data := .fields #[.ref l, .int 0 0] }).objs.size = s.heap.objs.size + 1 := Heap.size_push ..
  show _ ∧ _
  rw [hz]
  have he : IsEnum ((s.heap.push { cls := .type "tuple_iterator", data := .fields #[.ref l, .int 0 0] }).push { cls := .type "enumerate", data := .fields #[.none, .bool false, .ref s.heap.objs.size, rawInt 0, .none, .none] }) (s.heap.objs.size + 1) s.heap.objs.size 0 .none := by
    have z := Heap.get?_push_size (s.heap.push { cls := .type "tuple_iterator", data := .fields #[.ref l, .int 0 0] }) (o := { cls := .type "enumerate", data := .fields #[.none, .bool false, .ref s.heap.objs.size, rawInt 0, .none, .none] }) rfl
    rw [hz] at z; exact z
  exact ⟨⟨_, he, rfl⟩, h _ he ⟨_, Heap.get?_push_of_some _ (Heap.get?_push_size _ rfl), rfl, rfl⟩ (by rw [Heap.size_push, hz]) fun b o x => Heap.get?_push_of_some _ (Heap.get?_push_of_some _ x)⟩
theorem drawsT (hh : A.handled = none) (it l : Addr) (hne : l ≠ it) (items : Array Value) : Draws prog w A it [it, l] items.size (fun i v => items[i]? = some v) (fun i h => h.IsTupleIter it l i ∧ h.IsTuple l items) where
  live := fun _ _ st => let ⟨o, ho, _⟩ := st.1; ⟨o, ho⟩
  frame := fun _ _ _ st hk => ⟨st.1.at fun o e => hk it (by simp) o e, let ⟨o, ho, r⟩ := st.2; ⟨o, hk l (by simp) o ho, r⟩⟩
  item := fun i s Q E hi st hQ => by
    refine wpAny_nextOf_tuple_item st.1 st.2 (x := items[i]) (by simp [hi]) fun h' hit' hs' => hQ _ h' s.toks (by simp [hi]) ⟨hit', ?_⟩ hs'
    obtain ⟨o, ho, r⟩ := st.2
    exact ⟨o, (hs'.2 l hne).trans ho, r⟩
  done := fun s Q E st hE => wpAny_nextOf_tuple_end hh st.1 st.2 (by simp) hE
end
/-- the tuple at a, each item in a new pair -/
def Itte (K : PySem.W.Frag) (a : Addr) : It :=
  ⟨fun i H => ∃ (xs : List V) (x : V), SqT K H a xs ∧ xs[i]? = some x, fun i H v H' => ∃ T x, v = .ref T ∧ H T = none ∧ H' = upd H T (.tup [.int (i : Nat), x]) ∧ ∀ xs, SqT K H a xs → xs[i]? = some x, fun i H => ∃ xs : List V, SqT K H a xs ∧ i = xs.length⟩
theorem turn_enumT {P : Program} {w : World} {K : PySem.W.Frag} {elts : List Expr} {kk : Nat} {tpos : Pos} (a e it : Addr) :
    Turn P w K (.Tuple elts kk tpos) (Itte K a) [e, it] e (fun i h => (∃ old, IsEnum h e it ((i : Nat) : Int) old) ∧ h.IsTupleIter it a i ∧ e ≠ it) where
  mem := by simp
  obj := fun i h st b hb => by
    obtain ⟨⟨old, he⟩, ⟨o, ho, hc, hd⟩, _⟩ := st
    rcases (by simpa using hb : b = e ∨ b = it) with z | z
    · rw [z]; exact ⟨_, he, fun v q => nomatch q⟩
    · rw [z]; exact ⟨o, ho, fun v q => by rw [hd] at q; cases q⟩
  keep := fun i h h' st k => let ⟨⟨old, he⟩, hi, hne⟩ := st; ⟨⟨old, k e (by simp) _ he⟩, hi.at fun o q => k it (by simp) o q, hne⟩
  item := by
    intro X hP hw hK hc i pins s σ H E I hf st hg
    subst hP hw hK
    obtain ⟨⟨old, he⟩, hit, hne⟩ := st
    obtain ⟨xs, x, hq, hx⟩ := hg
    obtain ⟨its, rv, p, hz⟩ := I.tuple hq
    have p' : s.heap.IsTuple a its.toArray := p
    obtain ⟨u, hu, ru⟩ := rv.get hx
    have hel : e < s.heap.objs.size := Heap.lt_size he
    have hil : it < s.heap.objs.size := by obtain ⟨_, q, _⟩ := hit; exact Heap.lt_size q
    have nai : a ≠ it := fun z => by
      obtain ⟨o, q, c1, _⟩ := hit
      obtain ⟨o2, q2, c2, _⟩ := p'
      rw [z, q] at q2; cases q2
      rw [c1] at c2; exact absurd (Value.type.inj c2) (by decide)
    have nae : e ≠ a := fun z => by
      obtain ⟨o2, q2, c2, _⟩ := p'
      have he' := he
      unfold IsEnum at he'
      rw [z, q2] at he'; cases he'
      exact absurd (Value.type.inj c2) (by decide)
    have lt : i < its.toArray.size := by simp; exact (List.getElem?_eq_some_iff.mp hu).1
    refine wpAny_pyNext_enum_itemD (drawsT (A := X.A.in1) (show X.A.in1.handled = none from I.ok.hd hc) it a nai its.toArray) he ⟨hit, p'⟩ lt hne (by simp [hne, nae]) fun y h' tk hy ho hst hT hsz hk => ?_
    have ey : u = y := by
      have q : its.toArray[i]? = some y := hy
      have q2 : its[i]? = some y := by simpa using q
      rw [hu] at q2; exact Option.some.inj q2
    subst ey
    refine ⟨_, rfl, wpAny_letOwnedTupleGo_enum (s := { s with heap := h', toks := tk + 1 }) ho fun h'' he' sb => ?_⟩
    have hT2 : h''.get? s.heap.objs.size = some { cls := .type "tuple", data := .seq #[.int i tk, u] } := (sb.2 _ (Nat.ne_of_gt hel)).trans hT
    have new : ObjOk X.prog X.w (upd H s.heap.objs.size (.tup [.int (i : Nat), x])) h'' s.heap.objs.size (.tup [.int (i : Nat), x]) :=
      ⟨by show 2 ≤ sizeLine; decide, [.int i tk, u], .cons ⟨_, rfl⟩ (.cons ru .nil), ⟨_, hT2, rfl, _, rfl⟩⟩
    have I1 : Inv X pins σ (upd H s.heap.objs.size (.tup [.int (i : Nat), x])) { s with heap := h'', toks := tk + 1 } :=
      I.turnedNew (ch := [e, it]) (fun b ob hb q => (sb.2 b (fun z => hb (by simp [z]))).trans (hk b ob (fun z => hb (by simp [z])) (fun z => hb (by simp [z])) q)) hf (Nat.le_refl _) new
    refine ⟨.ref s.heap.objs.size, _, I1, rfl, ⟨_, x, rfl, I.hok.fresh (Nat.le_refl _), rfl, fun ys hy => by rw [I.tuple_inj hy hq]; exact hx⟩, ⟨⟨u, ?_⟩, hst.1.at fun o q => (sb.2 it (Ne.symm hne)).trans q, hne⟩, fun b hb => ?_⟩
    · have e1 : ((i + 1 : Nat) : Int) = (i : Int) + 1 := by omega
      rw [e1]; exact he'
    · have hb' : b < s.heap.objs.size := by
        rcases (by simpa using hb : b = e ∨ b = it) with z | z
        · rw [z]; exact hel
        · rw [z]; exact hil
      rw [upd_ne (Nat.ne_of_lt hb')]
      exact (hf b hb).1
  done := by
    intro X hP hw hK hc i pins s σ H E I hf st hg
    subst hP hw hK
    obtain ⟨⟨old, he⟩, hit, hne⟩ := st
    obtain ⟨xs, hq, rfl⟩ := hg
    obtain ⟨its, rv, p, hz⟩ := I.tuple hq
    have p' : s.heap.IsTuple a its.toArray := p
    have nai : a ≠ it := fun z => by
      obtain ⟨o, q, c1, _⟩ := hit
      obtain ⟨o2, q2, c2, _⟩ := p'
      rw [z, q] at q2; cases q2
      rw [c1] at c2; exact absurd (Value.type.inj c2) (by decide)
    obtain ⟨f0, f1, f2, f3, f4, f5⟩ := hf it (by simp)
    have hl : its.toArray.size = xs.length := by simp [rv.length]
    refine wpAny_pyNext_enum_endD (drawsT (A := X.A.in1) (show X.A.in1.handled = none from I.ok.hd hc) it a nai its.toArray) he ⟨by rw [hl]; exact hit, p'⟩ fun h' eb => ⟨rfl, I.turned (t' := s.toks) (fun b o hb q => eb b o hb q) f0 f1 f3 f4 f5⟩
  self := fun A i s Q E st h => let ⟨⟨_, he⟩, _⟩ := st; wpAny_pyIter_enum he h
def iEnumT (K : PySem.W.Frag) (ta : TA) : TI := fun σ H R => ta σ H fun vs H1 => ∃ a xs, vs = [.ref a] ∧ SqT K H1 a xs ∧ R (Itte K a) H1
theorem pi_enumT {X : Cx} {e : Expr} {ta : TA} {p pos tpos : Pos} {elts : List Expr} {kk : Nat} (hg : Gl X "enumerate") (hm : X.mg "enumerate" = none) (ha : PA X [e] ta) (hs : starEach [e] X.env = [(false, eval e X.env)] := by rfl) :
    PI X (.Tuple elts kk tpos) (.Call (.Name "enumerate" p) [e] [] pos) (iEnumT X.K ta) := by
  refine ⟨fun pins s σ H R I h => ?_⟩
  refine Call_ (ld_blt I hg hm boot_enumerate (PyProof.Rows.callWith_type1 (thn (ha.run pos pins s σ H _ I h) fun us s1 ⟨vs, H1, I1, r1, a, xs, ex, hq, q⟩ => ?_) hs rfl))
  subst ex
  cases r1 with
  | cons r rr =>
    cases rr
    cases r
    obtain ⟨its, rv, p', hz⟩ := I1.tuple hq
    refine call_enum_tup (show s1.heap.IsTuple a its.toArray from p') fun h' he hit hsz hk => wpAny_pyIter_enum he ?_
    have I2 : Inv X pins σ H1 { s1 with heap := h' } := I1.kept (t' := s1.toks) hk
    refine ⟨s1.heap.objs.size + 1, [s1.heap.objs.size + 1, s1.heap.objs.size], _, _, H1, rfl, I2, turn_enumT a (s1.heap.objs.size + 1) s1.heap.objs.size, ⟨⟨.none, he⟩, hit, Nat.succ_ne_self _⟩, fun b hb => ?_, q⟩
    have hle : s1.heap.objs.size ≤ b := by
      rcases (by simpa using hb : b = s1.heap.objs.size + 1 ∨ b = s1.heap.objs.size) with z | z
      · rw [z]; exact Nat.le_add_right _ _
      · rw [z]; exact Nat.le_refl _
    exact I1.fpOk hle (I1.hok.fresh hle)
end DlEn
namespace Dl
open PySem PySem.Spec PyProof.Rows L2
def iEnT (t : TAD) : TID := fun ρ S R E => t ρ S (fun ds S1 => one ds fun x => match x with
  | .tup xs => R (enumD 0 xs) always S1
  | _ => False) E
theorem pid_enumT {X : Cx} {W : WX} {e : Expr} {tas : TAD} {p pos : Pos} {elts : List Expr} {kk : Nat} {tpos : Pos} (hm : X.mg "enumerate" = none) (ha : PAD X W [e] tas) (hg : Gl X "enumerate" := by rfl) (hs : starEach [e] X.env = [(false, eval e X.env)] := by rfl) :
    PID X W (.Tuple elts kk tpos) (.Call (.Name "enumerate" p) [e] [] pos) (iEnT tas) := by
  refine PI_imp (DlEn.pi_enumT hg hm ha hs) fun σ H Q h => ?_
  obtain ⟨ρ, S, R, E, hS, hρ, ht, bx, bQ⟩ := h
  refine ⟨ρ, S, _, E, hS, hρ, ht, fun ds S1 r1 H1 vs e1 s1 v1 => ?_, bx⟩
  obtain ⟨x, rfl, r1⟩ := one_of r1
  obtain ⟨v, rfl, rx⟩ := v1.one
  cases x with
  | tup xs =>
    have rx' := rx
    obtain ⟨pa, va, rfl, hva, _⟩ := rx
    refine ⟨pa, va, rfl, SqT.of hva, bQ _ _ S1 r1 H1 e1 s1 _ fun H' S' e s _ => ?_⟩
    obtain ⟨pa', wa, ep, ha, qa⟩ := e.rv s1 _ _ rx'
    cases ep
    refine ⟨fun i hi => ?_, ?_, fun i d hd z H2 hy => ?_⟩
    · rw [enumD_length] at hi
      obtain ⟨d1, h1⟩ : ∃ d, xs[i]? = some d := ⟨_, List.getElem?_eq_getElem hi⟩
      obtain ⟨w1, g1, _⟩ := qa.get h1
      exact ⟨wa, w1, SqT.of ha, g1⟩
    · rw [enumD_length]
      exact ⟨wa, SqT.of ha, qa.len⟩
    · obtain ⟨T, x', rfl, hT, rfl, y1⟩ := hy
      obtain ⟨d1, h1, rfl⟩ := enumD_get hd
      obtain ⟨w1, g1, r1'⟩ := qa.get h1
      have z1 := y1 wa (SqT.of ha)
      rw [g1] at z1; cases z1
      rw [Nat.zero_add]
      exact ⟨Ext.new hT, s.new hT, rv.tup_new s hT ⟨_, _, rfl, rfl, _, _, rfl, r1', rfl⟩⟩
  | _ => exact r1.elim
end Dl
namespace Dl
open PySem PySem.Spec PyProof.Rows L2 TL
/-! ### text * int -/
def strRep (u : Str) (k : Int) : Str := ⟨((List.replicate k.toNat (tl u)).flatten).toArray⟩
theorem tl_strRep (u : Str) (k : Int) : tl (strRep u k) = (List.replicate k.toNat (tl u)).flatten := rfl
theorem fold_cat (c : Array Nat) : ∀ (n : Nat) (acc : Array Nat), ((List.replicate n c).foldl (· ++ ·) acc).toList = acc.toList ++ (List.replicate n c.toList).flatten
  | 0, acc => by simp
  | n + 1, acc => by
    rw [List.replicate_succ, List.foldl_cons, fold_cat c n, Array.toList_append, List.replicate_succ, List.flatten_cons, List.append_assoc]
theorem rep_nil (n : Nat) : (List.replicate n ([] : List Nat)).flatten = [] := by induction n with
  | zero => rfl
  | succ n ih => rw [List.replicate_succ, List.flatten_cons, ih]; rfl
def opMulS : R2D := fun x y S R => match x with
  | .str u => (match y with
    | .int k => 0 ≤ k ∧ k ≤ 1000 ∧ u.length ≤ 1000 ∧ R (.str (strRep u k)) S
    | _ => False)
  | _ => False
theorem opd_mulS {X : Cx} : OpR X (binaryOp .Mult) (upR X.K opMulS) := by
  intro pins s σ H x y v w Q I rx ry h
  obtain ⟨d, f, S, R, hS, r1, r2, r, bR⟩ := h
  cases d with
  | str u =>
    cases f with
    | int k =>
      cases r1; cases r2
      obtain ⟨h0, h1, hl, r⟩ := r
      obtain ⟨t, rfl⟩ := rx
      obtain ⟨t', rfl⟩ := ry
      have fin : ∀ z : Str, z = strRep u k → ∀ tk t2, EP X pins σ Q (.str z t2) { s with toks := tk } := fun z e tk t2 => ⟨.str z, H, I.tok tk, ⟨t2, rfl⟩, by rw [e]; exact bR _ S r H _ (Ext.refl _ _) hS rfl⟩
      have hn : k.toNat ≤ 1000 := by omega
      refine P.mul_str ?_ (fun h2 _ => ?_) (fun h2 _ => ?_) ?_
      · rw [decide_eq_false (by omega), decide_eq_false (by omega)]; rfl
      · have : (1000 : Int) ≤ (2 ^ 63 - 1) / k := by
          rw [Int.le_ediv_iff_mul_le (by omega)]
          omega
        omega
      · have e1 : u.length * k.toNat ≤ 1000 * 1000 := Nat.mul_le_mul hl hn
        have e2 : (1000000 : Nat) ≤ sizeLine := by decide
        unfold Builtin.Str.tooLong
        rw [decide_eq_false]
        omega
      · by_cases hk : k < 1
        · rw [if_pos hk]
          have : k.toNat = 0 := by omega
          refine ⟨by decide, fin _ (ext_tl ?_) _ _⟩
          rw [tl_strRep, this]; rfl
        · rw [if_neg hk]
          by_cases hk1 : (k == 1 || u.length == 0) = true
          · rw [if_pos hk1]
            refine fin u (ext_tl ?_) s.toks t
            rw [tl_strRep]
            rcases Bool.or_eq_true_iff.mp hk1 with z | z
            · rw [beq_iff_eq.mp z]; simp
            · have : tl u = [] := len0_tl u |>.mp (by simpa using z)
              rw [this, rep_nil]
          · rw [if_neg hk1]
            refine ⟨?_, fin _ (ext_tl ?_) _ _⟩
            · have el : (⟨(List.replicate k.toNat u.cps).foldl (· ++ ·) #[]⟩ : Str).length = ((List.replicate k.toNat (tl u)).flatten).length := by
                rw [len_tl]; unfold tl; rw [fold_cat]; simp
              have e1 : ((List.replicate k.toNat (tl u)).flatten).length = k.toNat * u.length := by simp [len_tl]
              have e2 : k.toNat * u.length ≤ 1000 * 1000 := Nat.mul_le_mul hn hl
              have e3 : (1000000 : Nat) ≤ sizeLine := by decide
              rw [el, e1]; omega
            · unfold tl; rw [fold_cat]; simp [tl_strRep, strRep, tl]
    | _ => exact r.elim
  | _ => exact r.elim
end Dl
namespace Dl
open PySem PySem.Spec PyProof.Rows L2 TL
section
variable {ρ : DEnv} {S : Sto} {R : QD} {E : XD} {ds : List D} {a : Addr} {u v : Str} {k : Int} {t : TAD} {Q : List D → (Sto → Prop) → Sto → Prop}
theorem r_split : mSplit (.str u) [.str v] S R = ((v.length == 0) = false ∧ u.length + 2 ≤ sizeLine ∧ R (.lst ((Txt.split u v).map D.str)) S) := rfl
theorem r_allL : cAll [.lst ds] S R = ∃ bs, blsD ds = some bs ∧ R (.bl (bs.all id)) S := rfl
theorem r_mulS : opMulS (.str u) (.int k) S R = (0 ≤ k ∧ k ≤ 1000 ∧ u.length ≤ 1000 ∧ R (.str (strRep u k)) S) := rfl
def en1 (Q : List D → (Sto → Prop) → Sto → Prop) (ds : List D) (S1 : Sto) : Prop := one ds fun x => lsD S1 x fun xs => Q (enumD 0 xs) (keepL x xs) S1
theorem r_iEn : iEn t ρ S Q E = t ρ S (en1 Q) E := rfl
theorem r_en1L : en1 Q [.lst ds] S = Q (enumD 0 ds) always S := rfl
theorem r_en1R (h : S a = some (.lst ds)) : en1 Q [.ref a] S = Q (enumD 0 ds) (fun S => S a = some (.lst ds)) S := by
  show lsD S (.ref a) _ = _
  rw [r_lsR h]; rfl
def en2 (Q : List D → (Sto → Prop) → Sto → Prop) (ds : List D) (S1 : Sto) : Prop := one ds fun x => match x with
  | .tup xs => Q (enumD 0 xs) always S1
  | _ => False
theorem r_iEnT : iEnT t ρ S Q E = t ρ S (en2 Q) E := rfl
theorem r_en2T : en2 Q [.tup ds] S = Q (enumD 0 ds) always S := rfl
end
end Dl
namespace Dl
open PySem PySem.Spec PyProof.Rows L2 TL
/-- a value that is no object of the store -/
def vok : D → Bool
  | .non => true
  | .bl _ => true
  | .int _ => true
  | .str _ => true
  | .tup _ => true
  | .lst _ => true
  | .dct _ => true
  | _ => false
def wi : D → Int → Int → Bool
  | .int i, lo, hi => decide (lo ≤ i ∧ i ≤ hi)
  | _, _, _ => false
theorem wi_int {i lo hi : Int} : wi (.int i) lo hi = decide (lo ≤ i ∧ i ≤ hi) := rfl
end Dl
namespace Dl
open PySem PySem.Spec PyProof.Rows L2 TL
/-! ### what tower_error says -/
def firstBad : Nat → List D → D
  | _, [] => .non
  | k, w :: ws => if wi w 1 1000000 = true then firstBad (k + 1) ws else .tup [.int (k : Nat), .str "weight"]
def twW (w : D) : D := match w with
  | .tup ws => if 24 < ws.length then .tup [.non, .str "weights"] else firstBad 0 ws
  | _ => .tup [.non, .str "weights"]
def twErr (d : D) : D := match d with
  | .tup [e, w] => if wi e 1 1000000 = true then twW w else .tup [.non, .str "excess"]
  | _ => .tup [.non, .str "tower"]
def okTw (d : D) : Prop := vok d = true ∧ ∀ es, d = .tup es → ∀ e ∈ es, vok e = true ∧ ∀ ws, e = .tup ws → ∀ w ∈ ws, vok w = true
theorem firstBad_ok {ws : List Int} (h : ∀ w ∈ ws, 1 ≤ w ∧ w ≤ 1000000) : ∀ k, firstBad k (ws.map .int) = .non := by
  induction ws with
  | nil => intro k; rfl
  | cons w ws ih =>
    intro k
    rw [List.map_cons, firstBad, if_pos, ih fun x hx => h x (by simp [hx])]
    rw [wi_int, decide_eq_true_eq]; exact h w (by simp)
theorem twErr_ok {e : Int} {ws : List Int} (h0 : 1 ≤ e ∧ e ≤ 1000000) (hl : ws.length ≤ 24) (h : ∀ w ∈ ws, 1 ≤ w ∧ w ≤ 1000000) : twErr (.tup [.int e, .tup (ws.map .int)]) = .non := by
  show (if wi (.int e) 1 1000000 = true then twW (.tup (ws.map .int)) else _) = _
  rw [if_pos (by rw [wi_int, decide_eq_true_eq]; exact h0)]
  show (if 24 < (ws.map D.int).length then _ else firstBad 0 (ws.map .int)) = _
  rw [if_neg (by rw [List.length_map]; omega), firstBad_ok h]
theorem firstBad_step {ws : List D} {k : Nat} {w : D} (h : ws[k]? = some w) : firstBad k (ws.drop k) = if wi w 1 1000000 = true then firstBad (k + 1) (ws.drop (k + 1)) else .tup [.int (k : Nat), .str "weight"] := by
  obtain ⟨lt, e⟩ := List.getElem?_eq_some_iff.mp h
  rw [List.drop_eq_getElem_cons lt, e, firstBad]
end Dl
namespace Dl
theorem nc0 : ((0 : Nat) : Int) = 0 := rfl
theorem nc1 : ((1 : Nat) : Int) = 1 := rfl
theorem nc2 : ((2 : Nat) : Int) = 2 := rfl
theorem nc3 : ((3 : Nat) : Int) = 3 := rfl
end Dl
namespace Dl
open PySem PySem.Spec PyProof.Rows L2 TL
theorem r_inS {S : Sto} {R : QD} {c : Nat} {z : Str} : opIn (.str ⟨#[c]⟩) (.str z) S R = R (.bl (decide (c ∈ z.cps.toList))) S := propext ⟨fun ⟨n, e, h⟩ => by
  have e2 : #[c] = #[n] := congrArg Str.cps e
  have e3 : c = n := by simpa using e2
  subst e3; exact h, fun h => ⟨c, rfl, h⟩⟩
theorem r_notInS {S : Sto} {R : QD} {c : Nat} {z : Str} : opNotIn (.str ⟨#[c]⟩) (.str z) S R = R (.bl (!decide (c ∈ z.cps.toList))) S := propext ⟨fun ⟨n, e, h⟩ => by
  have e2 : #[c] = #[n] := congrArg Str.cps e
  have e3 : c = n := by simpa using e2
  subst e3; exact h, fun h => ⟨c, rfl, h⟩⟩
/-! ### what parse_number says -/
def allDig (u : Str) : Bool := (tl u).all fun c => decide (48 ≤ c ∧ c ≤ 57)
theorem figs_mem (c : Nat) : decide (c ∈ (Str.ofString "0123456789").cps.toList) = decide (48 ≤ c ∧ c ≤ 57) := by
  have e : (Str.ofString "0123456789").cps.toList = [48, 49, 50, 51, 52, 53, 54, 55, 56, 57] := rfl
  rw [e]
  refine decide_eq_decide.mpr ?_
  simp only [List.mem_cons, List.not_mem_nil, or_false]
  omega
theorem all_figs (u : Str) : (((tl u).map fun c => decide (c ∈ (Str.ofString "0123456789").cps.toList)).all id) = allDig u := by
  unfold allDig
  rw [List.all_map]
  congr 1
  funext c
  exact figs_mem c
def pnum (u : Str) : D := if (1 ≤ u.length ∧ u.length ≤ 8) ∧ allDig u = true then (if (tl u).head? = some 48 ∧ u ≠ Str.ofString "0" then .non else .int (NumText.digitsVal (tl u) : Nat)) else .non
theorem pnum_int {u : Str} (hl : u.length ≤ 640) (h1 : 1 ≤ u.length) (hd : allDig u = true) : intText? u = some ((NumText.digitsVal (tl u) : Nat) : Int) := by
  refine intText_digits (fun c hc => ?_) (fun z => ?_) (Nat.le_trans hl (by decide))
  · exact of_decide_eq_true (List.all_eq_true.mp hd c hc)
  · rw [len_tl] at h1
    have z' : tl u = [] := z
    rw [z'] at h1; exact absurd h1 (by decide)
end Dl
namespace Dl
open PySem PySem.Spec PyProof.Rows L2 TL
/-! ### what parse_weights says -/
theorem pnum_nf (u : Str) : pnum u = .non ∨ ∃ n : Int, pnum u = .int n := by
  unfold pnum
  split
  · split
    · exact .inl rfl
    · exact .inr ⟨_, rfl⟩
  · exact .inl rfl
theorem in_non : ∀ (us : List Str), ∃ vs, fvs (us.map pnum) = some vs ∧ inV .non vs = (us.map pnum).any isNon
  | [] => ⟨[], rfl, rfl⟩
  | u :: us => by
    obtain ⟨vs, e, q⟩ := in_non us
    rcases pnum_nf u with h | ⟨n, h⟩
    · refine ⟨.non :: vs, ?_, ?_⟩
      · rw [List.map_cons, fvs, h]; show ((fvs (us.map pnum)).map _) = _; rw [e]; rfl
      · rw [List.map_cons, List.any_cons, h]; rfl
    · refine ⟨.int n :: vs, ?_, ?_⟩
      · rw [List.map_cons, fvs, h]; show ((fvs (us.map pnum)).map _) = _; rw [e]; rfl
      · rw [List.map_cons, List.any_cons, h, ← q]; rfl
theorem r_inNon {S : Sto} {R : QD} {us : List Str} : opIn .non (.tup (us.map pnum)) S R = R (.bl ((us.map pnum).any isNon)) S := by
  obtain ⟨vs, e, q⟩ := in_non us
  rw [← q]
  exact propext ⟨fun ⟨v, vs', h1, h2, h⟩ => by cases h1; rw [e] at h2; cases h2; exact h, fun h => ⟨_, _, rfl, e, h⟩⟩
def pwsL (us : List Str) : D := if (us.map pnum).any isNon = true then .non else .tup (us.map pnum)
def pws (u : Str) : D := if u = Str.ofString "-" then .tup [] else pwsL (Txt.split u (Str.ofString ","))
/-- the parts of a cut: signs of the whole -/
theorem spl_mem {S0 : List Nat} : ∀ (l : List Nat) (k : Nat) (acc p : List Nat), p ∈ spl S0 k acc l → (∀ c ∈ p, c ∈ acc ∨ c ∈ l) ∧ p.length ≤ acc.length + l.length
  | [], k, acc, p, h => by
    rw [spl_nil] at h
    rw [List.mem_singleton.mp h]
    exact ⟨fun c hc => .inl hc, by simp⟩
  | c :: r, 0, acc, p, h => by
    unfold spl at h
    split at h
    · rcases List.mem_cons.mp h with e | h
      · rw [e]; exact ⟨fun c hc => .inl hc, by simp⟩
      · obtain ⟨h1, h2⟩ := spl_mem r _ _ _ h
        refine ⟨fun x hx => ?_, by simp at h2 ⊢; omega⟩
        rcases h1 x hx with z | z
        · cases z
        · exact .inr (by simp [z])
    · obtain ⟨h1, h2⟩ := spl_mem r _ _ _ h
      refine ⟨fun x hx => ?_, by simp at h2 ⊢; omega⟩
      rcases h1 x hx with z | z
      · rcases List.mem_append.mp z with z | z
        · exact .inl z
        · exact .inr (by simp at z; simp [z])
      · exact .inr (by simp [z])
  | c :: r, k + 1, acc, p, h => by
    unfold spl at h
    obtain ⟨h1, h2⟩ := spl_mem r _ _ _ h
    refine ⟨fun x hx => ?_, by simp at h2 ⊢; omega⟩
    rcases h1 x hx with z | z
    · exact .inl z
    · exact .inr (by simp [z])
theorem spl_len {S0 : List Nat} : ∀ (l : List Nat) (k : Nat) (acc : List Nat), (spl S0 k acc l).length ≤ l.length + 1
  | [], k, acc => by rw [spl_nil]; simp
  | c :: r, 0, acc => by
    unfold spl
    split
    · have := spl_len (S0 := S0) r (S0.length - 1) []; simp; omega
    · have := spl_len (S0 := S0) r 0 (acc ++ [c]); simp; omega
  | c :: r, k + 1, acc => by
    unfold spl
    have := spl_len (S0 := S0) r k acc; simp; omega
theorem split_part {x y : Str} (hy : tl y ≠ []) (hk : y.cps.all (· < 256) = true) {p : Str} (hp : p ∈ Txt.split x y) : (∀ c ∈ tl p, c ∈ tl x) ∧ p.length ≤ x.length := by
  have e := split_spl x y hy (kind_ok hk)
  have : tl p ∈ spl (tl y) 0 [] (tl x) := by rw [← e]; exact List.mem_map.mpr ⟨p, hp, rfl⟩
  obtain ⟨h1, h2⟩ := spl_mem _ _ _ _ this
  refine ⟨fun c hc => ?_, by rw [len_tl, len_tl]; simpa using h2⟩
  rcases h1 c hc with z | z
  · cases z
  · exact z
theorem split_length {x y : Str} (hy : tl y ≠ []) (hk : y.cps.all (· < 256) = true) : (Txt.split x y).length ≤ x.length + 1 := by
  have e := congrArg List.length (split_spl x y hy (kind_ok hk))
  rw [List.length_map] at e
  rw [e, len_tl]
  exact spl_len _ _ _
end Dl
namespace Dl
open PySem PySem.Spec PyProof.Rows L2 TL
theorem vok_pnum (u : Str) : vok (pnum u) = true := by
  rcases pnum_nf u with h | ⟨n, h⟩ <;> rw [h] <;> rfl
theorem pws_cases (u : Str) : pws u = .non ∨ ∃ us : List Str, pws u = .tup (us.map pnum) := by
  unfold pws
  split
  · exact .inr ⟨[], rfl⟩
  · unfold pwsL
    split
    · exact .inl rfl
    · exact .inr ⟨_, rfl⟩
theorem okTw_pws (u : Str) : okTw (.tup [.int 1, pws u]) := by
  refine ⟨rfl, fun es he e hm => ?_⟩
  cases he
  simp only [List.mem_cons, List.not_mem_nil, or_false] at hm
  rcases hm with rfl | rfl
  · exact ⟨rfl, fun ws z => by cases z⟩
  · rcases pws_cases u with h | ⟨us, h⟩
    · rw [h]; exact ⟨rfl, fun ws z => by cases z⟩
    · rw [h]
      refine ⟨rfl, fun ws z w hw => ?_⟩
      cases z
      obtain ⟨x, _, rfl⟩ := List.mem_map.mp hw
      exact vok_pnum x
def rword (i : Int) (u : Str) : Bool := if i = 0 then wi (pnum u) 1 1000000 else if i = 1 then decide (u = Str.ofString "/") else if i = 2 then isNon (twErr (.tup [.int 1, pws u])) else false
/-- what parse_tower says: the place of the first wrong word, or none -/
def badAt : Nat → List Str → Option Nat
  | _, [] => none
  | k, u :: us => if rword (k : Nat) u = true then badAt (k + 1) us else some k
theorem badAt_step {us : List Str} {k : Nat} {u : Str} (h : us[k]? = some u) : badAt k (us.drop k) = if rword (k : Nat) u = true then badAt (k + 1) (us.drop (k + 1)) else some k := by
  obtain ⟨lt, e⟩ := List.getElem?_eq_some_iff.mp h
  rw [List.drop_eq_getElem_cons lt, e, badAt]
end Dl
namespace Dl
open PySem PySem.Spec PyProof.Rows L2 TL
/-! ### what parse_tower says: the index of its error, or the tower -/
def ptwL (ws : List Str) : D ⊕ D := match badAt 0 ws with
  | some k => .inl (.int (k : Nat))
  | none => if ws.length < 3 then .inl (.int (ws.length : Nat)) else .inr (.tup [pnum (ws.getD 0 Str.empty), pws (ws.getD 2 Str.empty)])
def ptow : D → D ⊕ D
  | .str u => ptwL (Txt.split u (Str.ofString " "))
  | _ => .inl .non
end Dl
namespace Dl
open PySem PySem.Spec PyProof.Rows L2 TL
theorem r_neLS0 {S : Sto} {R : QD} {zs : List Str} (h : ∀ z ∈ zs, okT z) : opNe (.lst (zs.map .str)) (.lst []) S R = R (.bl (!decide (zs = []))) S :=
  ne_en (isE zs) (isE ([] : List Str)) (fun x hx => okT_iff.mpr (h x hx)) (fun x hx => by cases hx) (by decide) (by simp)
theorem filt_nil (u : Str) : ((tl u).filter fun c => !decide (c ∈ (Str.ofString "0123456789").cps.toList)) = [] ↔ allDig u = true := by
  unfold allDig
  rw [List.filter_eq_nil_iff, List.all_eq_true]
  refine forall_congr' fun c => ?_
  refine imp_congr_right fun _ => ?_
  rw [figs_mem c]
  cases decide (48 ≤ c ∧ c ≤ 57) <;> simp
end Dl
namespace Dl
open PySem PySem.Spec PyProof.Rows L2 TL
theorem in_nonF {α : Type} {f : α → D} (hf : ∀ u, f u = .non ∨ ∃ n : Int, f u = .int n) : ∀ (us : List α), ∃ vs, fvs (us.map f) = some vs ∧ inV .non vs = (us.map f).any isNon
  | [] => ⟨[], rfl, rfl⟩
  | u :: us => by
    obtain ⟨vs, e, q⟩ := in_nonF hf us
    rcases hf u with h | ⟨n, h⟩
    · refine ⟨.non :: vs, ?_, ?_⟩
      · rw [List.map_cons, fvs, h]; show ((fvs (us.map f)).map _) = _; rw [e]; rfl
      · rw [List.map_cons, List.any_cons, h]; rfl
    · refine ⟨.int n :: vs, ?_, ?_⟩
      · rw [List.map_cons, fvs, h]; show ((fvs (us.map f)).map _) = _; rw [e]; rfl
      · rw [List.map_cons, List.any_cons, h, ← q]; rfl
theorem r_inNonF {α : Type} {f : α → D} (hf : ∀ u, f u = .non ∨ ∃ n : Int, f u = .int n) {S : Sto} {R : QD} {us : List α} : opIn .non (.lst (us.map f)) S R = R (.bl ((us.map f).any isNon)) S := by
  obtain ⟨vs, e, q⟩ := in_nonF hf us
  rw [← q]
  exact propext ⟨fun ⟨v, vs', h1, h2, h⟩ => by cases h1; rw [e] at h2; cases h2; exact h, fun h => ⟨_, _, rfl, e, h⟩⟩
end Dl
namespace Dl
open PySem PySem.Spec PyProof.Rows L2 TL
/-! ### the texts -/
def wtxt (ws : List Int) : Str := if ws = [] then "-" else Txt.join "," (ws.map dec)
def ttxt (e : Int) (ws : List Int) : Str := dec e ++ " / " ++ wtxt ws
def nn (ws : List Int) : Prop := ∀ w ∈ ws, 0 ≤ w ∧ w < 1000000000
theorem tl_wtxt {ws : List Int} (h : nn ws) : tl (wtxt ws) = if ws = [] then [45] else joinL [44] (ws.map fun w => numL w.toNat) := by
  unfold wtxt
  by_cases e : ws = []
  · rw [if_pos e, if_pos e]; rfl
  · rw [if_neg e, if_neg e, join_eq, tl_join]
    have : (ws.map dec).map tl = ws.map fun w => numL w.toNat := by
      rw [List.map_map]
      exact List.map_congr_left fun w hw => tl_dec (h w hw).1
    rw [this]; rfl
theorem tl_ttxt {e : Int} {ws : List Int} (he : 0 ≤ e) : tl (ttxt e ws) = numL e.toNat ++ 32 :: 47 :: 32 :: tl (wtxt ws) := by
  unfold ttxt
  rw [tl_append, tl_append, tl_dec he]
  have : tl (Str.ofString " / ") = [32, 47, 32] := rfl
  rw [this]; simp
theorem joinL_ne45 {ws : List Int} (hne : ws ≠ []) : joinL [44] (ws.map fun w => numL w.toNat) ≠ [45] := by
  cases ws with
  | nil => exact absurd rfl hne
  | cons w r =>
    intro h
    cases hn : numL w.toNat with
    | nil => exact numL_ne _ hn
    | cons c q =>
      have hc : c ≠ 45 := fun e => numL_free (n := w.toNat) (s := 45) (by decide) (by rw [hn, e]; simp)
      cases r with
      | nil =>
        have h' : numL w.toNat = [45] := h
        rw [hn] at h'
        exact hc (List.cons.inj h').1
      | cons u t =>
        have h' : numL w.toNat ++ ([44] ++ joinL [44] ((u :: t).map fun w => numL w.toNat)) = [45] := by simpa [joinL] using h
        rw [hn] at h'
        exact hc (List.cons.inj h').1
theorem wtxt_inj {ws us : List Int} (hw : nn ws) (hu : nn us) (h : tl (wtxt ws) = tl (wtxt us)) : ws = us := by
  rw [tl_wtxt hw, tl_wtxt hu] at h
  by_cases e1 : ws = [] <;> by_cases e2 : us = []
  · rw [e1, e2]
  · rw [if_pos e1, if_neg e2] at h
    exact absurd h.symm (joinL_ne45 e2)
  · rw [if_neg e1, if_pos e2] at h
    exact absurd h (joinL_ne45 e1)
  · rw [if_neg e1, if_neg e2] at h
    have k := joinL_inj (by simpa using e1) (by simpa using e2) (fun p hp => by
      obtain ⟨w, _, rfl⟩ := List.mem_map.mp hp
      exact numL_free (by decide)) (fun p hp => by
      obtain ⟨w, _, rfl⟩ := List.mem_map.mp hp
      exact numL_free (by decide)) h
    clear h e1 e2
    induction ws generalizing us with
    | nil => cases us with
      | nil => rfl
      | cons _ _ => cases k
    | cons w r ih =>
      cases us with
      | nil => cases k
      | cons u t =>
        obtain ⟨k1, k2⟩ := List.cons.inj k
        have a := hw w (by simp)
        have b := hu u (by simp)
        have := numL_inj k1
        rw [show w = u by omega, ih (fun z hz => hw z (by simp [hz])) (fun z hz => hu z (by simp [hz])) k2]
theorem ttxt_inj {e f : Int} {ws us : List Int} (he : 0 ≤ e) (hf : 0 ≤ f) (hw : nn ws) (hu : nn us) (h : ttxt e ws = ttxt f us) : e = f ∧ ws = us := by
  have h := congrArg tl h
  rw [tl_ttxt he, tl_ttxt hf] at h
  obtain ⟨h1, h2⟩ := split_free (numL_free (by decide)) (numL_free (by decide)) h
  have := numL_inj h1
  exact ⟨by omega, wtxt_inj hw hu (List.cons.inj (List.cons.inj h2).2).2⟩
theorem ok_wtxt (ws : List Int) : okT (wtxt ws) := by
  unfold wtxt
  split
  · exact okT_lit (by decide)
  · rw [join_eq]
    exact okT_join (okT_lit (by decide)) fun x hx => by
      obtain ⟨w, _, rfl⟩ := List.mem_map.mp hx
      exact okT_dec w
theorem ok_ttxt (e : Int) (ws : List Int) : okT (ttxt e ws) := okT_app (okT_app (okT_dec e) (okT_lit (by decide))) (ok_wtxt ws)
theorem sum_wtxt {ws : List Int} (h : nn ws) : ((ws.map dec).map (·.length)).sum ≤ 9 * ws.length := by
  have := sum_le (f := fun w : Int => (dec w).length) (b := 9) (xs := ws) fun w hw => dec_len (h w hw).1 (h w hw).2
  rw [List.map_map]; exact this
theorem joinL_len : ∀ (ps : List (List Nat)), (joinL [44] ps).length ≤ (ps.map List.length).sum + ps.length
  | [] => by simp [joinL]
  | [p] => by simp [joinL]
  | p :: q :: r => by
    have := joinL_len (q :: r)
    simp only [joinL, List.length_append, List.map_cons, List.sum_cons, List.length_cons, List.length_nil] at this ⊢
    omega
theorem len_wtxt {ws : List Int} (h : nn ws) (hl : ws.length ≤ 1000) : (wtxt ws).length ≤ 100000 := by
  rw [len_tl]
  by_cases e : ws = []
  · rw [tl_wtxt h, if_pos e]; decide
  · rw [show tl (wtxt ws) = joinL [44] ((ws.map dec).map tl) by unfold wtxt; rw [if_neg e, join_eq, tl_join]; rfl]
    have h1 := joinL_len ((ws.map dec).map tl)
    have h2 := sum_wtxt h
    have h3 : ((ws.map dec).map tl).map List.length = (ws.map dec).map (·.length) := by rw [List.map_map]; exact List.map_congr_left fun x _ => (len_tl x).symm
    rw [h3, List.length_map, List.length_map] at h1
    omega
theorem strs_dec (ws : List Int) : strsD (List.map (fun w => D.str (toString w : String)) ws) = some (ws.map dec) := by
  rw [show List.map (fun w : Int => D.str (toString w : String)) ws = (ws.map dec).map .str by rw [List.map_map]; rfl, strsD_map]
end Dl
namespace Dl
open PySem PySem.Spec PyProof.Rows L2 TL
/-! ### cuts of lists and texts: their lengths -/
theorem cutD_map {α β : Type} (f : α → β) (xs : List α) (l h : Option Int) : Dl.cutD (xs.map f) l h = (Dl.cutD xs l h).map f := by
  unfold Dl.cutD
  rw [List.length_map, List.map_take, List.map_drop]
theorem sum_take_le (xs : List Nat) : ∀ n : Nat, (xs.take n).sum ≤ xs.sum := by
  induction xs with
  | nil => intro n; simp
  | cons x xs ih => intro n; cases n with
    | zero => simp
    | succ n => rw [List.take_succ_cons, List.sum_cons, List.sum_cons]; have := ih n; omega
theorem sum_drop_le (xs : List Nat) : ∀ n : Nat, (xs.drop n).sum ≤ xs.sum := by
  induction xs with
  | nil => intro n; simp
  | cons x xs ih => intro n; cases n with
    | zero => simp
    | succ n => rw [List.drop_succ_cons, List.sum_cons]; have := ih n; omega
theorem cut_sum {α : Type} (f : α → Nat) (xs : List α) (l h : Option Int) : ((Dl.cutD xs l h).map f).sum ≤ (xs.map f).sum := by
  rw [← cutD_map]
  unfold Dl.cutD
  exact Nat.le_trans (sum_take_le _ _) (sum_drop_le _ _)
theorem cut_len {α : Type} (xs : List α) (l h : Option Int) : (Dl.cutD xs l h).length ≤ xs.length := by
  unfold Dl.cutD
  rw [List.length_take, List.length_drop]; omega
theorem spl_sum {S0 : List Nat} : ∀ (l : List Nat) (k : Nat) (acc : List Nat), ((spl S0 k acc l).map List.length).sum ≤ acc.length + l.length
  | [], k, acc => by rw [spl_nil]; simp
  | c :: r, 0, acc => by
    unfold spl
    split
    · have := spl_sum (S0 := S0) r (S0.length - 1) []; simp at this ⊢; omega
    · have := spl_sum (S0 := S0) r 0 (acc ++ [c]); simp at this ⊢; omega
  | c :: r, k + 1, acc => by
    unfold spl
    have := spl_sum (S0 := S0) r k acc; simp; omega
theorem split_sum {x y : Str} (hy : tl y ≠ []) (hk : y.cps.all (· < 256) = true) : ((Txt.split x y).map (·.length)).sum ≤ x.length := by
  have e := split_spl x y hy (kind_ok hk)
  have h := spl_sum (S0 := tl y) (tl x) 0 []
  rw [← e, List.map_map] at h
  have e2 : (Txt.split x y).map (List.length ∘ tl) = (Txt.split x y).map (·.length) := List.map_congr_left fun z _ => (len_tl z).symm
  rw [e2] at h
  rw [len_tl]; simpa using h
theorem spl_ne {S0 : List Nat} : ∀ (l : List Nat) (k : Nat) (acc : List Nat), spl S0 k acc l ≠ []
  | [], k, acc => by rw [spl_nil]; simp
  | c :: r, 0, acc => by
    unfold spl
    split
    · simp
    · exact spl_ne r _ _
  | c :: r, k + 1, acc => by
    unfold spl
    exact spl_ne r _ _
theorem split_ne {x y : Str} (hy : tl y ≠ []) (hk : y.cps.all (· < 256) = true) : Txt.split x y ≠ [] := fun z => by
  have e := split_spl x y hy (kind_ok hk)
  rw [z] at e
  exact spl_ne _ _ _ e.symm
theorem join_len (z : Str) : ∀ ys : List Str, (Str.join z ys).length ≤ (ys.map (·.length)).sum + ys.length * z.length
  | [] => Nat.zero_le _
  | [y] => by
    show y.length ≤ _
    simp only [List.map_cons, List.map_nil, List.sum_cons, List.sum_nil, List.length_cons, List.length_nil]; omega
  | y :: u :: r => by
    have h := join_len z (u :: r)
    have e : Str.join z (y :: u :: r) = y ++ z ++ Str.join z (u :: r) := rfl
    rw [e, len_app, len_app]
    simp only [List.map_cons, List.sum_cons, List.length_cons, Nat.succ_mul] at h ⊢
    omega
theorem okT_cutS {z : Str} (h : okT z) (l u : Option Int) : okT (cutS z l u) := fun c hc => by
  have : c ∈ (z.cps.toList.drop (HT.sIx z.length 0 l)).take (HT.sIx z.length z.length u - HT.sIx z.length 0 l) := by simpa [tl, cutS] using hc
  exact h c (List.mem_of_mem_drop (List.mem_of_mem_take this))
theorem okT_rep {z : Str} (h : okT z) (k : Int) : okT (strRep z k) := fun c hc => by
  rw [tl_strRep] at hc
  obtain ⟨l, h1, h2⟩ := List.mem_flatten.mp hc
  rw [List.eq_of_mem_replicate h1] at h2
  exact h c h2
theorem len_rep (z : Str) (k : Int) : (strRep z k).length = k.toNat * z.length := by
  rw [len_tl, tl_strRep, List.length_flatten, List.map_replicate, List.sum_replicate_nat, len_tl]
theorem r_eqLS {S : Sto} {R : QD} {zs us : List Str} (h : ∀ z ∈ zs, okT z) (h2 : ∀ z ∈ us, okT z) : opEq (.lst (zs.map .str)) (.lst (us.map .str)) S R = R (.bl (decide (zs = us))) S :=
  eq_en (isE zs) (isE us) (fun x hx => okT_iff.mpr (h x hx)) (fun x hx => okT_iff.mpr (h2 x hx)) (by decide) (by simp)
end Dl
namespace Dl
open PySem PySem.Spec PyProof.Rows L2 TL
theorem cut_both {α : Type} (xs : List α) {i : Int} (h : 0 ≤ i) : Dl.cutD xs none (some i) ++ Dl.cutD xs (some i) none = xs := by
  obtain ⟨n, rfl⟩ : ∃ n : Nat, i = n := ⟨i.toNat, by omega⟩
  have h1 : HT.sIx xs.length 0 (some (n : Int)) = min n xs.length := by unfold HT.sIx; simp; omega
  have h2 : HT.sIx xs.length xs.length (some (n : Int)) = min n xs.length := by unfold HT.sIx; simp; omega
  have h3 : HT.sIx xs.length 0 none = 0 := rfl
  have h4 : HT.sIx xs.length xs.length none = xs.length := rfl
  unfold Dl.cutD
  rw [h1, h2, h3, h4, Nat.sub_zero, List.drop_zero, List.take_of_length_le (l := List.drop _ _) (by rw [List.length_drop]; omega), List.take_append_drop]
end Dl
namespace Dl
open PySem PySem.Spec PyProof.Rows L2 TL
/-- plain data with a greater bound -/
structure Pw (d : D) (p : PyData) : Prop where
  v : pyV d = some p
  s : smallx p = true
  b : p.bulk ≤ 100000
  d : p.depth ≤ 60
theorem pyV_R {d : D} {p : PyData} (e : pyV d = some p) {S : Sto} : Dl.pyR S d = some p := by
  cases d with
  | dct kvs => cases kvs with
    | nil => exact e
    | cons _ _ => cases e
  | ref a => cases e
  | _ => first | exact e | cases e
theorem Pw.repr {d : D} {p : PyData} (h : Pw d p) {S : Sto} {R : QD} (r : R (.str p.shown) S) : cRepr [d] S R := r_reprx (pyV_R h.v) h.s h.b h.d r
theorem Pw.okT {d : D} {p : PyData} (h : Pw d p) : Dl.okT p.shown := (smallx_ok p h.s).2.2
theorem Pl.w {d : D} {p : PyData} (h : Pl d p) : Pw d p := ⟨h.v, h.s, Nat.le_trans h.b (by decide), Nat.le_trans h.d (by decide)⟩
theorem smallx_ints {ns : List Int} (h : ∀ n ∈ ns, 0 ≤ n ∧ n < 10 ^ 45) : smallxAll (ns.map PyData.int) = true := by
  induction ns with
  | nil => rfl
  | cons n ns ih =>
    rw [List.map_cons, smallxAll, ih fun x hx => h x (by simp [hx]), Bool.and_true, smallx, decide_eq_true_eq]
    exact .inl (h n (by simp))
theorem bulk_ints (ns : List Int) : PyData.bulkAll (ns.map PyData.int) = ns.length := by
  induction ns with
  | nil => rfl
  | cons n ns ih => rw [List.map_cons, PyData.bulkAll, ih, PyData.bulk, List.length_cons]; omega
theorem depth_ints (ns : List Int) : PyData.depthAll (ns.map PyData.int) = 0 := by
  induction ns with
  | nil => rfl
  | cons n ns ih => rw [List.map_cons, PyData.depthAll, ih, PyData.depth]; rfl
theorem pys_ints (ns : List Int) : pys (ns.map D.int) = some (ns.map PyData.int) := pys_map (fun _ => rfl) ns
/-- a tower -/
def twD (t : Int × List Int) : D := .tup [.int t.1, .tup (t.2.map .int)]
def twP (t : Int × List Int) : PyData := .tuple [.int t.1, .tuple (t.2.map .int)]
structure Tw (t : Int × List Int) : Prop where
  e : 1 ≤ t.1 ∧ t.1 ≤ 1000000
  n : t.2.length ≤ 24
  w : ∀ w ∈ t.2, 1 ≤ w ∧ w ≤ 1000000
theorem tw_py (t : Int × List Int) : py (twD t) = some (twP t) := by
  unfold twD twP py pys pys pys py
  rw [pys_ints]; rfl
theorem Tw.pw {t : Int × List Int} (h : Tw t) : Pw (twD t) (twP t) := by
  refine ⟨tw_py t, ?_, ?_, ?_⟩
  · show (smallx (.int t.1) && (smallx (.tuple (t.2.map .int)) && true)) = true
    rw [show smallx (.tuple (t.2.map .int)) = smallxAll (t.2.map .int) by rw [smallx], smallx_ints fun n hn => ⟨by have := h.w n hn; omega, by have := h.w n hn; omega⟩, smallx]
    have := h.e
    simp only [Bool.and_true, decide_eq_true_eq]; omega
  · show PyData.bulk (.tuple [.int t.1, .tuple (t.2.map .int)]) ≤ _
    simp only [PyData.bulk, PyData.bulkAll, bulk_ints]
    have := h.n; omega
  · show PyData.depth (.tuple [.int t.1, .tuple (t.2.map .int)]) ≤ _
    simp only [PyData.depth, PyData.depthAll, depth_ints]; decide
theorem Tw.nn {t : Int × List Int} (h : Tw t) : Dl.nn t.2 := fun w hw => by have := h.w w hw; omega
theorem Tw.err {t : Int × List Int} (h : Tw t) : twErr (twD t) = .non := twErr_ok h.e h.n h.w
theorem firstBad_all : ∀ {us : List Str} {k : Nat}, isNon (firstBad k (us.map pnum)) = true → ∃ ns : List Int, us.map pnum = ns.map .int ∧ ∀ n ∈ ns, 1 ≤ n ∧ n ≤ 1000000
  | [], _, _ => ⟨[], rfl, fun n hn => nomatch hn⟩
  | u :: us, k, h => by
    rw [List.map_cons, firstBad] at h
    cases hw : wi (pnum u) 1 1000000 with
    | false => rw [hw, if_neg Bool.false_ne_true] at h; cases h
    | true =>
      rw [hw, if_pos rfl] at h
      obtain ⟨ns, e, hn⟩ := firstBad_all h
      rcases pnum_nf u with z | ⟨n, z⟩
      · rw [z] at hw; cases hw
      · rw [z, wi_int] at hw
        have := of_decide_eq_true hw
        refine ⟨n :: ns, by rw [List.map_cons, List.map_cons, e, z], fun x hx => ?_⟩
        rcases List.mem_cons.mp hx with q | q
        · rw [q]; exact this
        · exact hn x q
theorem rw2_ok {u : Str} (h : rword 2 u = true) : ∃ ns : List Int, pws u = .tup (ns.map .int) ∧ ns.length ≤ 24 ∧ ∀ n ∈ ns, 1 ≤ n ∧ n ≤ 1000000 := by
  have h : isNon (twErr (.tup [.int 1, pws u])) = true := h
  rcases pws_cases u with e | ⟨us, e⟩
  · rw [e] at h; cases h
  · rw [e] at h ⊢
    have e2 : twErr (.tup [.int 1, .tup (us.map pnum)]) = if 24 < (us.map pnum).length then .tup [.non, .str "weights"] else firstBad 0 (us.map pnum) := rfl
    rw [e2] at h
    by_cases hl : 24 < (us.map pnum).length
    · rw [if_pos hl] at h; cases h
    · rw [if_neg hl] at h
      obtain ⟨ns, q, hn⟩ := firstBad_all h
      refine ⟨ns, by rw [q], ?_, hn⟩
      have := congrArg List.length q
      rw [List.length_map, List.length_map] at this
      rw [List.length_map] at hl; omega
theorem rw0_ok {u : Str} (h : rword 0 u = true) : ∃ n : Int, pnum u = .int n ∧ 1 ≤ n ∧ n ≤ 1000000 := by
  have h : wi (pnum u) 1 1000000 = true := h
  rcases pnum_nf u with z | ⟨n, z⟩
  · rw [z] at h; cases h
  · rw [z, wi_int] at h
    exact ⟨n, z, of_decide_eq_true h⟩
theorem badAt_le : ∀ {us : List Str} {k i : Nat}, badAt k us = some i → i < k + us.length
  | [], _, _, h => nomatch h
  | u :: us, k, i, h => by
    rw [badAt] at h
    split at h
    · have := badAt_le h; rw [List.length_cons]; omega
    · cases h; rw [List.length_cons]; omega
/-- what parse_tower gives: a place, or a tower -/
theorem ptw_cases (ws : List Str) : (∃ k : Nat, ptwL ws = .inl (.int (k : Nat)) ∧ k ≤ ws.length) ∨ ∃ t, Tw t ∧ ptwL ws = .inr (twD t) := by
  unfold ptwL
  cases hb : badAt 0 ws with
  | some k => exact .inl ⟨k, rfl, by have := badAt_le hb; omega⟩
  | none =>
    by_cases h3 : ws.length < 3
    · exact .inl ⟨ws.length, by rw [if_pos h3], Nat.le_refl _⟩
    · refine .inr ?_
      rw [if_neg h3]
      match ws, h3, hb with
      | w0 :: w1 :: w2 :: r, _, hb =>
        rw [badAt] at hb
        by_cases h0 : rword ((0 : Nat) : Int) w0 = true
        · rw [if_pos h0, badAt] at hb
          by_cases h1 : rword ((0 + 1 : Nat) : Int) w1 = true
          · rw [if_pos h1, badAt] at hb
            by_cases h2 : rword ((0 + 1 + 1 : Nat) : Int) w2 = true
            · obtain ⟨n, e1, a1, a2⟩ := rw0_ok h0
              obtain ⟨ns, e2, b1, b2⟩ := rw2_ok h2
              exact ⟨(n, ns), ⟨⟨a1, a2⟩, b1, b2⟩, by show Sum.inr (D.tup [pnum w0, pws w2]) = _; rw [e1, e2]; rfl⟩
            · rw [if_neg h2] at hb; cases hb
          · rw [if_neg h1] at hb; cases hb
        · rw [if_neg h0] at hb; cases hb
      | [], h3, _ => exact absurd (show (0 : Nat) < 3 by decide) h3
      | [_], h3, _ => exact absurd (show (1 : Nat) < 3 by decide) h3
      | [_, _], h3, _ => exact absurd (show (2 : Nat) < 3 by decide) h3
theorem ptow_cases (d : D) (hs : ∀ u, d = .str u → u.length ≤ 80000) : ptow d = .inl .non ∨ (∃ k : Nat, ptow d = .inl (.int (k : Nat)) ∧ k ≤ 80001) ∨ ∃ t, Tw t ∧ ptow d = .inr (twD t) := by
  cases d with
  | str u =>
    right
    rcases ptw_cases (Txt.split u (Str.ofString " ")) with ⟨k, e, h⟩ | ⟨t, h, e⟩
    · exact .inl ⟨k, e, by have := split_length (x := u) (y := Str.ofString " ") (by decide) (by decide +kernel); have := hs u rfl; omega⟩
    · exact .inr ⟨t, h, e⟩
  | _ => exact .inl rfl
/-! ### lengths of texts of towers -/
theorem len_wtxt2 {ws : List Int} (h : nn ws) : (wtxt ws).length ≤ 10 * ws.length + 1 := by
  rw [len_tl]
  by_cases e : ws = []
  · rw [tl_wtxt h, if_pos e]; simp
  · rw [show tl (wtxt ws) = joinL [44] ((ws.map dec).map tl) by unfold wtxt; rw [if_neg e, join_eq, tl_join]; rfl]
    have h1 := joinL_len ((ws.map dec).map tl)
    have h2 := sum_wtxt h
    have h3 : ((ws.map dec).map tl).map List.length = (ws.map dec).map (·.length) := by rw [List.map_map]; exact List.map_congr_left fun x _ => (len_tl x).symm
    rw [h3, List.length_map, List.length_map] at h1
    omega
theorem len_ttxt {e : Int} {ws : List Int} (he : 0 ≤ e ∧ e < 1000000000) (h : nn ws) : (ttxt e ws).length ≤ 10 * ws.length + 13 := by
  have h1 := len_wtxt2 h
  have h2 := dec_len he.1 he.2
  unfold ttxt
  rw [len_app, len_app, show (Str.ofString " / ").length = 3 from rfl]; omega
theorem repl_strs (u : Str) : ∀ n : Nat, (List.replicate n [D.str u]).flatten = (List.replicate n u).map .str
  | 0 => rfl
  | n + 1 => by rw [List.replicate_succ, List.flatten_cons, repl_strs u n, List.replicate_succ, List.map_cons]; rfl
end Dl
namespace Dl
open PySem PySem.Spec PyProof.Rows L2 TL
theorem isE_tw {S : Sto} (t : Int × List Int) : IsE S (twD t) ((t.1, ⟨t.2⟩) : Int × Tp Int) := isE ((t.1, ⟨t.2⟩) : Int × Tp Int)
theorem good_tw (t : Int × List Int) : Enc.good ((t.1, ⟨t.2⟩) : Int × Tp Int) := ⟨trivial, fun _ _ => trivial⟩
theorem tw_ext {t u : Int × List Int} : ((t.1, ⟨t.2⟩) : Int × Tp Int) = (u.1, ⟨u.2⟩) ↔ t = u := by
  constructor
  · intro h
    have h1 := congrArg Prod.fst h
    have h2 := congrArg (fun z : Int × Tp Int => z.2.l) h
    exact Prod.ext h1 h2
  · intro h; rw [h]
theorem r_eqTw {S : Sto} {R : QD} {t u : Int × List Int} : opEq (twD t) (twD u) S R = R (.bl (decide (t = u))) S :=
  eq_en (isE_tw t) (isE_tw u) (good_tw t) (good_tw u) (by decide) (by rw [decide_eq_true_eq]; exact tw_ext.symm)
theorem r_neTw {S : Sto} {R : QD} {t u : Int × List Int} : opNe (twD t) (twD u) S R = R (.bl (!decide (t = u))) S :=
  ne_en (isE_tw t) (isE_tw u) (good_tw t) (good_tw u) (by decide) (by rw [decide_eq_true_eq]; exact tw_ext.symm)
theorem r_neLS {S : Sto} {R : QD} {zs us : List Str} (h : ∀ z ∈ zs, okT z) (h2 : ∀ z ∈ us, okT z) : opNe (.lst (zs.map .str)) (.lst (us.map .str)) S R = R (.bl (!decide (zs = us))) S :=
  ne_en (isE zs) (isE us) (fun x hx => okT_iff.mpr (h x hx)) (fun x hx => okT_iff.mpr (h2 x hx)) (by decide) (by simp)
end Dl
/-! ### a, b, *rest = a list or a tuple -/
namespace DlSt
open PySem PySem.Spec PySem.W PySem.Calls PyProof.Rows L2
section
variable {prog : Program} {w : World} {A : Around} {E : Value → Shared → Prop} {s : Shared}
/-- the star stands last -/
theorem unp_tail {pr : Bool} {l : Addr} {xs : Array Value} {i : Nat} {Q : List Value → Shared → Prop} (hh : A.handled = none) (hi : i ≤ xs.size) (hz : xs.size ≤ 16384)
    (hl : if pr = true then s.heap.IsList l xs else IsTup s.heap l xs)
    (go : ∀ (h' : Heap) (tk : Nat) (D : Addr), (∀ b o, s.heap.get? b = some o → h'.get? b = some o) → s.heap.get? D = none → h'.get? D = some { cls := .type "list", data := .seq (xs.toList.drop i).toArray } → Q (xs.toList.take i ++ [.ref D]) { s with heap := h', toks := tk }) :
    wpAny (model prog w) A (unpackItems (.ref l) (i + 1) (some i)) Q E s := by
  have lens : (xs.toList.take i).length = i ∧ (xs.toList.drop i).length = xs.size - i := ⟨by rw [List.length_take, Array.length_toList]; omega, by rw [List.length_drop, Array.length_toList]⟩
  have done : ∀ (h2 : Heap) (tk : Nat), (∀ b o, b ≠ s.heap.objs.size → s.heap.get? b = some o → h2.get? b = some o) →
      wpAny (model prog w) A (newList ((xs.toList.drop i).take ((xs.toList.drop i).length - (i + 1 - 1 - i))) >>= fun d => pure (xs.toList.take i ++ [d] ++ (xs.toList.drop i).drop ((xs.toList.drop i).length - (i + 1 - 1 - i)))) Q E { s with heap := h2, toks := tk } := fun h2 tk hk => by
    have e0 : (xs.toList.drop i).length - (i + 1 - 1 - i) = (xs.toList.drop i).length := by omega
    rw [e0, List.take_length, List.drop_length]
    refine wpAny_bind (wpAny_newObj_type (wpAny_pure ?_))
    rw [List.append_nil]
    refine go _ tk _ (fun b o e => Heap.get?_push_of_some _ (hk b o (Nat.ne_of_lt (Heap.lt_size e)) e)) (by
      cases e : s.heap.get? h2.objs.size with
      | none => rfl
      | some o => exact absurd (Heap.lt_size (hk _ o (Nat.ne_of_lt (Heap.lt_size e)) e)) (Nat.lt_irrefl _)) (Heap.get?_push_size _ rfl)
  unfold unpackItems
  refine wpAny_bind ?_
  unfold notIterableAtAll
  cases pr with
  | true =>
    have hl : s.heap.IsList l xs := hl
    have hne : l ≠ s.heap.objs.size := by obtain ⟨o, q, _⟩ := hl; exact Nat.ne_of_lt (Heap.lt_size q)
    refine wpAny_bind (wpAny_specialOf hl.typeIs slot_list_iter.lookup (wpAny_pure ?_))
    simp only [Bool.false_eq_true, if_false]
    refine wpAny_bind (wpAny_holding (wpAny_pyIter_list hl (wpAny_bind (wpAny_holding (kun_draw hne i 0 _ _ ⟨_, Heap.get?_push_size _ rfl, rfl, rfl⟩ (hl.push _) (by omega) fun g1 it1 same1 => ?_)))))
    rw [Nat.zero_add] at it1
    have hl1 : g1.IsList l xs := (hl.push _).extBut same1.extBut hne
    obtain ⟨oi, qi, _⟩ := id it1
    obtain ⟨ol, ql, _⟩ := id hl1
    rw [List.drop_zero, if_neg (show ¬ ((xs.toList.take i).length < i) by rw [lens.1]; omega)]
    refine wpAny_bind (wpAny_holding (kun_collect (s := { s with heap := g1 }) (k := i) (.inr (.inr (.inl rfl))) (Walks.list (A := A.in1) hh s.heap.objs.size l hne xs) (fun j u st => st.1.typeIs) hi ⟨it1, hl1⟩ (Heap.lt_size qi) (Heap.lt_size ql) (fun g2 tk hk => ?_) (by rw [sizeLine_eq]; omega)))
    show wpAny _ _ (if (xs.toList.drop i).length < i + 1 - 1 - i then _ else _) _ _ _
    rw [if_neg (by omega)]
    have keep : ∀ b o, b ≠ s.heap.objs.size → s.heap.get? b = some o → g2.get? b = some o := fun b o hb e => hk b o hb (same1.extBut b o hb (Heap.get?_push_of_some _ e))
    exact done g2 tk keep
  | false =>
    have hl : IsTup s.heap l xs := hl
    have hne : l ≠ s.heap.objs.size := by obtain ⟨o, q, _⟩ := hl; exact Nat.ne_of_lt (Heap.lt_size q)
    refine wpAny_bind (wpAny_specialOf hl.typeIs slot_tuple_iter.lookup (wpAny_pure ?_))
    simp only [Bool.false_eq_true, if_false]
    refine wpAny_bind (wpAny_holding (iter_tuple hl (wpAny_bind (wpAny_holding (draw_tuple hne i 0 _ _ ⟨_, Heap.get?_push_size _ rfl, rfl, rfl⟩ (hl.push _) (by omega) fun g1 it1 same1 => ?_)))))
    rw [Nat.zero_add] at it1
    have hl1 : IsTup g1 l xs := (hl.push _).extBut same1.extBut hne
    obtain ⟨oi, qi, _⟩ := id it1
    obtain ⟨ol, ql, _⟩ := id hl1
    rw [List.drop_zero, if_neg (show ¬ ((xs.toList.take i).length < i) by rw [lens.1]; omega)]
    refine wpAny_bind (wpAny_holding (kun_collect (s := { s with heap := g1 }) (k := i) (.inr (.inr (.inr rfl))) (Walks.tuple (A := A.in1) hh s.heap.objs.size l hne xs) (fun j u st => st.1.typeIs) hi ⟨it1, hl1⟩ (Heap.lt_size qi) (Heap.lt_size ql) (fun g2 tk hk => ?_) (by rw [sizeLine_eq]; omega)))
    show wpAny _ _ (if (xs.toList.drop i).length < i + 1 - 1 - i then _ else _) _ _ _
    rw [if_neg (by omega)]
    have keep : ∀ b o, b ≠ s.heap.objs.size → s.heap.get? b = some o → g2.get? b = some o := fun b o hb e => hk b o hb (same1.extBut b o hb (Heap.get?_push_of_some _ e))
    exact done g2 tk keep
end
end DlSt

namespace Dl
open PySem PySem.Spec PyProof.Rows L2
theorem objOk_get {P : Program} {w : World} {H : Hp} {h : Heap} {a : Addr} {u : HO} (x : ObjOk P w H h a u) : ∃ o, h.get? a = some o := by
  cases u with
  | lst xs => obtain ⟨_, _, _, _, e⟩ := x; exact ⟨_, e⟩
  | tup xs => obtain ⟨_, _, _, o, e, _⟩ := x; exact ⟨_, e⟩
  | dK kvs => obtain ⟨_, _, _, _, o, _, _, e, _⟩ := x; exact ⟨_, e⟩
  | dT kvs => obtain ⟨_, _, _, _, o, _, _, e, _⟩ := x; exact ⟨_, e⟩
  | set S n => obtain ⟨o, _, _, _, e, _⟩ := x; exact ⟨_, e⟩
  | ins C dx fs => obtain ⟨_, _, _, e, _⟩ := x; exact ⟨_, e⟩
  | own y => obtain ⟨o, e⟩ := x; exact ⟨o, e⟩
  | xd fs => obtain ⟨_, ⟨_, _, _, e, _⟩, _⟩ := x; exact ⟨_, e⟩
  | rng lo hi => obtain ⟨_, _, _, e⟩ := x; exact ⟨_, e⟩
  | frz ob v => obtain ⟨e, _⟩ := x; exact ⟨_, e⟩
  | tbl ps => exact ⟨_, show h.get? a = some _ from x⟩
  | met f y => exact ⟨_, show h.get? a = some _ from x⟩
  | ext φ => obtain ⟨_, ⟨o, e⟩, _⟩ := x; exact ⟨o, e⟩
/-- (a, b, *rest) = a list or a tuple; rest a new list -/
def gStar (K : PySem.W.Frag) (i : Nat) (t : TGs) : TG := fun v σ H Q => ∃ a xs, v = .ref a ∧ (SqL K H a xs ∨ SqT K H a xs) ∧ i ≤ xs.length ∧ xs.length ≤ 16384 ∧ ∀ p, H p = none → t (xs.take i ++ [.ref p]) σ (upd H p (.lst (xs.drop i))) Q
theorem vals_take {vs : List V} {us : List Value} (r : Vals vs us) (i : Nat) : Vals (vs.take i) (us.take i) := by
  induction r generalizing i with
  | nil => simp; exact .nil
  | cons a _ ih => cases i with
    | zero => exact .nil
    | succ i => exact .cons a (ih i)
theorem vals_drop {vs : List V} {us : List Value} (r : Vals vs us) (i : Nat) : Vals (vs.drop i) (us.drop i) := by
  induction r generalizing i with
  | nil => simp; exact .nil
  | cons a r ih => cases i with
    | zero => exact .cons a r
    | succ i => exact ih i
theorem pg_star {X : Cx} {es : List Expr} {k i : Nat} {pos : Pos} {t : TGs} (hc : X.calm = true) (h : PGs X es t) (hn : (assignEach es X.env).length = i + 1) (hst : (assignEach es X.env).findIdx? (·.1) = some i) : PG X (.Tuple es k pos) (gStar X.K i t) := by
  refine ⟨fun pins s σ H v u Q I r hw => ?_⟩
  obtain ⟨a, xs, rfl, hq, h1, h2, hw⟩ := hw
  cases r
  rw [PyProof.Rows.assign_Tuple]
  refine wpAny_bind (wpAny_standAt ?_)
  unfold unpack
  rw [hn, hst]
  have fin : ∀ {its : List Value}, Vals xs its → ∀ (h' : Heap) (tk : Nat) (D : Addr), (∀ b o, s.heap.get? b = some o → h'.get? b = some o) → s.heap.get? D = none → h'.get? D = some { cls := .type "list", data := .seq (its.drop i).toArray } →
      wpAny (model X.prog X.w) X.A (assignInOrder ((assignEach es X.env).map (·.2)) (its.take i ++ [.ref D])) (fun _ s' => ∃ σ' H', Inv X pins σ' H' s' ∧ Q σ' H') X.xe { s with heap := h', toks := tk } := fun {its} rv h' tk D kk hD hl => by
    have hD0 : H D = none := by
      cases e : H D with
      | none => rfl
      | some u => obtain ⟨o, z⟩ := objOk_get (I.hok D u e); rw [hD] at z; cases z
    have I1 : Inv X pins σ (upd H D (.lst (xs.drop i))) { s with heap := h', toks := tk } := by
      refine I.laidN kk hD hD0 ?_
      exact ⟨by rw [List.length_drop]; have : (16384 : Nat) ≤ sizeLine := by decide
                omega, _, 0, vals_drop rv i, hl⟩
    exact h.run pins _ σ _ _ _ Q I1 ((vals_take rv i).append (.cons (show RelV (V.ref D) (Value.ref D) from rfl) .nil)) (hw D hD0)
  rcases hq with hq | hq
  · obtain ⟨its, rv, pl, hz⟩ := I.list hq
    have hl := rv.length
    refine wpAny_bind (wpAny_holding (DlSt.unp_tail (pr := true) (xs := its.toArray) (I.ok.hd hc) (by rw [List.size_toArray]; omega) (by rw [List.size_toArray]; omega) pl.isList fun h' tk D k1 k2 k3 => ?_))
    exact fin rv h' tk D k1 k2 k3
  · obtain ⟨its, rv, pl, hz⟩ := I.tuple hq
    have hl := rv.length
    refine wpAny_bind (wpAny_holding (DlSt.unp_tail (pr := false) (xs := its.toArray) (I.ok.hd hc) (by rw [List.size_toArray]; omega) (by rw [List.size_toArray]; omega) pl fun h' tk D k1 k2 k3 => ?_))
    exact fin rv h' tk D k1 k2 k3
section
variable {X : Cx} {W : WX} {e t : Expr} {es : List Expr} {p pos : Pos} {te : TED} {tas : TAD} {tg : TGD} {tgs : TGsD}
def gStarD (i : Nat) (t : TGsD) : TGD := fun d ρ S Q E => sqD S d fun ds => i ≤ ds.length ∧ ds.length ≤ 16384 ∧ t (ds.take i ++ [.lst (ds.drop i)]) ρ S Q E
theorem pgd_star {k i : Nat} (hc : X.calm = true) (h : PGsD X W es tgs) (hn : (assignEach es X.env).length = i + 1 := by rfl) (hst : (assignEach es X.env).findIdx? (·.1) = some i := by rfl) : PGD X W (.Tuple es k pos) (gStarD i tgs) :=
  PG_imp (pg_star hc h hn hst) fun v σ H Q h => by
    obtain ⟨d, ρ, S, R, E, hS, hρ, rd, ht, b1, b2⟩ := h
    obtain ⟨ds, a, vs, rfl, ha, q, h1, h2, ht⟩ := sqD_of hS ht rd
    refine ⟨a, vs, rfl, ha.imp SqL.of SqT.of, by rw [← q.len]; exact h1, by rw [← q.len]; exact h2, fun p hp => ?_⟩
    have S1 := hS.new (o := .lst (vs.drop i)) hp
    refine ⟨_, ρ, S, R, E, S1, (Ext.new hp).re hS hρ, ((q.take i).new hS hp).append (show rvs X.K _ S [D.lst (ds.drop i)] [V.ref p] from ⟨_, [], rfl, rv.lst_new hS hp (q.drop i), rfl⟩), ht, b1.ext (Ext.new hp), b2.ext (Ext.new hp)⟩
theorem pgsd_star (h1 : PGD X W t tg) (hs : (assignEach [.Starred t p] X.env).map (·.2) = [assign t X.env] := by rfl) : PGsD X W [.Starred t p] (gCons' tg gNil') := by
  refine PGs_imp (t := gCons (upG X.K W tg) gNil) ⟨fun pins s σ H vs us Q I r h => ?_⟩ fun vs σ H Q h => ?_
  · obtain ⟨v, vr, rfl, h⟩ := h
    cases r with
    | cons r rr =>
      rw [hs]
      have h := h1.run pins s σ H _ _ _ I r h
      refine assignInOrder_cons (thn h fun _ s1 ⟨σ1, H1, I1, q1⟩ => ?_)
      obtain ⟨rfl, q1⟩ := q1
      cases rr
      exact wpAny_pure ⟨σ1, H1, I1, q1⟩
  · obtain ⟨ds, ρ, S, R, E, hS, hρ, rd, ht, b1, b2⟩ := h
    cases ds with
    | nil => exact ht.elim
    | cons d ds =>
      obtain ⟨v, vr, rfl, r1, r2⟩ := rd
      refine ⟨v, vr, rfl, d, ρ, S, _, E, hS, hρ, r1, ht, fun ρ1 S1 z σ1 H1 e1 s1 q1 => ?_, b2⟩
      obtain ⟨rfl, z⟩ := z
      cases r2
      exact ⟨rfl, b1 ρ1 S1 z σ1 H1 e1 s1 q1⟩
/-! ### *e in a display, in a call -/
def dStar (te : TED) (ts : TAD) : TAD := fun ρ S R E => te ρ S (fun x S1 => sqD S1 x fun xs => ts ρ S1 (fun ys S2 => R (xs ++ ys) S2) E) E
theorem pad_star (he : PED X W e te) (hr : PAD X W es tas) (hs : starEach (.Starred e p :: es) X.env = (true, eval e X.env) :: starEach es X.env := by rfl) : PAD X W (.Starred e p :: es) (dStar te tas) :=
  PA_imp (StX.pa_star he hr hs) fun σ H Q h => by
    obtain ⟨ρ, S, R, E, hS, hρ, ht, bR, bx⟩ := h
    refine ⟨ρ, S, _, E, hS, hρ, ht, fun x S1 r1 H1 v e1 s1 v1 => ?_, bx⟩
    obtain ⟨ds, a, vs, rfl, ha, q, r1⟩ := sqD_of s1 r1 v1
    refine ⟨a, vs, rfl, (ha.imp SqL.of SqT.of).symm, ρ, S1, _, E, s1, e1.re hS hρ, r1, fun ys S2 r2 H2 us e2 s2 v2 => ?_, bx.ext e1⟩
    exact bR _ S2 r2 H2 _ (e1.trans e2) s2 ((e2.rvs s1 _ _ q).append v2)
end
end Dl
namespace Dl
open PySem PySem.Spec PyProof.Rows L2
section
variable {X : Cx} {W : WX} {a b c e o : Expr} {es rest : List Expr} {pos p : Pos} {ta tb tc te to : TED} {tas tbs : TAD} {tt tu : TTD} {sts sts2 : List Stmt} {t u : TSD}
/-! ### if (x := e) is None: .. -/
def sIfN (i : Nat) (te : TED) (t u : TSD) : TSD := fun D ρ S => te ρ S (fun x S1 => if isNon x = true then t D (ρ.set i (some x)) S1 else u D (ρ.set i (some x)) S1) (fun z S1 => D.xc z ρ S1)
def wIsN (t : TEw) : TTw := fun σ H Q => t σ H fun x σ1 H1 => Q (decide (x = .non)) σ1 H1
theorem ptw_isN {j pos' t} (ha : PEw X a t) : PTw X (.Compare a [.Is] [.Constant .none j pos'] pos) (wIsN t) := by
  refine ⟨fun pins s σ H Q I hw => ?_⟩
  refine wpAny_isTrue_Compare1 (thn (ha.run pins s σ H _ I hw) fun v s1 ⟨x, σ1, H1, I1, r1, q1⟩ => ?_) rfl
  exact Constant_none (is_none_gen (wpAny_truthy_bool ⟨σ1, H1, I1, by rw [r1.none_iff]; exact q1⟩))
theorem psd_ifN {x : Str} {px np cp : Pos} {j} (i : Nat) (hN : X.N.Nodup) (he : PED X W e te) (ha : PSsD X W sts t) (hb : PSsD X W sts2 u) (hi : X.N[i]? = some x := by rfl) (hx : Loc X.env.scope x := by first | exact Or.inl rfl | exact Or.inr rfl)
    (hf : X.fn x = true ∨ X.env.scope.names.lookup x = some .local := by first | exact .inl rfl | exact .inr rfl | assumption) : PSD X W (.If (.Compare (.NamedExpr (.Name x px) e np) [.Is] [.Constant .none j cp] p) sts sts2 pos) (sIfN i te t u) := by
  refine PS_imp (ps_ifW (ptw_isN (pew_named hN hi hx (pew_of he) hf)) ha hb) fun D σ H h => ?_
  obtain ⟨ρ, S, R, hS, hρ, ht, b1, b2, b3, b4, b5⟩ := upS_eq.mp h
  refine ⟨ρ, S, _, _, hS, hρ, ht, fun x S1 r1 H1 v e1 s1 v1 => ?_, b5.at hS hρ⟩
  have hρ1 := (e1.re hS hρ).set v1 i
  have r1 : if isNon x = true then t R (ρ.set i (some x)) S1 else u R (ρ.set i (some x)) S1 := r1
  show if decide (v = V.non) = true then _ else _
  rw [v1.isN]
  cases hk : isNon x with
  | true =>
    rw [hk, if_pos rfl] at r1
    rw [if_pos rfl]
    exact upS_eq.mpr ⟨_, S1, R, s1, hρ1, r1, b1.ext e1, b2.ext e1, b3.ext e1, b4.ext e1, b5.ext e1⟩
  | false =>
    rw [hk, if_neg Bool.false_ne_true] at r1
    rw [if_neg Bool.false_ne_true]
    exact upS_eq.mpr ⟨_, S1, R, s1, hρ1, r1, b1.ext e1, b2.ext e1, b3.ext e1, b4.ext e1, b5.ext e1⟩
/-! ### max, min of a list -/
def cMaxL : RCD := fun ds S R => one ds fun x => lsD S x fun es => ∃ ns, insD es = some ns ∧ ns ≠ [] ∧ ∀ m, m ∈ ns → (∀ y ∈ ns, y ≤ m) → R (.int m) S
theorem cd_maxL (hc : X.calm = true) : CallR X (.builtin "max") (upC X.K cMaxL) := by
  refine CallR_imp (cr_max hc) fun vs H Q h => ?_
  obtain ⟨ds, S, R, hS, q, r, bR⟩ := h
  obtain ⟨x, rfl, r⟩ := one_of r
  obtain ⟨v, rfl, rx⟩ := q.one
  obtain ⟨es, p, ws, rfl, hp, q, ns, hn, h0, h⟩ := lsD_of hS r rx
  have e := insD_of hn
  subst e
  rw [q.ints] at hp
  exact ⟨p, ns, rfl, SqL.of hp, List.length_pos_iff.mpr h0, fun m h1 h2 => bR _ S (h m h1 h2) H _ (Ext.refl _ _) hS rfl⟩
/-- pairs of ints, by their order -/
def pairD (z : Int × Int) : D := .tup [.int z.1, .int z.2]
def pairP (z : Int × Int) : PyData := .tuple [.int z.1, .int z.2]
def ltP2 (a b : Int × Int) : Bool := decide (a.1 < b.1) || (decide (a.1 = b.1) && decide (a.2 < b.2))
def minP (x : Int × Int) (xs : List (Int × Int)) : Int × Int := xs.foldl (fun a y => if ltP2 y a = true then y else a) x
theorem pairP_inj {z z' : Int × Int} (h : pairP z = pairP z') : z = z' := by
  unfold pairP at h
  injection h with h
  injection h with h1 h2
  injection h2 with h2 _
  injection h1 with h1
  injection h2 with h2
  exact Prod.ext h1 h2
theorem dataLt_pair (a b : Int × Int) : PySem.W.dataLt (pairP a) (pairP b) = ltP2 a b := by
  have il : ∀ x y : Int, PyProof.Rows.itemOrd.blt (Sum.inl x) (Sum.inl y) = decide (x < y) := fun _ _ => rfl
  have e : PySem.W.dataLt (pairP a) (pairP b) = (decide (a.1 < b.1) || (!decide (b.1 < a.1) && decide (a.2 < b.2))) := by
    unfold PySem.W.dataLt pairP
    have il2 : ∀ x y : Int, PyProof.Rows.itemLt (Sum.inl x) (Sum.inl y) = decide (x < y) := fun _ _ => rfl
    simp only [PySem.W.keyToks, PySem.W.keyToksAll, List.cons_append, List.nil_append, PyProof.Rows.lexLt, il]
    simp [il2]
  rw [e]
  unfold ltP2
  by_cases h1 : a.1 < b.1
  · simp [h1]
  · by_cases h2 : b.1 < a.1
    · have h3 : a.1 ≠ b.1 := by omega
      simp [h1, h2, h3]
    · have h3 : a.1 = b.1 := by omega
      simp [h1, h2, h3]
theorem minD_pair : ∀ (xs : List (Int × Int)) (x : Int × Int), PySem.W.minD (pairP x) (xs.map pairP) = pairP (minP x xs)
  | [], _ => rfl
  | y :: ys, x => by
    have h := minD_pair ys (if ltP2 y x = true then y else x)
    have e : PySem.W.minD (pairP x) ((y :: ys).map pairP) = PySem.W.minD (if PySem.W.dataLt (pairP y) (pairP x) = true then pairP y else pairP x) (ys.map pairP) := rfl
    rw [e, dataLt_pair, show (if ltP2 y x = true then pairP y else pairP x) = pairP (if ltP2 y x = true then y else x) by split <;> rfl, h]
    rfl
theorem alike_pairs (xs : List (Int × Int)) : PySem.W.AlikeAll (xs.map pairP) := by
  refine ⟨fun x hx y hy => ?_, fun x hx => ?_⟩
  · obtain ⟨a, _, rfl⟩ := List.mem_map.mp hx
    obtain ⟨b, _, rfl⟩ := List.mem_map.mp hy
    rfl
  · obtain ⟨a, _, rfl⟩ := List.mem_map.mp hx
    exact fun z => nomatch z
theorem depth_pairs : ∀ xs : List (Int × Int), PyData.depthAll (xs.map pairP) ≤ 1
  | [] => by simp [PyData.depthAll]
  | x :: xs => by
    have h := depth_pairs xs
    rw [List.map_cons, PyData.depthAll]
    have : (pairP x).depth = 1 := by simp [pairP, PyData.depth, PyData.depthAll]
    omega
theorem pys_pairs (xs : List (Int × Int)) : pys (xs.map pairD) = some (xs.map pairP) := pys_map (fun _ => rfl) xs
theorem vals_back : ∀ {vs : List V} {us : List Value} {i : Nat} {u : Value}, Vals vs us → us[i]? = some u → ∃ v, vs[i]? = some v ∧ RelV v u
  | _, _, _, _, .nil, e => by simp at e
  | _, _, 0, _, .cons r _, e => by cases e; exact ⟨_, rfl, r⟩
  | _, _, i + 1, _, .cons _ r, e => vals_back (i := i) r (by simpa using e)
def cMinP : RCD := fun ds S R => one ds fun x => lsD S x fun es => ∃ p ps, es = (p :: ps).map pairD ∧ R (pairD (minP p ps)) S
theorem cd_minP (hc : X.calm = true) (hu : X.A.units + 64 < cLine) : CallR X (.builtin "min") (upC X.K cMinP) := by
  intro pins s σ H vs us Q I r h
  obtain ⟨ds, S, R, hS, q, h, bR⟩ := h
  obtain ⟨x, rfl, h⟩ := one_of h
  obtain ⟨v, rfl, rx⟩ := q.one
  obtain ⟨es, a, ws, rfl, hp, q, z, zs, rfl, h⟩ := lsD_of hS h rx
  obtain ⟨its, rv', hl, _⟩ := I.list (SqL.of hp)
  rw [Vals.ref1 r]
  obtain ⟨as, hr⟩ := Dp.readsAll I _ _ _ (pys_dp _ _ _ (pys_pairs (z :: zs)) q) rv'
  have e0 : (z :: zs).map pairP = pairP z :: zs.map pairP := rfl
  rw [e0] at hr
  refine PySem.W.min_list_data (I.ok.hd hc) hl.isList (vs := its.toArray) (by simpa using hr) (by rw [← e0]; exact alike_pairs _) (by rw [← e0]; have := depth_pairs (z :: zs); omega) fun i u h' tk bs hi hrd kk => ?_
  rw [minD_pair] at hrd
  have hi' : its[i]? = some u := by simpa using hi
  obtain ⟨wv, hw, ru⟩ := vals_back rv' hi'
  obtain ⟨d, hd, rd⟩ := q.back hw
  rw [List.getElem?_map] at hd
  obtain ⟨z', hz', rfl⟩ := Option.map_eq_some_iff.mp hd
  have J : Inv X pins σ H { s with heap := h', toks := tk } := I.kept kk
  obtain ⟨as2, r2⟩ := Dp.reads J _ _ _ (py_dp _ _ _ (show py (pairD z') = some (pairP z') from rfl) rd) ru
  have e := (Reads.unique r2 _ _ hrd).1
  have e' := pairP_inj e
  subst e'
  exact ⟨wv, H, J, ru, bR _ S h H wv (Ext.refl _ _) hS rd⟩
/-! ### pop, count -/
def mPop : RMD := fun x ds S R => match x with
  | .ref a => (match ds with
    | [] => (match S a with
      | some (.lst es) => ∃ d, es.getLast? = some d ∧ R d (put S a (.lst es.dropLast))
      | _ => False)
    | _ => False)
  | _ => False
theorem md_pop : MtR X "list.pop" (upM X.K mPop) := by
  refine MtR_imp mt_pop fun v vs H Q h => ?_
  obtain ⟨x, ds, S, R, hS, rx, q, r, bR⟩ := h
  cases x with
  | ref a =>
    cases rx
    unfold mPop at r
    cases ds with
    | cons _ _ => exact r.elim
    | nil =>
      cases q
      cases ha : S a with
      | none => simp only [ha] at r
      | some o =>
        cases o with
        | lst es =>
          simp only [ha] at r
          obtain ⟨d, hd, r⟩ := r
          obtain ⟨ws, hw, qw⟩ := hS a _ ha
          have c : S a ≠ none ∨ H a = none := .inl (by rw [ha]; exact fun z => nomatch z)
          have ex : Ext H S (upd H a (.lst ws.dropLast)) (put S a (.lst es.dropLast)) := Ext.put c
          rw [List.getLast?_eq_getElem?] at hd
          obtain ⟨u, hu, ru⟩ := qw.get hd
          rw [qw.len] at hu
          refine ⟨a, ws, u, rfl, rfl, hw, hu, bR _ _ r _ _ ex (hS.put c (by rw [ha]; rfl) ⟨_, upd_same, ?_⟩) (ex.rv hS _ _ ru)⟩
          have z := ex.rvs hS _ _ (qw.take (es.length - 1))
          have e1 : es.take (es.length - 1) = es.dropLast := List.dropLast_eq_take.symm
          have e2 : ws.take (es.length - 1) = ws.dropLast := by rw [qw.len]; exact List.dropLast_eq_take.symm
          rw [e1, e2] at z
          exact z
        | _ => simp only [ha] at r
  | _ => exact r.elim
/-! ### sorted(ints): of a list, of a tuple -/
theorem sorted_tup {prog : Program} {w : World} {A : Around} {E : Value → Shared → Prop} {s : Shared} {l : Addr} {vs : List Value} {ns : List Int} {Q : Value → Shared → Prop} (hl : IsTup s.heap l vs.toArray) (hi : IntsAre vs ns) (hz : vs.length ≤ sizeLine)
    (go : ∀ (h' : Heap) (p : Addr) (out : List Value) (ns' : List Int) (n : Nat), (∀ b o, s.heap.get? b = some o → h'.get? b = some o) → s.heap.get? p = none → h'.get? p = some { cls := .type "list", data := .seq out.toArray n } → IntsAre out ns' → ns'.Perm ns → ns'.Pairwise (· ≤ ·) → Q (.ref p) { s with heap := h' }) :
    wpAny (model prog w) A (call (.builtin "sorted") [.ref l]) Q E s := by
  obtain ⟨o, ho, hc, n, hd⟩ := hl
  refine Calls.call_function_entry PyProof.Rows.kind_sorted PyProof.Rows.plain_sorted PyProof.Rows.entry_sorted (PyProof.Rows.args_sorted1 _) ?_
  unfold Builtin.«sorted»
  refine wpAny_bind (m := checkCount "sorted" 1 1 _) (wpAny_pure ?_)
  refine wpAny_bind (wpAny_collect_seq l (.inr rfl) ho hc hd (fun g hk => ?_) (by simpa using hz))
  refine wpAny_bind (wpAny_newList ?_ (by simpa using hz))
  have at0 : (g.push (seqObj "list" vs.toArray 0)).get? g.objs.size = some (seqObj "list" vs.toArray 0) := Heap.get?_push_size _ rfl
  have fresh : ∀ b o, s.heap.get? b = some o → b < g.objs.size := fun b o e => Heap.lt_size (hk b o e)
  have e0 : (vs.toArray.toList) = vs := by simp
  show wpAny _ _ _ _ _ { s with heap := g.push (seqObj "list" vs.toArray.toList.toArray 0) }
  rw [e0]
  refine wpAny_bind (wpAny_holding (wpAny_call_entry PyProof.Rows.slot_list_sort ⟨_, at0, rfl⟩ PyProof.Rows.entry_list_sort (SrtO.list_sort_ord SrtO.swo_int at0 hz (fun h2 => SrtO.ints_sortable hi h2) fun out h1 h2 => ⟨_, rfl, ?_⟩) (PyProof.Rows.args_list_sort _)))
  obtain ⟨k1, k2, k3⟩ := SrtO.ints_out hi h1 h2
  obtain ⟨ep, he⟩ := PyProof.Rows.sortedHeap_at (vs := vs) (out := out.toArray) at0
  refine wpAny_pure ⟨_, rfl, go _ _ out _ ep (fun b o e => ?_) ?_ he k1 k2 k3⟩
  · have hb := fresh b o e
    rw [PyProof.Rows.sortedHeap_old (Nat.ne_of_lt hb) (by rw [PyProof.Rows.size_push']; exact Nat.lt_succ_of_lt hb)]
    exact Heap.get?_push_of_some _ (hk b o e)
  · cases e : s.heap.get? g.objs.size with
    | none => rfl
    | some o => exact absurd (fresh _ _ e) (Nat.lt_irrefl _)
def cSortI : RCD := fun ds S R => one ds fun x => sqD S x fun es => ∃ ns, insD es = some ns ∧ ∀ ns' : List Int, ns'.Perm ns → ns'.Pairwise (· ≤ ·) → R (.lst (ns'.map .int)) S
theorem cd_sortI : CallR X (.builtin "sorted") (upC X.K cSortI) := by
  intro pins s σ H vs us Q I r h
  obtain ⟨ds, S, R, hS, q, h, bR⟩ := h
  obtain ⟨x, rfl, h⟩ := one_of h
  obtain ⟨v, rfl, rx⟩ := q.one
  obtain ⟨es, a, ws, rfl, hp, q, ns, hn, h⟩ := sqD_of hS h rx
  have e := insD_of hn
  subst e
  rw [q.ints] at hp
  rcases hp with hp | hp
  · refine cr_sortedI pins s σ H [.ref a] us Q I r ⟨a, ns, rfl, SqL.of hp, fun ns' p k1 k2 k3 => ?_⟩
    exact bR _ S (h ns' k1 k2) _ _ (Ext.new k3) (hS.new k3) (rv.lst_new hS k3 rvs.of_ints)
  · obtain ⟨its, rv', hl, hz⟩ := I.tuple (SqT.of hp)
    rw [Vals.ref1 r]
    refine sorted_tup hl rv'.ints (by rw [← rv'.length]; exact hz) fun h' p out ns' n kk hpn hl' hi' k1 k2 => ?_
    have hp0 : H p = none := by
      cases e : H p with
      | none => rfl
      | some u => obtain ⟨o, z⟩ := objOk_get (I.hok p u e); rw [hpn] at z; cases z
    have hlen : (ns'.map V.int).length ≤ sizeLine := by
      rw [List.length_map, k1.length_eq]; rw [List.length_map] at hz; exact hz
    refine ⟨.ref p, upd H p (.lst (ns'.map V.int)), I.laidN (t' := s.toks) kk hpn hp0 ⟨hlen, out, n, vals_of_ints hi', hl'⟩, rfl, ?_⟩
    exact bR _ S (h ns' k1 k2) _ _ (Ext.new hp0) (hS.new hp0) (rv.lst_new hS hp0 rvs.of_ints)
/-! ### try, where the body lets nothing out -/
def sTryDead (tb : TSD) : TSD := fun D ρ S => tb { D with xc := fun _ _ _ => False } ρ S
theorem psd_tryDead {body : List Stmt} {h₀ : ExceptHandler} {hs : List ExceptHandler} {tb : TSD} (hb : ∀ (W' : WX) (pn : List (Addr × Obj)) (xe : Value → Shared → Prop), Takes (X.tr pn xe) W' → PassesOwn (model X.prog X.w) X.A X.env xe → PSsD (X.tr pn xe) W' body tb) : PSD X W (.Try body (h₀ :: hs) [] [] pos) (sTryDead tb) := by
  refine ⟨fun pins s σ H D I h => ?_⟩
  obtain ⟨ρ, S, R, hS, hρ, ht, b1, b2, b3, b4, b5⟩ := upS_eq.mp h
  refine wpAny_Try_except (wpAny_mono ((hb W0 (X.pn ++ pins) (fun e s₁ => wpAny (model X.prog X.w) X.A (noteFrame e X.env) (fun _ s₂ => wpAny (model X.prog X.w) X.A (setFlight e none) (fun _ s₃ =>
    wpAny (model X.prog X.w) X.A (handleBy e X.env (h₀ :: hs)) (SP X pins D) X.xe s₃) X.xe s₂) X.xe s₁) (fun u s' xx => ?_) PassesOwn.looking).run [] s σ H D (I.toTry _) ?_) (fun f s1 hsp => ?_) fun e s1 he => he)
  · obtain ⟨a, B, sI, pins', σ', H', cls, d, _, _, _, _, _, _, _, _, z⟩ := xx
    exact z.elim
  · exact upS_eq.mpr ⟨ρ, S, _, hS, hρ, ht, b1, b2, b3, b4, fun y ρ' S' r => r.elim⟩
  · have ok := I.ok
    cases f with
    | next =>
      obtain ⟨σ', H', J', q⟩ := hsp
      exact wpAny_execs_nil ⟨σ', H', J'.ofTry ok, q⟩
    | brk => obtain ⟨σ', H', J', q⟩ := hsp; exact ⟨σ', H', J'.ofTry ok, q⟩
    | cont => obtain ⟨σ', H', J', q⟩ := hsp; exact ⟨σ', H', J'.ofTry ok, q⟩
    | ret u => obtain ⟨v, σ', H', J', rr, q⟩ := hsp; exact ⟨v, σ', H', J'.ofTry ok, rr, q⟩
end
end Dl
namespace Dl
open PySem PySem.Spec PyProof.Rows L2
section
variable {P : Program} {w : World} {K : PySem.W.Frag} {mg : Str → Option Value} {base : Heap} {k : Nat} {B C m : Str} {ps : List Str} {sp : SpD} {xs : List InD}
/-- an inherited method, property -/
def inIh (xs : List InD) (C m B : Str) : Bool := ((inFind xs C).map fun e => e.inh.contains (m, B)).getD false
theorem inIh_ok (T : InT K xs) (h : inIh xs C m B = true) : pA K C m = pA K B m := by
  unfold inIh at h
  cases e : inFind xs C with
  | none => rw [e] at h; cases h
  | some d =>
    rw [e] at h
    obtain ⟨F, rfl⟩ := inFind_ok T e
    exact F.ih (m, B) (by simpa using h)
theorem CalM.inh (c : CalM P w K mg base k B m ps sp) (T : InT K xs) (h : inIh xs C m B = true := by decide +kernel) : CalM P w K mg base k C m ps sp := by
  obtain ⟨fd, F, b⟩ := c.ex
  have e : He.ma K (He.ga K C) m = He.ma K (He.ga K B) m := inIh_ok T h
  exact ⟨fd, by rw [e]; exact F, b⟩
theorem CalP.inh (c : CalP P w K mg base k B m sp) (T : InT K xs) (h : inIh xs C m B = true := by decide +kernel) : CalP P w K mg base k C m sp := by
  obtain ⟨fd, F, b⟩ := c.ex
  have e : pG K C m = pG K B m := by unfold pG; rw [inIh_ok T h]
  exact ⟨fd, by rw [e]; exact F, b⟩
def inCm (xs : List InD) (C f : Str) : Bool := ((inFind xs C).map fun e => e.cms.contains f).getD false
theorem inCm_ok (T : InT K xs) (h : inCm xs C m = true) : ClX.CRead K (He.ga K C) (.type "type") ∧ ClX.CMet K (He.ga K C) (.type "type") m (pA K C m) (cG K C m) := by
  unfold inCm at h
  cases e : inFind xs C with
  | none => rw [e] at h; cases h
  | some d =>
    rw [e] at h
    obtain ⟨F, rfl⟩ := inFind_ok T e
    exact F.cm m (by simpa using h)
end
/-- the classmethod that C finds under m keeps sp -/
structure CalCm (P : Program) (w : World) (K : PySem.W.Frag) (mg : Str → Option Value) (base : Heap) (k : Nat) (C m : Str) (ps : List Str) (sp : SpD) : Prop where
  ex : ∃ fd, FnD P w K mg base k (cG K C m) fd ps sp ∧ Binds K fd ps []
section
variable {P : Program} {w : World} {K : PySem.W.Frag} {mg : Str → Option Value} {base : Heap} {C m x qual : Str} {st : Stmt} {N ps : List Str} {k : Nat} {sp : SpD}
theorem calCm (F : ∃ fd, FunD K x qual (defArgs st) (defBody st) (defScope st) [] [] (cG K C m) fd) (Sc : FnScope N ps (defScope st)) (len : ∀ ds S R E, sp ds S R E → ds.length = ps.length) (tB : TSD)
    (hb : ∀ (cdv : Value) (A : Around) (outer : List PySem.Env) (s : Shared) (H : Hp) (E : XK), Room k (A.deeper (envOfC qual (defScope st) s.heap.objs.size (cG K C m) cdv)) → A.guards = some [] →
      Takes (cxOf (L2.CX P w) P w K mg base N qual (defScope st) (cG K C m) cdv A outer s H E) (WF E) →
      PSsD (cxOf (L2.CX P w) P w K mg base N qual (defScope st) (cG K C m) cdv A outer s H E) (WF E) (defBody st) tB)
    (pure : ∀ ds S R E, sp ds S R E → tB (endsF K R E) (startD N ds) S)
    (hbd : ∀ (kV doc pm : Value) (an : Option Addr) (cdv ct : Value) (us : List Value), us.length = ps.length → bindArgs (PySem.W.fnOf x qual (defArgs st) (defBody st) (defScope st) .none kV doc pm an cdv ct) ⟨us, []⟩ = Pure.pure (ps.zip us)) : CalCm P w K mg base (k + 1) C m ps sp := by
  obtain ⟨fd, Fd⟩ := F
  exact ⟨fd, fnD Fd Sc len tB hb pure, Fd.bindsN hbd⟩
/-- .. a method whose reading may look at the heap -/
theorem calMO (F : ∃ fd, FunD K x qual (defArgs st) (defBody st) (defScope st) [] [] (He.ma K (He.ga K C) m) fd) (Sc : FnScope N ps (defScope st)) (len : ∀ ds S R E, sp ds S R E → ds.length = ps.length) (tB : TSD)
    (hb : ∀ (cdv : Value) (A : Around) (outer : List PySem.Env) (s : Shared) (H : Hp) (E : XK), Room k (A.deeper (envOfC qual (defScope st) s.heap.objs.size (He.ma K (He.ga K C) m) cdv)) → A.guards = some [] →
      Takes (cxOf (L2.CX P w) P w K mg base N qual (defScope st) (He.ma K (He.ga K C) m) cdv A outer s H E) (WF E) →
      PSsD (cxOf (L2.CX P w) P w K mg base N qual (defScope st) (He.ma K (He.ga K C) m) cdv A outer s H E) (WF E) (defBody st) tB)
    (pure : ∀ H ds S R E, RS K H S → sp ds S R E → ∃ S2, RS K H S2 ∧ (∀ a, S a = none → S2 a = none) ∧ tB (endsF K R E) (startD N ds) S2)
    (hbd : ∀ (kV doc pm : Value) (an : Option Addr) (cdv ct : Value) (us : List Value), us.length = ps.length → bindArgs (PySem.W.fnOf x qual (defArgs st) (defBody st) (defScope st) .none kV doc pm an cdv ct) ⟨us, []⟩ = Pure.pure (ps.zip us)) : CalM P w K mg base (k + 1) C m ps sp := by
  obtain ⟨fd, Fd⟩ := F
  exact ⟨fd, fnDO Fd Sc len tB hb pure, Fd.bindsN hbd⟩
theorem calPO (F : ∃ fd, FunD K x qual (defArgs st) (defBody st) (defScope st) [] [] (pG K C m) fd) (Sc : FnScope N ["self"] (defScope st)) (len : ∀ ds S R E, sp ds S R E → ds.length = (["self"] : List Str).length) (tB : TSD)
    (hb : ∀ (cdv : Value) (A : Around) (outer : List PySem.Env) (s : Shared) (H : Hp) (E : XK), Room k (A.deeper (envOfC qual (defScope st) s.heap.objs.size (pG K C m) cdv)) → A.guards = some [] →
      Takes (cxOf (L2.CX P w) P w K mg base N qual (defScope st) (pG K C m) cdv A outer s H E) (WF E) →
      PSsD (cxOf (L2.CX P w) P w K mg base N qual (defScope st) (pG K C m) cdv A outer s H E) (WF E) (defBody st) tB)
    (pure : ∀ H ds S R E, RS K H S → sp ds S R E → ∃ S2, RS K H S2 ∧ (∀ a, S a = none → S2 a = none) ∧ tB (endsF K R E) (startD N ds) S2)
    (hbd : ∀ (kV doc pm : Value) (an : Option Addr) (cdv ct : Value) (us : List Value), us.length = (["self"] : List Str).length → bindArgs (PySem.W.fnOf x qual (defArgs st) (defBody st) (defScope st) .none kV doc pm an cdv ct) ⟨us, []⟩ = Pure.pure ((["self"] : List Str).zip us)) : CalP P w K mg base (k + 1) C m sp := by
  obtain ⟨fd, Fd⟩ := F
  exact ⟨fd, fnDO Fd Sc len tB hb pure, Fd.bindsN hbd⟩
end
section
variable {X : Cx} {W : WX} {o e fe : Expr} {es : List Expr} {to te tf : TED} {tas : TAD} {xs : List InD} {f m C : Str} {pos p apos : Pos} {k j : Nat} {ps : List Str} {sp : SpD}
/-- a store that says less, ahead of a statement; the heap may be looked at -/
def sOpen (K : PySem.W.Frag) (t : TSD) : TSD := fun D ρ S => ∀ H, RS K H S → ∃ S1, RS K H S1 ∧ (∀ a, S a = none → S1 a = none) ∧ t D ρ S1
theorem psd_open {st : Stmt} {t : TSD} {Kx : PySem.W.Frag} (eK : X.K = Kx) (h : PSD X W st t) : PSD X W st (sOpen Kx t) := eK ▸ PS_imp h fun D σ H h => by
  obtain ⟨ρ, S, R, hS, hρ, ht, b1, b2, b3, b4, b5⟩ := upS_eq.mp h
  obtain ⟨S1, s1, n1, ht⟩ := ht H hS
  have x : Ext H S H S1 := Ext.ofNone n1
  exact upS_eq.mpr ⟨ρ, S1, R, s1, x.re hS hρ, ht, b1.ext x, b2.ext x, b3.ext x, b4.ext x, b5.ext x⟩
/-! ### C.m(e, ..), m a classmethod -/
def dCmeth (xs : List InD) (C m : Str) (sp : SpD) (tas : TAD) : TED := fun ρ S R E => inCm xs C m = true ∧ tas ρ S (fun ds S1 => sp (.glo C :: ds) S1 R E) E
theorem ped_cmeth {pl : Sem Bool} {np : Pos} (T : InT X.K xs) (M : CalCm X.prog X.w X.K X.mg X.base k C m ps sp) (hr : Room j X.A) (hgd : X.A.guards = some []) (tk : Takes X W) (hm : X.mg C = some (eC X.K C)) (ha : PAD X W (e :: es) tas) (hj : k ≤ j := by decide) (hg : Gl X C := by rfl) (hdb : (C == ("__debug__" : Str)) = false := by decide)
    (hst : starEach (e :: es) X.env = (false, eval e X.env) :: starEach es X.env := by rfl) (hpl : (backTo pos (starEach es X.env)).any (·.1) = false := by rfl)
    (ht : eval (.Call (.Attribute (.Name C np) m apos) (e :: es) [] pos) X.env = (do
      let ov ← eval (.Name C np) X.env
      standAt apos.atName
      let (f, first) ← holding [ov] (getMethod ov m pl)
      callWith pos f first (backTo pos (starEach (e :: es) X.env)) (backToKw pos (keywordEach [] X.env))) := by rfl) : PED X W (.Call (.Attribute (.Name C np) m apos) (e :: es) [] pos) (dCmeth xs C m sp tas) := by
  refine ⟨fun pins s σ H Q I h => ?_⟩
  obtain ⟨ρ, S, R, E, hS, hρ, ⟨hc, hto⟩, bR, bx⟩ := h
  obtain ⟨c1, c2⟩ := inCm_ok T hc
  obtain ⟨fd, F, hb⟩ := M.ex
  refine PySem.W.methodCall_KW (pl := pl) (ld_glob I hg hm ?_ hdb) ht
  refine ClX.getmethcm_ok I c1 c2 fun s2 I2 => ?_
  refine ClX.callwith_cm I2 (ClX.base_none I (Nat.le_refl _)) c2.fi (thn (ha.run pos _ s2 σ H (fun ws H2 => upSp X.K sp (.ref (He.ga X.K C) :: ws) H2 Q (WE W σ)) I2 ⟨ρ, S, _, E, hS, hρ, hto, fun ds' S2 r2 H2 ws e2 s2' v2 => ?_, bx⟩) fun us s3 ⟨vs, H2, I3, rv, q2⟩ => ⟨⟨ClX.pin_at I3, I3.kIn⟩, ?_⟩) hst hpl
  · exact upSp_of (ds := .glo C :: ds') s2' ⟨.ref (He.ga X.K C), ws, rfl, rfl, v2⟩ r2 (bR.ext e2) (bx.ext e2)
  · have hl : (Value.ref (He.ga X.K C) :: us ++ []).length = ps.length := by
      rw [List.append_nil]
      have := F.lenV q2
      simp only [List.length_cons] at this ⊢
      rw [← rv.length]; exact this
    have hb' := hb s3 (.ref (He.ga X.K C) :: us) I3.kIn hl
    rw [List.append_nil] at hb'
    refine wpAny_mono (Q := EP X ((s.heap.objs.size, PySem.W.methodObj (.ref (cG X.K C m)) (.ref (He.ga X.K C))) :: pins) σ Q) (wpAny_call (PySem.W.method_call (ClX.pin_at I3) (codeAny_mono (F.run X.A X.stack s3 H2 ⟨.ref (He.ga X.K C) :: us, []⟩ (.ref (He.ga X.K C) :: us) (.ref (He.ga X.K C) :: vs) Q (WE W σ) (hr.mono hj) hgd I3.env0 hb' (.cons rfl rv) q2) fun r s' hq => ?_))) (fun _ _ y => ClX.unpinE y) fun _ _ z => z
    cases r with
    | error er => exact passAt tk σ _ H2 s3 er s' I3 hq
    | ok fl =>
      cases fl with
      | ret u => exact I3.after hq
      | next => exact False.elim hq
      | brk => exact False.elim hq
      | cont => exact False.elim hq
/-! ### f(e, ..), f a class at hand -/
def dMakeE (C : Str) (sp : SpD) (tf : TED) (tas : TAD) : TED := fun ρ S R E => tf ρ S (fun y S0 => y = .glo C ∧ tas ρ S0 (fun ds S1 => ∀ a, S1 a = none → sp (.ref a :: ds) (put S1 a (.ins C [] [])) (fun v S2 => v = .non ∧ R (.ref a) S2) E) E) E
theorem ped_makeE (T : InT X.K xs) (M : CalM X.prog X.w X.K X.mg X.base k C "__init__" ps sp) (hr : Room j X.A) (hgd : X.A.guards = some []) (tk : Takes X W) (hf : PED X W fe tf) (ha : PAD X W (e :: es) tas) (hmk : inMk xs C = true := by rfl) (hj : k + 1 ≤ j := by decide)
    (ht : eval (.Call fe (e :: es) [] pos) X.env = (do callWith pos (← eval fe X.env) [] (backTo pos (starEach (e :: es) X.env)) (backToKw pos (keywordEach [] X.env))) := by rfl)
    (he : starEach (e :: es) X.env = (false, eval e X.env) :: starEach es X.env := by rfl) (hpl : (backTo pos (starEach es X.env)).any (·.1) = false := by rfl) : PED X W (.Call fe (e :: es) [] pos) (dMakeE C sp tf tas) := by
  obtain ⟨fd, F, hb⟩ := M.ex
  obtain ⟨c1, c2⟩ := inMk_ok T hmk
  refine ⟨fun pins s σ H Q I h => ?_⟩
  obtain ⟨ρ, S, R, E, hS, hρ, hto, bR, bx⟩ := h
  refine Call_ (thn (hf.run pins s σ H (fun y H1 => y = .ref (He.ga X.K C) ∧ upA X.K W tas σ H1 (fun ws H2 => ∀ x dx, H2 x = none → H2 dx = none → dx ≠ x → upSp X.K sp (.ref x :: ws) (upd (upd H2 dx (.own x)) x (.ins (He.ga X.K C) dx [])) (fun v H3 => v = .non ∧ Q (.ref x) H3) (WE W σ))) I ⟨ρ, S, _, E, hS, hρ, hto, fun y S0 r0 H0 v0 e0 s0 v0' => ?_, bx⟩) fun u s0 ⟨y, H0, I0, ry, ey, q0⟩ => ?_) ht
  · obtain ⟨rfl, r0⟩ := r0
    refine ⟨v0', ρ, S0, _, E, s0, e0.re hS hρ, r0, fun ds S1 r1 H1 ws e1 s1 v1 => ?_, bx.ext e0⟩
    intro x dx hx hdx hne
    have nx : S1 x = none := s1.none_of hx
    have hx' : upd H1 dx (.own x) x = none := by rw [upd_ne (Ne.symm hne)]; exact hx
    have ex1 : Ext H1 S1 (upd H1 dx (.own x)) S1 := Ext.new hdx
    have ex2 : Ext (upd H1 dx (.own x)) S1 (upd (upd H1 dx (.own x)) x (.ins (He.ga X.K C) dx [])) (put S1 x (.ins C [] [])) := Ext.put (.inr hx')
    have s2 := (s1.new (o := .own x) hdx).put (u := .ins (He.ga X.K C) dx []) (o := .ins C [] []) (.inr hx') (by rw [nx]; rfl) ⟨dx, [], upd_same, rfl, rfl⟩
    have ee := (e0.trans e1).trans (ex1.trans ex2)
    refine upSp_of (ds := .ref x :: ds) s2 ⟨.ref x, ws, rfl, rfl, (ex1.trans ex2).rvs s1 _ _ v1⟩ (r1 x nx) (fun d S3 z H3 v e3 s3 v3 => ?_) (bx.ext ee)
    obtain ⟨rfl, z⟩ := z
    exact ⟨v3, bR _ S3 z H3 _ (ee.trans e3) s3 rfl⟩
  · subst ey
    obtain rfl : u = Value.ref (He.ga X.K C) := ry
    refine PySem.W.callWith_K (first := []) (h₀ := X.base) I.ok.mod.kin c2.kp (thn (ha.run pos pins s0 σ H0 _ I0 q0) fun us s1 ⟨ws, H1, I1, r, q⟩ => ⟨I1.kIn, ?_⟩) he hpl
    exact run_makeG c2 F (hr.mono hj) hgd hb tk I1 r q
/-! ### len(o), o == p, str(o), with the class's own def -/
theorem inst_of {pins : List (Addr × Obj)} {σ : L2.St} {H : Hp} {s : Shared} {a C dx : Addr} {fs : List (Str × V)} (I : Inv X pins σ H s) (h : H a = some (.ins C dx fs)) : ∃ ox od, PySem.W.InstAt s.heap a ox C od := by
  obtain ⟨mA, O, _⟩ := ins_get I.hok h
  obtain ⟨od, J, _⟩ := O.look
  exact ⟨_, _, J⟩
/-- one call of the def that a class finds under m, wherever it is asked for -/
theorem run_at {P' : Program} {fd : FuncData} {f : Addr} {A : Around} {pins : List (Addr × Obj)} {σ : L2.St} {H : Hp} {s : Shared} {us : List Value} {vs : List V} {Q : VK} {Q' : Value → Shared → Prop} (F : FnD X.prog X.w X.K X.mg X.base k f fd ps sp) (hb : Binds X.K fd ps []) (hr : Room k A) (hgd : A.guards = some []) (e0 : Env0 X.prog X.w X.K X.mg X.base A X.stack s H) (I : Inv X pins σ H s) (r : Vals vs us)
    (h : upSp X.K sp vs H Q (fun _ _ _ => False)) (go : ∀ u s', EP X pins σ Q u s' → Q' u s') : wpAny (model X.prog X.w) A (call (.ref f) us) Q' X.xe s := by
  have hl : (us ++ []).length = ps.length := by rw [List.append_nil, ← r.length]; exact F.lenV h
  have hb' := hb s us I.kIn hl
  rw [List.append_nil] at hb'
  refine wpAny_call (codeAny_mono (F.run A X.stack s H ⟨us, []⟩ us vs Q (fun _ _ _ => False) hr hgd e0 hb' r h) fun r s' hq => ?_)
  cases r with
  | error er =>
    obtain ⟨_, _, _, _, _, _, _, _, _, _, _, _, z⟩ := hq
    exact z.elim
  | ok fl =>
    cases fl with
    | ret u => exact go u s' (I.after hq)
    | next => exact False.elim hq
    | brk => exact False.elim hq
    | cont => exact False.elim hq
def isI (d : D) (Q : Int → Prop) : Prop := match d with
  | .int i => Q i
  | _ => False
def cLenO (xs : List InD) (Cs : List Str) (sp : SpD) : RCD := fun ds S R => one ds fun x => clsOf S x fun a C _ => (Cs.contains C = true ∧ inMs xs C "__len__" = true) ∧ sp [.ref a] S (fun d S1 => isI d fun i => (0 ≤ i ∧ i < 2 ^ 63) ∧ R (.int i) S1) E0D
theorem cd_lenO {Cs : List Str} (T : InT X.K xs) (M : ∀ C ∈ Cs, CalM X.prog X.w X.K X.mg X.base k C "__len__" ["self"] sp) (hr : Room j X.A) (hgd : X.A.guards = some []) (hj : k + 1 ≤ j := by decide) : CallR X (.builtin "len") (upC X.K (cLenO xs Cs sp)) := by
  intro pins s σ H vs us Q I r h
  obtain ⟨ds, S, R, hS, q, h, bR⟩ := h
  obtain ⟨x, rfl, h⟩ := one_of h
  obtain ⟨v, rfl, rx⟩ := q.one
  obtain ⟨a, C, ks, dx, ws, rfl, hh, ⟨hC, hm⟩, h⟩ := clsOf_of hS h
  cases rx
  rw [Vals.ref1 r]
  obtain ⟨c1, c2⟩ := inMs_ok T hm
  obtain ⟨fd, F, hb⟩ := (M C (by simpa using hC)).ex
  obtain ⟨ox, od, J⟩ := inst_of I hh
  obtain ⟨m0, Fm⟩ := I.fr
  refine PySem.W.len_K Fm I.ok.mod.kin J c2.at_ c2.fn (run_at (P' := X.prog) (Q := fun v H' => ∃ i : Int, v = .int i ∧ (0 ≤ i ∧ i < 2 ^ 63) ∧ Q (.int i) H') F hb ((hr.mono hj).in1) hgd (I.env0.in1) I (vs := [.ref a]) (.cons rfl .nil) ⟨[.ref a], S, _, _, hS, ⟨.ref a, [], rfl, rfl, rfl⟩, h, fun d S1 r1 H1 v1 e1 s1 rv1 => ?_, fun _ _ z => z.elim⟩ fun u s' hu => ?_)
  · cases d with
    | int i => cases rv1; exact ⟨i, rfl, r1.1, bR _ S1 r1.2 H1 _ e1 s1 rfl⟩
    | _ => exact r1.elim
  · obtain ⟨v, H', I', rv', i, rfl, hi, q⟩ := hu
    obtain ⟨t, rfl⟩ := rv'
    exact ⟨hi, .int i, H', I'.tok _, ⟨_, rfl⟩, q⟩
/-- o == p of one class -/
def opEqO (xs : List InD) (Cs : List Str) (sp : SpD) : R2D := fun x y S R => clsOf S x fun a C _ => clsOf S y fun b D _ => (Cs.contains C = true ∧ inMs xs C "__eq__" = true ∧ D = C) ∧ sp [.ref a, .ref b] S R E0D
theorem opd_eqO {Cs : List Str} {q : Str} (T : InT X.K xs) (M : ∀ C ∈ Cs, CalM X.prog X.w X.K X.mg X.base k C "__eq__" ["self", q] sp) (hr : Room j X.A) (hgd : X.A.guards = some []) (hj : k ≤ j := by decide) : OpR X (compareOp .Eq) (upR X.K (opEqO xs Cs sp)) := by
  intro pins s σ H x y v u Q I rx ry h
  obtain ⟨d1, d2, S, R, hS, r1, r2, h, bR⟩ := h
  obtain ⟨a, C, ks, dx, ws, rfl, hh, h⟩ := clsOf_of hS h
  obtain ⟨b, D, ks2, dy, ws2, rfl, hh2, ⟨hC, hm, hD⟩, h2⟩ := clsOf_of hS h
  subst hD
  clear h
  cases r1; cases r2
  obtain rfl : v = Value.ref a := rx
  obtain rfl : u = Value.ref b := ry
  obtain ⟨c1, c2⟩ := inMs_ok T hm
  obtain ⟨fd, F, hb⟩ := (M D (by simpa using hC)).ex
  obtain ⟨ox, od, J⟩ := inst_of I hh
  obtain ⟨oy, oe, J2⟩ := inst_of I hh2
  obtain ⟨m0, Fm⟩ := I.fr
  show wpAny _ _ (compareOp .Eq _ _) _ _ _
  unfold compareOp
  refine PySem.W.cmp_K (op := .Eq) hr.units0 Fm I.ok.mod.kin J J2.type (by unfold PySem.W.notFirst; simp) c2.at_ c2.fn (run_at (P' := X.prog) (Q := Q) F hb (hr.mono hj) hgd I.env0 I (vs := [.ref a, .ref b]) (.cons rfl (.cons rfl .nil)) ⟨[.ref a, .ref b], S, R, _, hS, ⟨.ref a, _, rfl, rfl, .ref b, [], rfl, rfl, rfl⟩, h2, bR, fun _ _ z => z.elim⟩ fun u s' hu => ?_)
  obtain ⟨v, H', I', rv', q⟩ := hu
  cases u with
  | notImplemented => cases v <;> first | exact nomatch rv' | (obtain ⟨_, z⟩ := rv'; cases z)
  | _ => exact ⟨v, H', I', rv', q⟩
end
end Dl
namespace Dl
open PySem PySem.Spec PyProof.Rows L2 TL
/-! ### a hoist, opened and closed -/
section
variable {K : PySem.W.Frag} {H : Hp} {S S' : Sto} {a : Addr} {C : Str} {ks : List Str} {l0 l1 l2 more : List D} {w : D}
theorem open_hst {G : Sto → Prop} (hS : RS K H S) (ha : S a = some (.hst C ks l0 l1 l2 w more))
    (go : ∀ (S2 : Sto) (s t e : Addr), (s ≠ a ∧ t ≠ a ∧ e ≠ a) ∧ (s ≠ t ∧ s ≠ e ∧ t ≠ e) → S2 a = some (.ins C ks (.ref s :: .ref t :: w :: .ref e :: more)) → S2 s = some (.lst l0) → S2 t = some (.lst l1) → S2 e = some (.lst l2) → (∀ x, x ≠ a → x ≠ s → x ≠ t → x ≠ e → S2 x = S x) →
      (∀ (S3 : Sto) (m0 m1 m2 more' : List D) (ks' : List Str) (w' : D), S3 a = some (.ins C ks' (.ref s :: .ref t :: w' :: .ref e :: more')) → S3 s = some (.lst m0) → S3 t = some (.lst m1) → S3 e = some (.lst m2) → (∀ x, x ≠ a → x ≠ s → x ≠ t → x ≠ e → S3 x = S2 x) → Wk K (put S a (.hst C ks' m0 m1 m2 w' more')) S3) → G S2) :
    ∃ S2, RS K H S2 ∧ (∀ a, S a = none → S2 a = none) ∧ G S2 := by
  obtain ⟨dx, s, t, e, v0, v1, v2, vw, vm, hh, hl, ⟨p0, p1, p2⟩, ⟨n1, n2, n3⟩, ⟨h0, h1, h2⟩, ⟨r0, r1, r2⟩, rw', rm⟩ := hS a _ ha
  have na : s ≠ a ∧ t ≠ a ∧ e ≠ a := ⟨fun z => by rw [z, ha] at p0; (cases p0), fun z => by rw [z, ha] at p1; (cases p1), fun z => by rw [z, ha] at p2; cases p2⟩
  let S2 : Sto := fun b => if b = a then some (.ins C ks (.ref s :: .ref t :: w :: .ref e :: more)) else if b = s then some (.lst l0) else if b = t then some (.lst l1) else if b = e then some (.lst l2) else S b
  have s2a : S2 a = some (.ins C ks (.ref s :: .ref t :: w :: .ref e :: more)) := if_pos rfl
  have s2s : S2 s = some (.lst l0) := by show (if s = a then _ else _) = _; rw [if_neg na.1, if_pos rfl]
  have s2t : S2 t = some (.lst l1) := by show (if t = a then _ else _) = _; rw [if_neg na.2.1, if_neg (Ne.symm n1), if_pos rfl]
  have s2e : S2 e = some (.lst l2) := by show (if e = a then _ else _) = _; rw [if_neg na.2.2, if_neg (Ne.symm n2), if_neg (Ne.symm n3), if_pos rfl]
  have s2o : ∀ x, x ≠ a → x ≠ s → x ≠ t → x ≠ e → S2 x = S x := fun x h1 h2 h3 h4 => by show (if x = a then _ else _) = _; rw [if_neg h1, if_neg h2, if_neg h3, if_neg h4]
  have nn : ∀ x, S x = none → S2 x = none := fun x h => by
    rw [s2o x (fun z => by rw [z, ha] at h; cases h) (fun z => by rw [z, p0] at h; cases h) (fun z => by rw [z, p1] at h; cases h) (fun z => by rw [z, p2] at h; cases h)]; exact h
  have ls : Ext H S H S2 := Ext.ofNone nn
  refine ⟨S2, ?_, nn, go S2 s t e ⟨na, n1, n2, n3⟩ s2a s2s s2t s2e s2o ?_⟩
  · intro b o eb
    by_cases k0 : b = a
    · subst k0; rw [s2a] at eb; cases eb
      refine ⟨dx, _, hh, by simp only [List.length_cons]; omega, _, _, rfl, rfl, _, _, rfl, rfl, _, _, rfl, ls.rv hS _ _ rw', _, _, rfl, rfl, ls.rvs hS _ _ rm⟩
    by_cases k1 : b = s
    · subst k1; rw [s2s] at eb; cases eb; exact ⟨_, h0, ls.rvs hS _ _ r0⟩
    by_cases k2 : b = t
    · subst k2; rw [s2t] at eb; cases eb; exact ⟨_, h1, ls.rvs hS _ _ r1⟩
    by_cases k3 : b = e
    · subst k3; rw [s2e] at eb; cases eb; exact ⟨_, h2, ls.rvs hS _ _ r2⟩
    rw [s2o b k0 k1 k2 k3] at eb
    refine ro_mv (hS b o eb) hS nn fun x q => ?_
    rw [s2o x (fun z => by rw [z, ha] at q; cases q) (fun z => by rw [z, p0] at q; cases q; exact k0 rfl) (fun z => by rw [z, p1] at q; cases q; exact k0 rfl) (fun z => by rw [z, p2] at q; cases q; exact k0 rfl)]
    exact q
  · intro S3 m0 m1 m2 more' ks' w' q0 q1 q2 q3 qo
    have sp : ∀ {x}, x ≠ a → put S a (.hst C ks' m0 m1 m2 w' more') x = S x := fun h => put_ne h
    have nn3 : ∀ x, S3 x = none → put S a (.hst C ks' m0 m1 m2 w' more') x = none := fun x h => by
      have k0 : x ≠ a := fun z => by rw [z, q0] at h; cases h
      have k1 : x ≠ s := fun z => by rw [z, q1] at h; cases h
      have k2 : x ≠ t := fun z => by rw [z, q2] at h; cases h
      have k3 : x ≠ e := fun z => by rw [z, q3] at h; cases h
      rw [sp k0, ← s2o x k0 k1 k2 k3, ← qo x k0 k1 k2 k3]; exact h
    refine ⟨fun H' hS' => ?_, nn3⟩
    have ls3 : Ext H' S3 H' (put S a (.hst C ks' m0 m1 m2 w' more')) := Ext.ofNone nn3
    intro b o eb
    by_cases k0 : b = a
    · subst k0
      rw [put_same] at eb; cases eb
      obtain ⟨dx', vs, hv, hl', q⟩ := hS' b _ q0
      obtain ⟨u1, t1, rfl, g1, u2, t2, rfl, g2, u3, t3, rfl, g3, u4, t4, rfl, g4, g5⟩ := q
      cases g1; cases g2; cases g4
      obtain ⟨w0, hw0, qw0⟩ := hS' s _ q1
      obtain ⟨w1, hw1, qw1⟩ := hS' t _ q2
      obtain ⟨w2, hw2, qw2⟩ := hS' e _ q3
      exact ⟨dx', s, t, e, w0, w1, w2, u3, t4, hv, by simp only [List.length_cons] at hl'; omega, ⟨by rw [sp na.1]; exact p0, by rw [sp na.2.1]; exact p1, by rw [sp na.2.2]; exact p2⟩, ⟨n1, n2, n3⟩, ⟨hw0, hw1, hw2⟩, ⟨ls3.rvs hS' _ _ qw0, ls3.rvs hS' _ _ qw1, ls3.rvs hS' _ _ qw2⟩, ls3.rv hS' _ _ g3, ls3.rvs hS' _ _ g5⟩
    rw [sp k0] at eb
    by_cases k1 : b = s
    · subst k1; rw [p0] at eb; cases eb; obtain ⟨ws, hw, _⟩ := hS' b _ q1; exact ⟨ws, hw⟩
    by_cases k2 : b = t
    · subst k2; rw [p1] at eb; cases eb; obtain ⟨ws, hw, _⟩ := hS' b _ q2; exact ⟨ws, hw⟩
    by_cases k3 : b = e
    · subst k3; rw [p2] at eb; cases eb; obtain ⟨ws, hw, _⟩ := hS' b _ q3; exact ⟨ws, hw⟩
    refine ro_mv (hS' b o (by rw [qo b k0 k1 k2 k3, s2o b k0 k1 k2 k3]; exact eb)) hS' nn3 fun x q => ?_
    have j0 : x ≠ a := fun z => by rw [z, q0] at q; cases q
    have j1 : x ≠ s := fun z => by rw [z, q1] at q; cases q
    have j2 : x ≠ t := fun z => by rw [z, q2] at q; cases q
    have j3 : x ≠ e := fun z => by rw [z, q3] at q; cases q
    rw [sp j0, ← s2o x j0 j1 j2 j3, ← qo x j0 j1 j2 j3]; exact q
/-- S' is S and more, but at a -/
def MoreX (a : Addr) (S S' : Sto) : Prop := ∀ x o, x ≠ a → S x = some o → S' x = some o
/-- an instance and three new lists become a hoist -/
theorem make_hst {S3 : Sto} {s t e : Addr} (na : s ≠ a ∧ t ≠ a ∧ e ≠ a) (ne : s ≠ t ∧ s ≠ e ∧ t ≠ e) (qs : S s = none ∧ S t = none ∧ S e = none) (q0 : S3 a = some (.ins C ks (.ref s :: .ref t :: w :: .ref e :: more))) (q1 : S3 s = some (.lst l0)) (q2 : S3 t = some (.lst l1)) (q3 : S3 e = some (.lst l2)) (qo : ∀ x, x ≠ a → x ≠ s → x ≠ t → x ≠ e → S3 x = S x) :
    ∃ S4 : Sto, Wk K S4 S3 ∧ S4 a = some (.hst C ks l0 l1 l2 w more) ∧ MoreX a S S4 ∧ ∀ x b, S4 x = some (.part b) → b = a ∨ S x = some (.part b) := by
  let S4 : Sto := fun b => if b = a then some (.hst C ks l0 l1 l2 w more) else if b = s then some (.part a) else if b = t then some (.part a) else if b = e then some (.part a) else S b
  have s4a : S4 a = some (.hst C ks l0 l1 l2 w more) := if_pos rfl
  have s4s : S4 s = some (.part a) := by show (if s = a then _ else _) = _; rw [if_neg na.1, if_pos rfl]
  have s4t : S4 t = some (.part a) := by show (if t = a then _ else _) = _; rw [if_neg na.2.1, if_neg (Ne.symm ne.1), if_pos rfl]
  have s4e : S4 e = some (.part a) := by show (if e = a then _ else _) = _; rw [if_neg na.2.2, if_neg (Ne.symm ne.2.1), if_neg (Ne.symm ne.2.2), if_pos rfl]
  have s4o : ∀ x, x ≠ a → x ≠ s → x ≠ t → x ≠ e → S4 x = S x := fun x h1 h2 h3 h4 => by show (if x = a then _ else _) = _; rw [if_neg h1, if_neg h2, if_neg h3, if_neg h4]
  have nn : ∀ x, S3 x = none → S4 x = none := fun x h => by
    have k0 : x ≠ a := fun z => by rw [z, q0] at h; cases h
    have k1 : x ≠ s := fun z => by rw [z, q1] at h; cases h
    have k2 : x ≠ t := fun z => by rw [z, q2] at h; cases h
    have k3 : x ≠ e := fun z => by rw [z, q3] at h; cases h
    rw [s4o x k0 k1 k2 k3, ← qo x k0 k1 k2 k3]; exact h
  refine ⟨S4, ⟨fun H' hS' => ?_, nn⟩, s4a, fun x o hx eo => ?_, fun x b eb => ?_⟩
  · have ls : Ext H' S3 H' S4 := Ext.ofNone nn
    intro b o eb
    by_cases k0 : b = a
    · subst k0
      rw [s4a] at eb; cases eb
      obtain ⟨dx', vs, hv, hl', q⟩ := hS' b _ q0
      obtain ⟨u1, t1, rfl, g1, u2, t2, rfl, g2, u3, t3, rfl, g3, u4, t4, rfl, g4, g5⟩ := q
      cases g1; cases g2; cases g4
      obtain ⟨w0, hw0, qw0⟩ := hS' s _ q1
      obtain ⟨w1, hw1, qw1⟩ := hS' t _ q2
      obtain ⟨w2, hw2, qw2⟩ := hS' e _ q3
      exact ⟨dx', s, t, e, w0, w1, w2, u3, t4, hv, by simp only [List.length_cons] at hl'; omega, ⟨s4s, s4t, s4e⟩, ne, ⟨hw0, hw1, hw2⟩, ⟨ls.rvs hS' _ _ qw0, ls.rvs hS' _ _ qw1, ls.rvs hS' _ _ qw2⟩, ls.rv hS' _ _ g3, ls.rvs hS' _ _ g5⟩
    by_cases k1 : b = s
    · subst k1; rw [s4s] at eb; cases eb; obtain ⟨ws, hw, _⟩ := hS' b _ q1; exact ⟨ws, hw⟩
    by_cases k2 : b = t
    · subst k2; rw [s4t] at eb; cases eb; obtain ⟨ws, hw, _⟩ := hS' b _ q2; exact ⟨ws, hw⟩
    by_cases k3 : b = e
    · subst k3; rw [s4e] at eb; cases eb; obtain ⟨ws, hw, _⟩ := hS' b _ q3; exact ⟨ws, hw⟩
    rw [s4o b k0 k1 k2 k3] at eb
    refine ro_mv (hS' b o (by rw [qo b k0 k1 k2 k3]; exact eb)) hS' nn fun x q => ?_
    have j0 : x ≠ a := fun z => by rw [z, q0] at q; cases q
    have j1 : x ≠ s := fun z => by rw [z, q1] at q; cases q
    have j2 : x ≠ t := fun z => by rw [z, q2] at q; cases q
    have j3 : x ≠ e := fun z => by rw [z, q3] at q; cases q
    rw [s4o x j0 j1 j2 j3, ← qo x j0 j1 j2 j3]; exact q
  · rw [s4o x hx (fun z => by rw [z, qs.1] at eo; cases eo) (fun z => by rw [z, qs.2.1] at eo; cases eo) (fun z => by rw [z, qs.2.2] at eo; cases eo)]; exact eo
  · by_cases k0 : x = a
    · subst k0; rw [s4a] at eb; cases eb
    by_cases k1 : x = s
    · subst k1; rw [s4s] at eb; cases eb; exact .inl rfl
    by_cases k2 : x = t
    · subst k2; rw [s4t] at eb; cases eb; exact .inl rfl
    by_cases k3 : x = e
    · subst k3; rw [s4e] at eb; cases eb; exact .inl rfl
    rw [s4o x k0 k1 k2 k3] at eb; exact .inr eb
end
/-! ### edits, towers -/
inductive Edt where
  | come (w : Int)
  | leave (p : Int)
  | weigh (p w : Int)
  | loosen (e : Int)
def edD : Edt → D
  | .come w => .tup [.str "come", .int w]
  | .leave p => .tup [.str "leave", .int p]
  | .weigh p w => .tup [.str "weigh", .int p, .int w]
  | .loosen e => .tup [.str "loosen", .int e]
abbrev Twr := Int × List Int
def edOk (t : Twr) : Edt → Prop
  | .come w => (1 ≤ w ∧ w ≤ 1000000) ∧ t.2.length < 24
  | .leave p => 0 ≤ p ∧ p < (t.2.length : Int)
  | .weigh p w => (0 ≤ p ∧ p < (t.2.length : Int)) ∧ 1 ≤ w ∧ w ≤ 1000000
  | .loosen e => 1 ≤ e ∧ e ≤ 1000000
def after (t : Twr) : Edt → Twr
  | .come w => (t.1, t.2 ++ [w])
  | .leave p => (t.1, t.2.take p.toNat ++ t.2.drop (p.toNat + 1))
  | .weigh p w => (t.1, t.2.take p.toNat ++ w :: t.2.drop (p.toNat + 1))
  | .loosen e => (e, t.2)
theorem Tw.after {t : Twr} (h : Tw t) {ed : Edt} (k : edOk t ed) : Tw (Dl.after t ed) := by
  cases ed with
  | come w =>
    refine ⟨h.e, ?_, fun x hx => ?_⟩
    · show (t.2 ++ [w]).length ≤ 24
      rw [List.length_append]; have := k.2; simp only [List.length_cons, List.length_nil]; omega
    · rcases List.mem_append.mp (show x ∈ t.2 ++ [w] from hx) with z | z
      · exact h.w x z
      · rw [List.mem_singleton.mp z]; exact k.1
  | leave p =>
    refine ⟨h.e, ?_, fun x hx => ?_⟩
    · show (t.2.take p.toNat ++ t.2.drop (p.toNat + 1)).length ≤ 24
      rw [List.length_append, List.length_take, List.length_drop]; have := h.n; omega
    · rcases List.mem_append.mp (show x ∈ t.2.take p.toNat ++ t.2.drop (p.toNat + 1) from hx) with z | z
      · exact h.w x (List.mem_of_mem_take z)
      · exact h.w x (List.mem_of_mem_drop z)
  | weigh p w =>
    refine ⟨h.e, ?_, fun x hx => ?_⟩
    · show (t.2.take p.toNat ++ w :: t.2.drop (p.toNat + 1)).length ≤ 24
      have kp := k.1
      rw [List.length_append, List.length_take, List.length_cons, List.length_drop]; have := h.n; omega
    · rcases List.mem_append.mp (show x ∈ t.2.take p.toNat ++ w :: t.2.drop (p.toNat + 1) from hx) with z | z
      · exact h.w x (List.mem_of_mem_take z)
      · rcases List.mem_cons.mp z with z | z
        · rw [z]; exact k.2
        · exact h.w x (List.mem_of_mem_drop z)
  | loosen e => exact ⟨k, h.n, h.w⟩
/-! ### reach, by the program's own way -/
def lighter (ws : List Int) (x : Int) : Int := (ws.filter fun w => decide (w < x)).sum
def stuckL (t : Twr) : List (Int × Int) := ((t.2.zipIdx).filter fun q => decide (t.1 + lighter t.2 q.1 < q.1)).map fun q => (q.1, (q.2 : Int))
def stuckP (t : Twr) : Option Int := match stuckL t with
  | [] => none
  | p :: ps => some (minP p ps).2
def stD (t : Twr) : D := match stuckP t with
  | none => .non
  | some p => .int p
def reachW (t : Twr) : Int := match stuckP t with
  | none => t.2.sum
  | some p => lighter t.2 (t.2.getD p.toNat 0)
def isFree (t : Twr) : Bool := isNon (stD t)
def endD (t : Twr) : D := .tup [.int (reachW t), .bl (isFree t)]
theorem minP_mem : ∀ (ps : List (Int × Int)) (p : Int × Int), minP p ps ∈ p :: ps
  | [], p => by simp [minP]
  | q :: ps, p => by
    have h := minP_mem ps (if ltP2 q p = true then q else p)
    show minP (if ltP2 q p = true then q else p) ps ∈ p :: q :: ps
    rcases List.mem_cons.mp h with e | e
    · rw [e]; split <;> simp
    · simp [e]
theorem stuckP_ok {t : Twr} {p : Int} (h : stuckP t = some p) : 0 ≤ p ∧ p < (t.2.length : Int) ∧ ∃ x, t.2[p.toNat]? = some x := by
  unfold stuckP at h
  cases e : stuckL t with
  | nil => rw [e] at h; cases h
  | cons q qs =>
    rw [e] at h
    cases h
    have m := minP_mem qs q
    rw [← e] at m
    obtain ⟨z, hz, ez⟩ := List.mem_map.mp m
    have hz := (List.mem_filter.mp hz).1
    obtain ⟨i, hi, ei⟩ := List.getElem_of_mem hz
    rw [List.getElem_zipIdx] at ei
    rw [List.length_zipIdx] at hi
    have e2 : (minP q qs).2 = (i : Int) := by rw [← ez, ← ei]; simp
    rw [e2]
    exact ⟨by omega, by omega, t.2[i], by simp [hi]⟩
theorem enumD_zip {α : Type} (f : α → D) : ∀ (xs : List α) (k : Nat), enumD k (xs.map f) = (xs.zipIdx k).map fun q => .tup [.int ((q.2 : Nat) : Int), f q.1]
  | [], _ => rfl
  | x :: xs, k => by rw [List.map_cons, enumD, enumD_zip f xs (k + 1), List.zipIdx_cons, List.map_cons]
/-! ### hoists in the store: b the promise -/
def hks : Option Int → List Str
  | none => ["states", "standing", "watching", "ends"]
  | some _ => ["states", "standing", "watching", "ends", "bottom"]
def hC : Option Int → Str
  | none => "Hoist"
  | some _ => "PromisedHoist"
def hmore : Option Int → List D
  | none => []
  | some b => [.int b]
def hob (b : Option Int) (tws : List Twr) (eds : List Edt) (w : Bool) : OB := .hst (hC b) (hks b) (tws.map twD) (eds.map edD) (tws.map endD) (.bl w) (hmore b)
theorem at_lastD {α : Type} {xs : List α} {x : α} (h : xs.getLast? = some x) : atI xs (-1) = some x := by
  rw [List.getLast?_eq_getElem?] at h
  obtain ⟨hl, _⟩ := List.getElem?_eq_some_iff.mp h
  unfold atI
  have e : ixN xs.length (-1) = some (xs.length - 1) := by
    unfold ixN
    rw [if_neg (by decide), if_pos (by omega)]
    congr 1
    omega
  rw [e]; exact h
end Dl
/-! ### t[::-1], t a tuple -/
namespace DlRv
open PySem PySem.Spec PyProof.Rows HT L2
section
variable {prog : Program} {w : World} {A : Around} {E : Value → Shared → Prop} {s : Shared}
theorem pick_rev (xs : Array Value) : ((List.range xs.size).filterMap fun (m : Nat) => xs[(((xs.size : Nat) : Int) - 1 + (m : Int) * -1).toNat]?).toArray = xs.toList.reverse.toArray := by
  congr 1
  refine List.ext_getElem? fun i => ?_
  have e : ∀ n : Nat, n ≤ xs.size → (List.range n).filterMap (fun (m : Nat) => xs[(((xs.size : Nat) : Int) - 1 + (m : Int) * -1).toNat]?) = xs.toList.reverse.take n := by
    intro n
    induction n with
    | zero => intro _; rfl
    | succ n ih =>
      intro h
      rw [List.range_succ, List.filterMap_append, ih (by omega), List.take_succ]
      congr 1
      have e1 : (((xs.size : Nat) : Int) - 1 + (n : Int) * -1).toNat = xs.size - 1 - n := by omega
      rw [List.getElem?_reverse (by rw [Array.length_toList]; omega), Array.length_toList, Array.getElem?_toList]
      simp only [List.filterMap_cons, List.filterMap_nil]
      rw [e1]
      cases xs[xs.size - 1 - n]? <;> rfl
  rw [e xs.size (Nat.le_refl _), List.take_of_length_le (by simp)]
theorem sliceApplied_rev {sl : Addr} {vl vu vs : Value} {n : Nat} {Q : Int × Int × Nat → Shared → Prop} (hs : s.heap.IsSliceOf sl vl vu vs) (pl : IsPart vl none) (pu : IsPart vu none) (ps : IsPart vs (some (-1)))
    (h : Q ((n : Int) - 1, -1, n) s) : wpAny (model prog w) A (Builtin.Slice.sliceApplied (.ref sl) (pure (n : Int))) Q E s := by
  obtain ⟨os, hos, hcs, hds⟩ := id hs
  unfold Builtin.Slice.sliceApplied Builtin.Slice.sliceFields
  refine wpAny_bind (wpAny_bind (wpAny_field hos hds (x := vl) rfl (wpAny_bind (wpAny_field hos hds (x := vu) rfl (wpAny_bind (wpAny_field hos hds (x := vs) rfl (wpAny_pure ?_)))))))
  refine wpAny_bind (slicePart_ ps ?_)
  show wpAny _ _ (if ((-1 : Int) == 0) = true then _ else _) _ _ s
  rw [if_neg (by decide)]
  refine wpAny_bind (slicePart_ pl (wpAny_bind (slicePart_ pu (wpAny_bind (wpAny_pure ?_)))))
  show wpAny _ _ (match Builtin.Slice.sliceAdjust none none (-1) (n : Int) with | (lo, hi) => pure (lo, (-1 : Int), Builtin.Slice.slicePlaces lo hi (-1))) _ _ s
  have e : Builtin.Slice.sliceAdjust none none (-1) (n : Int) = ((n : Int) - 1, -1) := by
    unfold Builtin.Slice.sliceAdjust
    simp
  rw [e]
  have e2 : Builtin.Slice.slicePlaces ((n : Int) - 1) (-1) (-1) = n := by
    unfold Builtin.Slice.slicePlaces
    simp
    omega
  show wpAny _ _ (pure ((n : Int) - 1, (-1 : Int), Builtin.Slice.slicePlaces ((n : Int) - 1) (-1) (-1))) _ _ s
  rw [e2]
  exact wpAny_pure h
theorem getItem_tuple_rev {t sl : Addr} {items : Array Value} {vl vu vs : Value} {Q : Value → Shared → Prop} (ht : IsTup s.heap t items) (hs : s.heap.IsSliceOf sl vl vu vs) (pl : IsPart vl none) (pu : IsPart vu none) (ps : IsPart vs (some (-1)))
    (h : Q (.ref s.heap.objs.size) { s with heap := s.heap.push { cls := .type "tuple", data := .seq items.toList.reverse.toArray } })
    (hsz : items.size ≤ sizeLine) : wpAny (model prog w) A (getItem (.ref t) (.ref sl)) Q E s := by
  have htake : sizeOk (.seq items.toList.reverse.toArray) := by
    show items.toList.reverse.toArray.size ≤ sizeLine
    rw [List.size_toArray, List.length_reverse, Array.length_toList]; exact hsz
  obtain ⟨os, hos, hcs, hds⟩ := id hs
  have hTs : s.TypeIs (.ref sl) "slice" := ⟨os, hos, hcs⟩
  unfold getItem
  try with_reducible refine wpAny_holding ?_
  first | refine wpAny_bind (wpAny_pure ?_) | skip
  refine wpAny_bind (wpAny_sequenceKey ht.typeIs (by decide) ?_)
  refine wpAny_bind (wpAny_callSpecial?_slot (name := Str.ofString "__getitem__") ht.typeIs PyProof.Rows.slot_tuple_getitem
    (wpAny_call_entry PyProof.Rows.slot_tuple_getitem ht.typeIs entry_tuple_getitem ?_ (args_tuple_getitem _ _)))
  show wpAny _ _ (Builtin.Tuple.tupleItemsOf (.ref t) >>= _) _ _ s
  refine wpAny_bind (tupleItemsOf_ ht ?_)
  refine wpAny_bind (wpAny_typeOf hTs ?_)
  rw [if_pos (by decide)]
  refine wpAny_bind (sliceApplied_rev hs pl pu ps ?_)
  have hno : ¬ ((((items.size : Nat) : Int) - 1 == 0 && (-1 : Int) == 1 && items.size == items.size) = true) := by simp
  show wpAny _ _ (if ((((items.size : Nat) : Int) - 1 == 0 && (-1 : Int) == 1 && items.size == items.size) = true) then _ else _) _ _ s
  rw [if_neg hno, pick_rev]
  first
    | exact wpAny_bind (m := Builtin.Tuple.tupleExact _) (wpAny_newObj_type (wpAny_pure ⟨_, rfl, wpAny_pure h⟩) htake)
    | exact wpAny_bind (m := Builtin.Tuple.tupleExact _) (wpAny_newObj_type (wpAny_bind (wpAny_pure (wpAny_pure ⟨_, rfl, wpAny_pure h⟩))) htake)
    | exact wpAny_bind (wpAny_bind (m := Builtin.Tuple.tupleExact _) (wpAny_newObj_type (wpAny_pure (wpAny_pure ⟨_, rfl, wpAny_pure h⟩)) htake))
    | exact wpAny_bind (wpAny_bind (m := Builtin.Tuple.tupleExact _) (wpAny_newObj_type (wpAny_pure ⟨_, rfl, wpAny_pure h⟩) htake))
end
def tRevT (K : PySem.W.Frag) (te : TE) : TE := fun σ H Q => te σ H fun x H1 => ∃ a xs, x = .ref a ∧ SqT K H1 a xs ∧ ∀ p, H1 p = none → Q (.ref p) (upd H1 p (.tup xs.reverse))
theorem pe_revT {X : Cx} {e : Expr} {te : TE} {k : Nat} {p1 p2 p3 pos : Pos} (he : PE X e te) : PE X (.Subscript e (.Slice none none (some (.UnaryOp .USub (.Constant (.int 1) k p1) p2)) p3) pos) (tRevT X.K te) := by
  refine ⟨fun pins s σ H Q I h => ?_⟩
  refine Subscript_ (thn (he.run pins s σ H _ I h) fun v s1 ⟨x, H1, I1, r1, q1⟩ => ?_)
  obtain ⟨a, xs, ex, hx, q⟩ := q1
  subst ex
  cases r1
  have hst : PO X (some (.UnaryOp .USub (.Constant (.int 1) k p1) p2)) (tPart (tUn (rU fun i => .int (-i)) (tC (.int 1)))) := po_some (pe_un un_neg pe_int)
  refine wpAny_Slice (thn (po_none.run pins s1 σ H1 (fun o H2 => o = none ∧ H2 = H1) I1 ⟨rfl, rfl⟩) fun vl s2 ⟨l, H2, I2, pl, el, e2⟩ => ?_)
  subst el e2
  refine thn (po_none.run pins s2 σ H2 (fun o H3 => o = none ∧ H3 = H2) I2 ⟨rfl, rfl⟩) fun vu s3 ⟨u, H3, I3, pu, eu, e3⟩ => ?_
  subst eu e3
  refine thn (hst.run pins s3 σ H3 (fun o H4 => o = some (-1) ∧ H4 = H3) I3 ⟨1, rfl, -1, rfl, rfl, rfl⟩) fun vs s4 ⟨o, H4, I4, ps, eo, e4⟩ => ?_
  subst eo e4
  have I5 : Inv X pins σ H4 { s4 with heap := s4.heap.push { cls := .type "slice", data := .fields #[vl, vu, vs] } } := I4.kept (t' := s4.toks) fun b ob q => Heap.get?_push_of_some _ q
  obtain ⟨its, r, ht, hz⟩ := I5.tuple hx
  have hlen := r.length
  show wpAny (model X.prog X.w) X.A (subscriptTail e (.Slice none none (some (.UnaryOp .USub (.Constant (.int 1) k p1) p2)) p3) (.ref a) (.ref s4.heap.objs.size)) (EP X pins σ Q) X.xe { s4 with heap := s4.heap.push { cls := .type "slice", data := .fields #[vl, vu, vs] } }
  refine tail_any (ops := [.ref a, .ref s4.heap.objs.size]) ht.typeIs PyProof.Rows.slot_tuple_getitem.lookup ?_ (by with_unfolding_all rfl)
  refine getItem_tuple_rev ht (Heap.IsSliceOf.new _ vl vu vs) pl pu ps ?_ (by rw [List.size_toArray]; omega)
  refine ⟨.ref _, _, I5.laid (t' := s4.toks) (o := .tup xs.reverse) (fun b ob q => Heap.get?_push_of_some _ q) (Nat.le_refl _) ?_, rfl, q _ (I5.hok.fresh (Nat.le_refl _))⟩
  exact ⟨by rw [List.length_reverse]; exact hz, _, r.reverse, IsTup.new _ _⟩
end DlRv
namespace Dl
open PySem PySem.Spec PyProof.Rows L2
def isTp (x : D) (Q : List D → Prop) : Prop := match x with
  | .tup ds => Q ds
  | _ => False
def dRevT (te : TED) : TED := fun ρ S R E => te ρ S (fun x S1 => isTp x fun ds => R (.tup ds.reverse) S1) E
theorem r_isTp {ds : List D} {Q : List D → Prop} : isTp (.tup ds) Q = Q ds := rfl
theorem ped_revT {X : Cx} {W : WX} {e : Expr} {te : TED} {pos : Pos} {k : Nat} {p1 p2 p3 : Pos} (he : PED X W e te) : PED X W (.Subscript e (.Slice none none (some (.UnaryOp .USub (.Constant (.int 1) k p1) p2)) p3) pos) (dRevT te) := by
  refine PE_imp (DlRv.pe_revT he) fun σ H Q h => ?_
  obtain ⟨ρ, S, R, E, hS, hρ, ht, bR, bx⟩ := h
  refine ⟨ρ, S, _, E, hS, hρ, ht, fun x S1 r1 H1 v e1 s1 v1 => ?_, bx⟩
  cases x with
  | tup ds =>
    obtain ⟨p, vs, rfl, hp, q⟩ := v1
    exact ⟨p, vs, rfl, SqT.of hp, fun n hn => bR _ S1 r1 _ _ (e1.trans (Ext.new hn)) (s1.new hn) (rv.tup_new s1 hn q.reverse)⟩
  | _ => exact r1.elim
/-! ### expressions that nobody reaches -/
theorem ped_dead {X : Cx} {W : WX} {e : Expr} : PED X W e (fun _ _ _ _ => False) := ⟨fun pins s σ H Q I h => by
  obtain ⟨_, _, _, _, _, _, z, _⟩ := h
  exact z.elim⟩
def dDead : TED := fun _ _ _ _ => False
theorem pedX {X : Cx} {W : WX} {e : Expr} : PED X W e dDead := ped_dead
/-! ### readings, in simp's form -/
section
variable {K : PySem.W.Frag} {S : Sto} {R : QD} {E : XD} {ρ : DEnv} {a : Addr} {C f m : Str} {ks : List Str} {ds : List D} {d : D} {xs : List InD} {Cs : List Str} {sp : SpD} {te to tv : TED} {tas : TAD}
def fld1 (xs : List InD) (f : Str) (R : QD) (x : D) (S1 : Sto) : Prop := insOf S1 x fun _ C ks ds => inFs xs C f = true ∧ ∃ d, (ks.zip ds).lookup f = some d ∧ R d S1
theorem r_dFld : dFld xs f te ρ S R E = te ρ S (fld1 xs f R) E := rfl
theorem r_fld (h : S a = some (.ins C ks ds)) (i : inFs xs C f = true) (l : (ks.zip ds).lookup f = some d) : fld1 xs f R (.ref a) S = R d S := by
  unfold fld1
  rw [insOf_in h, l]
  exact propext ⟨fun ⟨_, _, e, r⟩ => by cases e; exact r, fun r => ⟨i, _, rfl, r⟩⟩
def mt1 (xs : List InD) (Cs : List Str) (m : Str) (sp : SpD) (tas : TAD) (ρ : DEnv) (R : QD) (E : XD) (x : D) (S1 : Sto) : Prop := clsOf S1 x fun a C ks => (Cs.contains C = true ∧ inMs xs C m = true ∧ ks.contains m = false) ∧ tas ρ S1 (fun ds S2 => sp (.ref a :: ds) S2 R E) E
theorem r_dMeth : dMeth xs Cs m sp to tas ρ S R E = to ρ S (mt1 xs Cs m sp tas ρ R E) E := rfl
theorem r_mtI (h : S a = some (.ins C ks ds)) (i : Cs.contains C = true ∧ inMs xs C m = true ∧ ks.contains m = false) : mt1 xs Cs m sp tas ρ R E (.ref a) S = tas ρ S (fun ds S2 => sp (.ref a :: ds) S2 R E) E := by
  unfold mt1
  rw [clsOf_in h]
  exact propext ⟨fun z => z.2, fun z => ⟨i, z⟩⟩
def pp1 (xs : List InD) (Cs : List Str) (f : Str) (sp : SpD) (R : QD) (x : D) (S1 : Sto) : Prop := clsOf S1 x fun a C _ => (Cs.contains C = true ∧ inGs xs C f = true) ∧ sp [.ref a] S1 R E0D
theorem r_dProp : dProp xs Cs f sp te ρ S R E = te ρ S (pp1 xs Cs f sp R) E := rfl
theorem r_ppI (h : S a = some (.ins C ks ds)) (i : Cs.contains C = true ∧ inGs xs C f = true) : pp1 xs Cs f sp R (.ref a) S = sp [.ref a] S R E0D := by
  unfold pp1
  rw [clsOf_in h]
  exact propext ⟨fun z => z.2, fun z => ⟨i, z⟩⟩
def sf1 (xs : List InD) (f : Str) (y : D) (Q : Sto → Prop) (x : D) (S2 : Sto) : Prop := insOf S2 x fun a C ks ds => inFs xs C f = true ∧ ks.length < 1000 ∧ Q (put S2 a (.ins C (putKs f ks) (putVs f y ks ds)))
theorem r_sFld {D : DEnds} : sFldD xs f to tv D ρ S = tv ρ S (fun y S1 => to ρ S1 (sf1 xs f y (D.nx ρ)) (fun z S2 => D.xc z ρ S2)) (fun z S1 => D.xc z ρ S1) := rfl
theorem r_sf {y : D} {Q : Sto → Prop} (h : S a = some (.ins C ks ds)) (i : inFs xs C f = true) (l : ks.length < 1000) : sf1 xs f y Q (.ref a) S = Q (put S a (.ins C (putKs f ks) (putVs f y ks ds))) := by
  unfold sf1
  rw [insOf_in h]
  exact propext ⟨fun z => z.2.2, fun z => ⟨i, l, z⟩⟩
/-! hoists -/
variable {b : Option Int} {tws : List Twr} {eds : List Edt} {w : Bool} {p q e wd : D}
theorem r_mtH (h : S a = some (hob b tws eds w)) (i : Cs.contains (hC b) = true ∧ inMs xs (hC b) m = true ∧ (hks b).contains m = false) : mt1 xs Cs m sp tas ρ R E (.ref a) S = tas ρ S (fun ds S2 => sp (.ref a :: ds) S2 R E) E := by
  unfold mt1
  rw [clsOf_hst h]
  exact propext ⟨fun z => z.2, fun z => ⟨i, z⟩⟩
theorem r_ppH (h : S a = some (hob b tws eds w)) (i : Cs.contains (hC b) = true ∧ inGs xs (hC b) f = true) : pp1 xs Cs f sp R (.ref a) S = sp [.ref a] S R E0D := by
  unfold pp1
  rw [clsOf_hst h]
  exact propext ⟨fun z => z.2, fun z => ⟨i, z⟩⟩
def hin (b : Option Int) (p q w e : D) : OB := .ins (hC b) (hks b) (p :: q :: w :: e :: hmore b)
theorem r_fh0 (h : S a = some (hin b p q wd e)) (i : inFs xs (hC b) "states" = true) : fld1 xs "states" R (.ref a) S = R p S := r_fld h i (by cases b <;> rfl)
theorem r_fh1 (h : S a = some (hin b p q wd e)) (i : inFs xs (hC b) "standing" = true) : fld1 xs "standing" R (.ref a) S = R q S := r_fld h i (by cases b <;> rfl)
theorem r_fh2 (h : S a = some (hin b p q wd e)) (i : inFs xs (hC b) "watching" = true) : fld1 xs "watching" R (.ref a) S = R wd S := r_fld h i (by cases b <;> rfl)
theorem r_fh3 (h : S a = some (hin b p q wd e)) (i : inFs xs (hC b) "ends" = true) : fld1 xs "ends" R (.ref a) S = R e S := r_fld h i (by cases b <;> rfl)
theorem open_hob {H : Hp} {G : Sto → Prop} (hS : RS K H S) (ha : S a = some (hob b tws eds w))
    (go : ∀ (S2 : Sto) (s t e : Addr), (s ≠ a ∧ t ≠ a ∧ e ≠ a) → (s ≠ t ∧ s ≠ e ∧ t ≠ e) → S2 a = some (hin b (.ref s) (.ref t) (.bl w) (.ref e)) → S2 s = some (.lst (tws.map twD)) → S2 t = some (.lst (eds.map edD)) → S2 e = some (.lst (tws.map endD)) → (∀ x, x ≠ a → x ≠ s → x ≠ t → x ≠ e → S2 x = S x) →
      (∀ (S3 : Sto) (tws' : List Twr) (eds' : List Edt) (w' : Bool), S3 a = some (hin b (.ref s) (.ref t) (.bl w') (.ref e)) → S3 s = some (.lst (tws'.map twD)) → S3 t = some (.lst (eds'.map edD)) → S3 e = some (.lst (tws'.map endD)) → (∀ x, x ≠ a → x ≠ s → x ≠ t → x ≠ e → S3 x = S2 x) → Wk K (put S a (hob b tws' eds' w')) S3) → G S2) :
    ∃ S2, RS K H S2 ∧ (∀ a, S a = none → S2 a = none) ∧ G S2 :=
  open_hst hS ha fun S2 s t e ⟨na, ne⟩ g0 g1 g2 g3 go' back => go S2 s t e na ne g0 g1 g2 g3 go' fun S3 tws' eds' w' k0 k1 k2 k3 k4 => back S3 _ _ _ (hmore b) (hks b) (.bl w') k0 k1 k2 k3 k4
/-! ### S' is S and new objects -/
def Mor (S S' : Sto) : Prop := (∀ x o, S x = some o → S' x = some o) ∧ ∀ x b, S' x = some (.part b) → S x = none → S b = none
theorem Mor.refl (S : Sto) : Mor S S := ⟨fun _ _ h => h, fun x b h n => by rw [n] at h; cases h⟩
theorem Mor.trans {S S1 S2 : Sto} (h : Mor S S1) (k : Mor S1 S2) : Mor S S2 := ⟨fun x o e => k.1 x o (h.1 x o e), fun x b e n => by
  cases q : S1 x with
  | none =>
    have := k.2 x b e q
    cases r : S b with
    | none => rfl
    | some o => rw [h.1 b o r] at this; cases this
  | some o =>
    have := k.1 x o q
    rw [e] at this; cases this
    exact h.2 x b q n⟩
theorem Mor.put {S S1 : Sto} {o : OB} (h : Mor S S1) (n : S a = none) (hp : ∀ b, o ≠ .part b) : Mor S (put S1 a o) := ⟨fun x u e => by
  rw [put_ne (fun z => by rw [z, n] at e; cases e)]; exact h.1 x u e, fun x b e k => by
  by_cases z : x = a
  · subst z; rw [put_same] at e; exact absurd (Option.some.inj e) (hp b)
  · rw [put_ne z] at e; exact h.2 x b e k⟩
theorem Mor.none {S S1 : Sto} (h : Mor S S1) {x : Addr} (n : S1 x = none) : S x = none := by
  cases q : S x with
  | none => rfl
  | some o => rw [h.1 x o q] at n; cases n
theorem Mor.wk {S S1 : Sto} (h : Mor S S1) : Wk K S S1 := ⟨fun H hS x o e => ro_mv (hS x o (h.1 x o e)) hS (fun y n => h.none n) fun y q => by
  cases r : S y with
  | none => rw [h.2 y x q r] at e; cases e
  | some u => rw [h.1 y u r] at q; exact q, fun x n => h.none n⟩
/-- the same change at an old place -/
theorem Mor.both {S S1 : Sto} {o u : OB} (h : Mor S S1) (e : S a = some u) (hp : ∀ b, u ≠ .part b) : Mor (Dl.put S a o) (Dl.put S1 a o) := ⟨fun x v q => by
  by_cases z : x = a
  · subst z; rw [put_same] at q ⊢; exact q
  · rw [put_ne z] at q ⊢; exact h.1 x v q, fun x b q n => by
  by_cases z : x = a
  · subst z; rw [put_same] at n; cases n
  · rw [put_ne z] at q n
    have := h.2 x b q n
    have ne : b ≠ a := fun z => by rw [z, e] at this; cases this
    rw [put_ne ne]; exact this⟩
theorem at_none_sto {S : Sto} {x y : Addr} {o : OB} (h : S x = none) (k : S y = some o) : x ≠ y := fun z => by rw [z, k] at h; cases h
/-- an instance and three new lists become a hoist -/
theorem make_hob {S0 S S3 : Sto} {s t e : Addr} (n0 : S0 a = none) (eS : S = put S0 a (.ins (hC b) [] [])) (na : s ≠ a ∧ t ≠ a ∧ e ≠ a) (ne : s ≠ t ∧ s ≠ e ∧ t ≠ e) (qs : S s = none ∧ S t = none ∧ S e = none) (q0 : S3 a = some (hin b (.ref s) (.ref t) (.bl w) (.ref e))) (q1 : S3 s = some (.lst (tws.map twD))) (q2 : S3 t = some (.lst (eds.map edD))) (q3 : S3 e = some (.lst (tws.map endD))) (qo : ∀ x, x ≠ a → x ≠ s → x ≠ t → x ≠ e → S3 x = S x) :
    ∃ S4 : Sto, Wk K S4 S3 ∧ S4 a = some (hob b tws eds w) ∧ Mor S0 S4 := by
  obtain ⟨S4, w4, e4, m4, p4⟩ := make_hst (K := K) (S := S) na ne qs q0 q1 q2 q3 qo
  refine ⟨S4, w4, e4, fun x o h => ?_, fun x b h n => ?_⟩
  · have hx : x ≠ a := fun z => by rw [z, n0] at h; cases h
    exact m4 x o hx (by rw [eS, put_ne hx]; exact h)
  · rcases p4 x b h with z | z
    · rw [z]; exact n0
    · exfalso
      by_cases hx : x = a
      · rw [hx, eS, put_same] at z; cases z
      · rw [eS, put_ne hx, n] at z; cases z
end
open TL
/-! ### what decides whether hoists are equal -/
def keyD (e : Int) (ns : List Int) : D := .tup [.int e, .lst (ns.map .int)]
theorem r_eqKey {S : Sto} {R : QD} {e f : Int} {ns ms : List Int} : opEq (keyD e ns) (keyD f ms) S R = R (.bl (decide (e = f ∧ ns = ms))) S :=
  eq_en (α := Int × List Int) (isE (e, ns)) (isE (f, ms)) ⟨trivial, fun _ _ => trivial⟩ ⟨trivial, fun _ _ => trivial⟩ (by decide) (by simp)
theorem sorted_eq {ns ms : List Int} (h : ns.Pairwise (· ≤ ·)) (k : ms.Pairwise (· ≤ ·)) : ns = ms ↔ ns.Perm ms := ⟨fun e => by rw [e], fun p => p.eq_of_pairwise (fun a b _ _ h1 h2 => by omega) h k⟩
theorem ofString_inj (x y : String) : (Str.ofString x = Str.ofString y) ↔ x = y := ⟨fun h => by
  rw [Str.ofString_eq_toList, Str.ofString_eq_toList] at h
  have h1 : x.toList.map Char.toNat = y.toList.map Char.toNat := by
    have := congrArg (fun z : Str => z.cps.toList) h
    simpa using this
  have inj : ∀ (l m : List Char), l.map Char.toNat = m.map Char.toNat → l = m := by
    intro l
    induction l with
    | nil => intro m h; cases m with
      | nil => rfl
      | cons _ _ => cases h
    | cons c l ih => intro m h; cases m with
      | nil => cases h
      | cons d m =>
        rw [List.map_cons, List.map_cons] at h
        have h2 := List.cons.inj h
        rw [ih m h2.2, Char.ext (UInt32.toNat_inj.mp h2.1)]
  exact String.ext (inj _ _ h1), fun h => by rw [h]⟩
theorem r_eqLit {S : Sto} {R : QD} {x y : String} (hx : (x.toList.all fun c => decide (c.toNat < 0x110000)) = true) (hy : (y.toList.all fun c => decide (c.toNat < 0x110000)) = true) : opEq (.str (Str.ofString x)) (.str (Str.ofString y)) S R = R (.bl (decide (x = y))) S := by
  rw [r_eqS (okT_iff.mpr (okT_lit hx)) (okT_iff.mpr (okT_lit hy))]
  rw [decide_eq_decide.mpr (ofString_inj x y)]
theorem r_litF {S : Sto} {R : QD} {x y : String} (h : x ≠ y) (hx : (x.toList.all fun c => decide (c.toNat < 0x110000)) = true) (hy : (y.toList.all fun c => decide (c.toNat < 0x110000)) = true) : opEq (.str (Str.ofString x)) (.str (Str.ofString y)) S R = R (.bl false) S := by
  rw [r_eqLit hx hy, decide_eq_false h]
theorem r_litT {S : Sto} {R : QD} {x : String} (hx : (x.toList.all fun c => decide (c.toNat < 0x110000)) = true) : opEq (.str (Str.ofString x)) (.str (Str.ofString x)) S R = R (.bl true) S := by
  rw [r_eqLit hx hx, decide_eq_true rfl]
section
variable {S : Sto} {R : QD} {a c : Addr} {C : Str} {ks : List Str} {ds es : List D} {xs : List InD} {Cs ow : List Str} {sp : SpD} {b d : Option Int} {tws tws2 : List Twr} {eds eds2 : List Edt} {w w2 : Bool}
theorem r_pop (h : S a = some (.lst es)) : mPop (.ref a) [] S R = ∃ d, es.getLast? = some d ∧ R d (put S a (.lst es.dropLast)) := by
  unfold mPop
  simp only [h]
def ln1 (R : QD) (d : Dl.D) (S1 : Sto) : Prop := isI d fun i => (0 ≤ i ∧ i < 2 ^ 63) ∧ R (.int i) S1
theorem r_ln1 {i : Int} : ln1 R (.int i) S = ((0 ≤ i ∧ i < 2 ^ 63) ∧ R (.int i) S) := rfl
theorem r_lenO (h : S a = some (hob b tws eds w)) (i : Cs.contains (hC b) = true ∧ inMs xs (hC b) "__len__" = true) : cLenO xs Cs sp [.ref a] S R = sp [.ref a] S (ln1 R) E0D := by
  show (clsOf S (.ref a) fun a C _ => (Cs.contains C = true ∧ inMs xs C "__len__" = true) ∧ sp [.ref a] S (ln1 R) E0D) = _
  rw [clsOf_hst h]
  exact propext ⟨fun z => z.2, fun z => ⟨i, z⟩⟩
theorem r_eqO (h : S a = some (hob b tws eds w)) (k : S c = some (hob d tws2 eds2 w2)) (i : Cs.contains (hC b) = true ∧ inMs xs (hC b) "__eq__" = true ∧ hC d = hC b) : opEqO xs Cs sp (.ref a) (.ref c) S R = sp [.ref a, .ref c] S R E0D := by
  show (clsOf S (.ref a) fun a C _ => clsOf S (.ref c) fun b D _ => (Cs.contains C = true ∧ inMs xs C "__eq__" = true ∧ D = C) ∧ sp [.ref a, .ref b] S R E0D) = _
  rw [clsOf_hst h, clsOf_hst k]
  exact propext ⟨fun z => z.2, fun z => ⟨i, z⟩⟩
theorem r_isXH {B : Str} {k : Bool} (h : S a = some (hob b tws eds w)) (e : isG xs (hC b) B = some k) : cIsX xs ow [.ref a, .glo B] S R = R (.bl k) S := by
  have g : tagD S (.ref a) = some (.own (hC b)) := by
    unfold tagD; dsimp only; rw [h]; rfl
  refine propext ⟨fun ⟨g', e1, z⟩ => ?_, fun z => ⟨_, g, k, e, z⟩⟩
  rw [g] at e1; cases e1
  obtain ⟨b', e2, z⟩ := z
  have e3 : isG xs (hC b) B = some b' := e2
  rw [e] at e3; cases e3; exact z
end
end Dl
namespace Dl
open PySem PySem.Spec PyProof.Rows L2 TL
/-- pairs of ints, none of them -/
theorem r_neP0 {S : Sto} {R : QD} {ps : List (Int × Int)} : opNe (.lst (ps.map pairD)) (.lst []) S R = R (.bl (!ps.isEmpty)) S := by
  have := ne_en (S := S) (R := R) (k := ps.isEmpty) (isE (α := List (Int × Int)) ps) (isE (α := List (Int × Int)) []) (fun _ _ => ⟨trivial, trivial⟩) (fun _ h => nomatch h) (by decide) (by cases ps <;> simp)
  exact this
end Dl
namespace Dl
open PySem PySem.Spec PyProof.Rows L2 TL
theorem cutD_take' {α : Type} (xs : List α) {i : Int} (h : 0 ≤ i) : cutD xs none (some i) = xs.take i.toNat := by
  rw [show i = ((i.toNat : Nat) : Int) by omega, cutD_take]; rfl
theorem cutD_drop {α : Type} (xs : List α) {i : Int} (h : 0 ≤ i) : cutD xs (some i) none = xs.drop i.toNat := by
  have e : HT.sIx xs.length 0 (some i) = min i.toNat xs.length := by
    show (if i < 0 then _ else _) = _
    rw [if_neg (by omega)]
  unfold cutD
  rw [e, show HT.sIx xs.length xs.length none = xs.length from rfl]
  by_cases k : i.toNat ≤ xs.length
  · rw [Nat.min_eq_left k, List.take_of_length_le (by rw [List.length_drop]; exact Nat.le_refl _)]
  · rw [Nat.min_eq_right (by omega), List.drop_of_length_le (Nat.le_refl _), List.drop_of_length_le (by omega)]; simp
end Dl
namespace Dl
open PySem PySem.Spec PyProof.Rows L2 TL
theorem Tw.okTw {t : Int × List Int} (_h : Tw t) : Dl.okTw (twD t) := ⟨rfl, fun es e x hx => by
  cases e
  simp only [List.mem_cons, List.not_mem_nil, or_false] at hx
  rcases hx with rfl | rfl
  · exact ⟨rfl, fun ws z => by cases z⟩
  · exact ⟨rfl, fun ws z => by
      cases z
      intro w hw
      obtain ⟨i, _, rfl⟩ := List.mem_map.mp hw
      rfl⟩⟩
end Dl
namespace Dl
open PySem PySem.Spec PyProof.Rows L2 TL
/-! ### a tower's text is read as this tower -/
theorem numL_head : ∀ n : Nat, 1 ≤ n → (numL n).head? ≠ some 48 := fun n => by
  induction n using Nat.strongRecOn with
  | _ n ih =>
    intro h
    by_cases k : n < 10
    · rw [numL_lt k]; intro z; have := Option.some.inj z; omega
    · rw [numL_step (by omega)]
      have := ih (n / 10) (by omega) (by omega)
      cases e : numL (n / 10) with
      | nil => exact absurd e (numL_ne _)
      | cons c r => rw [e] at this; exact this
theorem pnum_dec {i : Int} (h : 1 ≤ i ∧ i ≤ 1000000) : pnum (dec i) = .int i := by
  have ht : tl (dec i) = numL i.toNat := tl_dec (by omega)
  have hl : (numL i.toNat).length ≤ 8 := numL_len (by decide) (by omega)
  have h1 : 1 ≤ (numL i.toNat).length := by
    cases e : numL i.toNat with
    | nil => exact absurd e (numL_ne _)
    | cons c r => simp
  have hd : allDig (dec i) = true := by
    unfold allDig; rw [ht, List.all_eq_true]
    intro c hc
    exact decide_eq_true (numL_digits _ c hc)
  unfold pnum
  rw [if_pos ⟨⟨by rw [len_tl, ht]; exact h1, by rw [len_tl, ht]; exact hl⟩, hd⟩, if_neg (fun z => numL_head i.toNat (by omega) (by rw [← ht]; exact z.1)), ht, numL_val]
  congr 1
  omega
theorem pnums_dec : ∀ {ws : List Int}, (∀ w ∈ ws, 1 ≤ w ∧ w ≤ 1000000) → (ws.map dec).map pnum = ws.map .int
  | [], _ => rfl
  | w :: ws, h => by rw [List.map_cons, List.map_cons, List.map_cons, pnum_dec (h w (by simp)), pnums_dec fun x hx => h x (by simp [hx])]
theorem any_ints : ∀ ws : List Int, (ws.map D.int).any isNon = false
  | [] => rfl
  | w :: ws => by rw [List.map_cons, List.any_cons, any_ints ws]; rfl
theorem pws_wtxt {ws : List Int} (h : ∀ w ∈ ws, 1 ≤ w ∧ w ≤ 1000000) : pws (wtxt ws) = .tup (ws.map .int) := by
  have hn : nn ws := fun w hw => by have := h w hw; omega
  by_cases e : ws = []
  · subst e; rfl
  · have h45 : wtxt ws ≠ Str.ofString "-" := fun z => by
      have z := congrArg tl z
      rw [tl_wtxt hn, if_neg e] at z
      exact joinL_ne45 e z
    unfold pws
    rw [if_neg h45, show wtxt ws = Txt.join (Str.ofString ",") (ws.map dec) from if_neg e, split_join (y := Str.ofString ",") (s := 44) (S := []) rfl (by decide +kernel) (by simpa using e) (fun p hp => by
      obtain ⟨w, hw, rfl⟩ := List.mem_map.mp hp
      rw [tl_dec (by have := h w hw; omega)]
      exact numL_free (by decide))]
    unfold pwsL
    rw [pnums_dec h, any_ints]; rfl
theorem joinL_mem {c s : Nat} : ∀ {ps : List (List Nat)}, c ∈ joinL [s] ps → c = s ∨ ∃ p ∈ ps, c ∈ p
  | [p], h => .inr ⟨p, by simp, h⟩
  | p :: q :: r, h => by
    have h : c ∈ p ++ ([s] ++ joinL [s] (q :: r)) := h
    rcases List.mem_append.mp h with z | z
    · exact .inr ⟨p, by simp, z⟩
    · rcases List.mem_append.mp z with z | z
      · exact .inl (List.mem_singleton.mp z)
      · rcases joinL_mem z with z | ⟨u, hu, z⟩
        · exact .inl z
        · exact .inr ⟨u, List.mem_cons_of_mem _ hu, z⟩
theorem ttxt_split {e : Int} {ws : List Int} (he : 0 ≤ e) (h : nn ws) : Txt.split (ttxt e ws) (Str.ofString " ") = [dec e, Str.ofString "/", wtxt ws] := by
  have ej : ttxt e ws = Txt.join (Str.ofString " ") [dec e, Str.ofString "/", wtxt ws] := by
    rw [join_eq]
    refine ext_tl ?_
    rw [tl_join, tl_ttxt he, List.map_cons, List.map_cons, List.map_cons, List.map_nil, tl_dec he]
    rfl
  rw [ej]
  refine split_join (y := Str.ofString " ") (s := 32) (S := []) rfl (by decide +kernel) (by simp) fun p hp => ?_
  simp only [List.mem_cons, List.not_mem_nil, or_false] at hp
  rcases hp with rfl | rfl | rfl
  · rw [tl_dec he]; exact numL_free (by decide)
  · decide
  · rw [tl_wtxt h]
    split
    · decide
    · intro hm
      have := joinL_mem hm
      rcases this with z | ⟨p, hp, z⟩
      · exact absurd z (by decide)
      · obtain ⟨w, _, rfl⟩ := List.mem_map.mp hp
        exact numL_free (by decide) z
theorem ptow_ttxt {t : Twr} (h : Tw t) : ptow (.str (ttxt t.1 t.2)) = .inr (twD t) := by
  obtain ⟨e, ws⟩ := t
  have he : 1 ≤ e ∧ e ≤ 1000000 := h.e
  have hw : ∀ w ∈ ws, 1 ≤ w ∧ w ≤ 1000000 := h.w
  have hl : ws.length ≤ 24 := h.n
  show ptwL (Txt.split (ttxt e ws) (Str.ofString " ")) = _
  rw [ttxt_split (by omega) h.nn]
  have r0 : rword ((0 : Nat) : Int) (dec e) = true := by
    show wi (pnum (dec e)) 1 1000000 = true
    rw [pnum_dec he]; exact decide_eq_true he
  have r2 : rword ((0 + 1 + 1 : Nat) : Int) (wtxt ws) = true := by
    show isNon (twErr (.tup [.int 1, pws (wtxt ws)])) = true
    rw [pws_wtxt hw, twErr_ok ⟨by decide, by decide⟩ hl hw]; rfl
  unfold ptwL
  rw [badAt, if_pos r0, badAt, if_pos (show rword ((0 + 1 : Nat) : Int) (Str.ofString "/") = true from rfl), badAt, if_pos r2, badAt]
  show (if 3 < 3 then _ else Sum.inr (D.tup [pnum (dec e), pws (wtxt ws)])) = _
  rw [if_neg (by decide), pnum_dec he, pws_wtxt hw]; rfl
theorem ttxt_ok {t : Twr} (h : Tw t) : (ttxt t.1 t.2).length ≤ 80000 ∧ okT (ttxt t.1 t.2) := by
  refine ⟨?_, ok_ttxt t.1 t.2⟩
  have := len_ttxt (e := t.1) (ws := t.2) (by have := h.e; omega) h.nn
  have := h.n
  omega
theorem split_one {p : Str} (h : 32 ∉ tl p) : Txt.split p (Str.ofString " ") = [p] := by
  have := split_join (y := Str.ofString " ") (s := 32) (S := []) rfl (by decide +kernel) (parts := [p]) (by simp) fun q hq => by rw [List.mem_singleton.mp hq]; exact h
  rw [join_eq] at this
  exact this
theorem r_inN0 {S : Sto} {R : QD} : opIn .non (.lst []) S R = R (.bl false) S := r_inNonF (us := ([] : List Str)) pnum_nf
end Dl
namespace Dl
open PySem PySem.Spec PyProof.Rows L2 TL
theorem ints_inj : ∀ {ws us : List Int}, ws.map D.int = us.map D.int → ws = us
  | [], [], _ => rfl
  | [], _ :: _, h => nomatch h
  | _ :: _, [], h => nomatch h
  | w :: ws, u :: us, h => by
    rw [List.map_cons, List.map_cons] at h
    have := List.cons.inj h
    rw [D.int.inj this.1, ints_inj this.2]
theorem twD_inj {t u : Twr} (h : twD t = twD u) : t = u := by
  obtain ⟨e, ws⟩ := t
  obtain ⟨f, us⟩ := u
  have h1 := List.cons.inj (D.tup.inj h)
  have h2 := List.cons.inj h1.2
  have a1 : e = f := D.int.inj h1.1
  have a2 : ws = us := ints_inj (D.tup.inj h2.1)
  rw [a1, a2]
end Dl
namespace Dl
open PySem PySem.Spec PyProof.Rows L2 TL
theorem r_neTT {S : Sto} {R : QD} : opNe (.tup []) (.tup []) S R = R (.bl false) S := r_neT0 (ws := [])
end Dl
namespace Dl
open PySem PySem.Spec PyProof.Rows L2 TL
/-! ### reach, by going through the sorted weights -/
def rch (e : Int) : Int → List Int → Int × Bool
  | t, [] => (t, true)
  | t, w :: r => if e + t < w then (t, false) else rch e (t + w) r
theorem perm_sum {ws us : List Int} (h : ws.Perm us) : ws.sum = us.sum := by
  induction h with
  | nil => rfl
  | cons x _ ih => rw [List.sum_cons, List.sum_cons, ih]
  | swap x y l => rw [List.sum_cons, List.sum_cons, List.sum_cons, List.sum_cons]; omega
  | trans _ _ h1 h2 => rw [h1, h2]
theorem lighter_perm {ws us : List Int} (h : ws.Perm us) (x : Int) : lighter ws x = lighter us x := perm_sum (h.filter _)
theorem lighter_append (ws us : List Int) (x : Int) : lighter (ws ++ us) x = lighter ws x + lighter us x := by
  unfold lighter; rw [List.filter_append, List.sum_append]
theorem lighter_all {ws : List Int} {x : Int} (h : ∀ w ∈ ws, w < x) : lighter ws x = ws.sum := by
  unfold lighter; rw [List.filter_eq_self.mpr fun w hw => decide_eq_true (h w hw)]
theorem lighter_none {ws : List Int} {x : Int} (h : ∀ w ∈ ws, x ≤ w) : lighter ws x = 0 := by
  unfold lighter; rw [List.filter_eq_nil_iff.mpr fun w hw => by rw [decide_eq_true_eq]; have := h w hw; omega]; rfl
theorem lighter_le {ws : List Int} {x : Int} (h : ∀ w ∈ ws, 0 ≤ w) : 0 ≤ lighter ws x ∧ lighter ws x ≤ ws.sum := by
  induction ws with
  | nil => exact ⟨Int.le_refl _, Int.le_refl _⟩
  | cons w ws ih =>
    obtain ⟨h1, h2⟩ := ih fun u hu => h u (by simp [hu])
    have hw := h w (by simp)
    unfold lighter at h1 h2 ⊢
    rw [List.filter_cons, List.sum_cons]
    split
    · rw [List.sum_cons]; omega
    · omega
theorem ltP2_of {a b : Int × Int} (h : ltP2 a b = true) : a.1 ≤ b.1 := by
  unfold ltP2 at h
  simp only [Bool.or_eq_true, decide_eq_true_eq, Bool.and_eq_true] at h
  omega
theorem ltP2_not {a b : Int × Int} (h : ¬ ltP2 a b = true) : b.1 ≤ a.1 := by
  unfold ltP2 at h
  simp only [Bool.or_eq_true, decide_eq_true_eq, Bool.and_eq_true] at h
  omega
theorem minP_le : ∀ (ps : List (Int × Int)) (p q : Int × Int), q ∈ p :: ps → (minP p ps).1 ≤ q.1
  | [], p, q, h => by rw [List.mem_singleton.mp h]; exact Int.le_refl _
  | r :: ps, p, q, h => by
    have ih := minP_le ps (if ltP2 r p = true then r else p)
    show (minP (if ltP2 r p = true then r else p) ps).1 ≤ q.1
    have hm := ih _ (List.mem_cons_self ..)
    rcases List.mem_cons.mp h with e | h
    · subst e
      refine Int.le_trans hm ?_
      split
      · rename_i z; exact ltP2_of z
      · exact Int.le_refl _
    · rcases List.mem_cons.mp h with e | h
      · subst e
        refine Int.le_trans hm ?_
        split
        · exact Int.le_refl _
        · rename_i z; exact ltP2_not z
      · exact ih q (List.mem_cons_of_mem _ h)
theorem mem_stuck {e : Int} {ws : List Int} {q : Int × Int} : q ∈ stuckL (e, ws) ↔ ∃ i : Nat, ws[i]? = some q.1 ∧ q.2 = (i : Int) ∧ e + lighter ws q.1 < q.1 := by
  unfold stuckL
  constructor
  · intro h
    obtain ⟨z, hz, ez⟩ := List.mem_map.mp h
    obtain ⟨h1, h2⟩ := List.mem_filter.mp hz
    have h3 := List.mk_mem_zipIdx_iff_getElem?.mp (show (z.1, z.2) ∈ ws.zipIdx from h1)
    rw [← ez]
    exact ⟨z.2, h3, rfl, of_decide_eq_true h2⟩
  · rintro ⟨i, h1, h2, h3⟩
    refine List.mem_map.mpr ⟨(q.1, i), List.mem_filter.mpr ⟨List.mk_mem_zipIdx_iff_getElem?.mpr h1, decide_eq_true h3⟩, ?_⟩
    rw [← h2]
theorem reach_stuck {e w : Int} {ws : List Int} (hw : w ∈ ws) (hs : e + lighter ws w < w) (hm : ∀ x ∈ ws, e + lighter ws x < x → w ≤ x) : reachW (e, ws) = lighter ws w ∧ isFree (e, ws) = false := by
  obtain ⟨i, hi, ei⟩ := List.getElem_of_mem hw
  have hi2 : ws[i]? = some w := by rw [List.getElem?_eq_getElem hi, ei]
  have m0 : (w, (i : Int)) ∈ stuckL (e, ws) := mem_stuck.mpr ⟨i, hi2, rfl, hs⟩
  cases hL : stuckL (e, ws) with
  | nil => rw [hL] at m0; cases m0
  | cons p ps =>
    have m1 := minP_mem ps p
    rw [← hL] at m1
    obtain ⟨j, hj, ej, sj⟩ := mem_stuck.mp m1
    have le1 := minP_le ps p (w, (i : Int)) (by rw [← hL]; exact m0)
    have le2 := hm _ (List.mem_of_getElem? hj) sj
    have ew : (minP p ps).1 = w := by
      have : (minP p ps).1 ≤ w := le1
      omega
    have eP : stuckP (e, ws) = some (j : Int) := by
      unfold stuckP; rw [hL]; show some (minP p ps).2 = _; rw [ej]
    constructor
    · unfold reachW; rw [eP]
      show lighter ws (ws.getD (j : Int).toNat 0) = _
      rw [show (j : Int).toNat = j from rfl, List.getD_eq_getElem?_getD, hj, ew]; rfl
    · unfold isFree stD; rw [eP]; rfl
theorem reach_free {e : Int} {ws : List Int} (h : ∀ x ∈ ws, ¬ e + lighter ws x < x) : reachW (e, ws) = ws.sum ∧ isFree (e, ws) = true := by
  have eL : stuckL (e, ws) = [] := by
    cases hL : stuckL (e, ws) with
    | nil => rfl
    | cons p ps =>
      have : p ∈ stuckL (e, ws) := by rw [hL]; simp
      obtain ⟨i, h1, _, h3⟩ := mem_stuck.mp this
      exact absurd h3 (h _ (List.mem_of_getElem? h1))
  have eP : stuckP (e, ws) = none := by unfold stuckP; rw [eL]
  constructor
  · unfold reachW; rw [eP]
  · unfold isFree stD; rw [eP]; rfl
theorem rch_go {e : Int} {ws : List Int} (h0 : ∀ w ∈ ws, 0 ≤ w) : ∀ (suf pre : List Int), (pre ++ suf).Perm ws → (pre ++ suf).Pairwise (· ≤ ·) → (∀ x ∈ pre, ¬ e + lighter ws x < x) → rch e pre.sum suf = (reachW (e, ws), isFree (e, ws))
  | [], pre, hp, hs, hn => by
    rw [List.append_nil] at hp
    obtain ⟨h1, h2⟩ := reach_free (e := e) (ws := ws) fun x hx => hn x (hp.mem_iff.mpr hx)
    rw [h1, h2, ← perm_sum hp]; rfl
  | w :: r, pre, hp, hs, hn => by
    have hl : ∀ x, lighter ws x = lighter pre x + lighter (w :: r) x := fun x => by rw [← lighter_perm hp, lighter_append]
    obtain ⟨_, hr, hc⟩ := List.pairwise_append.mp hs
    have hwr : ∀ x ∈ w :: r, w ≤ x := fun x hx => by
      rcases List.mem_cons.mp hx with z | z
      · rw [z]; exact Int.le_refl _
      · exact (List.pairwise_cons.mp hr).1 x z
    have hpw : ∀ x ∈ pre, x ≤ w := fun x hx => hc x hx w (by simp)
    have hww : w ∈ ws := hp.mem_iff.mp (by simp)
    have lw : lighter ws w = lighter pre w := by rw [hl, lighter_none hwr]; omega
    have pos : ∀ x ∈ pre, 0 ≤ x := fun x hx => h0 x (hp.mem_iff.mp (by simp [hx]))
    have le := (lighter_le (x := w) pos).2
    by_cases hin : w ∈ pre
    · have nst := hn w hin
      rw [rch, if_neg (by omega)]
      have := rch_go (e := e) h0 r (pre ++ [w]) (by rw [List.append_assoc]; exact hp) (by rw [List.append_assoc]; exact hs) (fun x hx => by
        rcases List.mem_append.mp hx with z | z
        · exact hn x z
        · rw [List.mem_singleton.mp z]; exact nst)
      rw [List.sum_append] at this
      simpa using this
    · have lt : ∀ x ∈ pre, x < w := fun x hx => by
        have h1 := hpw x hx
        have h2 : x ≠ w := fun z => hin (z ▸ hx)
        omega
      have ls : lighter ws w = pre.sum := by rw [lw, lighter_all lt]
      rw [rch]
      by_cases hst : e + pre.sum < w
      · rw [if_pos hst]
        obtain ⟨h1, h2⟩ := reach_stuck (e := e) hww (by rw [ls]; exact hst) (fun x hx hx2 => by
          rcases List.mem_append.mp (hp.mem_iff.mpr hx) with z | z
          · exact absurd hx2 (hn x z)
          · exact hwr x z)
        rw [h1, h2, ls]
      · rw [if_neg hst]
        have := rch_go (e := e) h0 r (pre ++ [w]) (by rw [List.append_assoc]; exact hp) (by rw [List.append_assoc]; exact hs) (fun x hx => by
          rcases List.mem_append.mp hx with z | z
          · exact hn x z
          · rw [List.mem_singleton.mp z, ls]; exact hst)
        rw [List.sum_append] at this
        simpa using this
/-- going through the sorted weights gives reach, and whether nobody is stuck -/
theorem rch_eq {e : Int} {ws s : List Int} (h0 : ∀ w ∈ ws, 0 ≤ w) (hp : s.Perm ws) (hs : s.Pairwise (· ≤ ·)) : rch e 0 s = (reachW (e, ws), isFree (e, ws)) :=
  rch_go h0 s [] hp hs (fun x hx => nomatch hx)
end Dl
/-! ### try: .. finally: .. -/
namespace DlFi
open PySem PySem.Spec PySem.W PySem.Calls PyProof.Rows L2
/-- the body lets no return out -/
def tFin (tb : WX → TS) (tf tfs : TS) (Wout : WX) : TS := fun D σ H => tb (wFin tfs Wout) { nx := fun σ1 H1 => tf D σ1 H1, rt := fun _ _ => False } σ H
theorem ps_fin {X : Cx} {body fs : List Stmt} {f₀ : Stmt} {tb : WX → TS} {tf tfs : TS} {Wout : WX} {pos : Pos} (hs : X.stack = X.env :: X.outer) (hf : X.env.frame = some X.env.locals) (hex : X.ex = []) (tk : Takes X Wout)
    (hb : ∀ (W : WX) (pn : List (Addr × Obj)) (xe : Value → Shared → Prop), Takes (X.tr pn xe) W → PassesOwn (model X.prog X.w) X.A X.env xe → PSs (X.tr pn xe) body (tb W))
    (hfin : PSs X.nox (f₀ :: fs) tf) (hsu : ∀ (a : Addr) (pn : List (Addr × Obj)), PSs (X.suite a pn) (f₀ :: fs) tfs) : PS X (.Try body [] [] (f₀ :: fs) pos) (tFin tb tf tfs Wout) := by
  refine ⟨fun pins s σ H D I h => ?_⟩
  have ok := I.ok
  refine wpAny_Try_finally ?_
  refine wpAny_mono ((hb (wFin tfs Wout) (X.pn ++ pins) (fun x s₁ => wpAny (model X.prog X.w) X.A (noteFrame x X.env) (fun _ s₂ => FinallyRaised X.prog X.w X.A X.xe X.env (f₀ :: fs) (SP X pins D) x s₂) (FinallyRaised X.prog X.w X.A X.xe X.env (f₀ :: fs) (SP X pins D)) s₁)
    (fun u s' xx => ?_) PassesOwn.looking).run [] s σ H { nx := fun σ1 H1 => tf D σ1 H1, rt := fun _ _ => False } (I.toTry _) h) (fun f s1 z => ?_) (fun x s1 hx => hx)
  · exact fin_exc hs hf hex ok tk hsu xx
  · cases f with
    | next =>
      obtain ⟨σ1, H1, I1, q1⟩ := z
      refine wpAny_execs_nil ?_
      refine wpAny_mono (hfin.run pins s1 σ1 H1 D ((I1.ofTry ok).wish _) q1) (fun g s2 q => ?_) fun _ _ z => False.elim z
      have q' : SP X pins D g s2 := q.unwish
      cases g with
      | next => exact q'
      | ret w2 => exact q'
      | brk => exact q'
      | cont => exact q'
    | ret u =>
      obtain ⟨_, _, _, _, _, q⟩ := z
      exact q.elim
    | brk =>
      obtain ⟨_, _, _, q⟩ := z
      exact q.elim
    | cont =>
      obtain ⟨_, _, _, q⟩ := z
      exact q.elim
end DlFi
namespace Dl
open PySem PySem.Spec PyProof.Rows L2
def onlyN (q : DEnv → Sto → Prop) : DEnds where
  nx := q
  rt := fun _ _ => False
  bk := fun _ _ => False
  ct := fun _ _ => False
  xc := fun _ _ _ => False
def finE (tf : TSD) (D : DEnds) : DEnds where
  nx := fun ρ1 S1 => tf { D with xc := fun _ _ _ => False } ρ1 S1
  rt := fun _ _ => False
  bk := fun _ _ => False
  ct := fun _ _ => False
  xc := fun x ρ1 S1 => tf (onlyN fun ρ2 S2 => D.xc x ρ2 S2) ρ1 S1
def sFin (tb tf : TSD) : TSD := fun D ρ S => tb (finE tf D) ρ S
theorem Ext.rx {K : PySem.W.Frag} {H H' : Hp} {S S' : Sto} (e : Ext H S H' S') (hS : RS K H S) {x : Exn} {cls : Value} {d : Option Addr} (r : Dl.rx K H S x cls d) : Dl.rx K H' S' x cls d := by
  obtain ⟨h1, h2⟩ := r
  refine ⟨h1, ?_⟩
  rcases h2 with h2 | ⟨b, vs, rfl, h3, h4, h5⟩
  · exact .inl h2
  · refine .inr ⟨b, vs, rfl, ?_, h4, e.rvs hS _ _ h5⟩
    have hb : S b = none := by
      cases q : S b with
      | none => rfl
      | some o =>
        obtain ⟨u, hu, hm⟩ := hS.some_of q
        rw [h3] at hu; cases hu
        exact hm.elim
    exact (e b _ h3 hb trivial).1
section
variable {X : Cx} {W : WX} {body fs : List Stmt} {f₀ : Stmt} {tb tf : TSD} {pos : Pos}
theorem psd_fin (tk : Takes X W) (hb : ∀ (W' : WX) (pn : List (Addr × Obj)) (xe : Value → Shared → Prop), Takes (X.tr pn xe) W' → PassesOwn (model X.prog X.w) X.A X.env xe → PSsD (X.tr pn xe) W' body tb)
    (hfin : PSsD X.nox W0 (f₀ :: fs) tf) (hsu : ∀ (a : Addr) (pn : List (Addr × Obj)), PSsD (X.suite a pn) W0 (f₀ :: fs) tf)
    (hs : X.stack = X.env :: X.outer := by rfl) (hf : X.env.frame = some X.env.locals := by rfl) (hex : X.ex = [] := by rfl) : PSD X W (.Try body [] [] (f₀ :: fs) pos) (sFin tb tf) := by
  refine PS_imp (DlFi.ps_fin (tb := fun W' => upS X.K W' tb) (tf := upS X.K W0 tf) (tfs := upS X.K W0 tf) (Wout := W) hs hf hex tk hb hfin hsu) fun D σ H h => ?_
  obtain ⟨ρ, S, R, hS, hρ, ht, b1, b2, b3, b4, b5⟩ := upS_eq.mp h
  refine upS_eq.mpr ⟨ρ, S, finE tf R, hS, hρ, ht, fun ρ' S' q σ' H' e s' v' => ?_, fun _ _ z => z.elim, fun _ _ z => z.elim, fun _ _ z => z.elim, fun x ρ' S' q σ' H' cls d e s' v' rx' => ?_⟩
  · exact upS_eq.mpr ⟨ρ', S', { R with xc := fun _ _ _ => False }, s', v', q, b1.ext e, b2.ext e, b3.ext e, b4.ext e, fun _ _ _ z => z.elim⟩
  · exact upS_eq.mpr ⟨ρ', S', onlyN fun ρ2 S2 => R.xc x ρ2 S2, s', v', q, fun ρ2 S2 q2 σ2 H2 e2 s2 v2 => b5 x ρ2 S2 q2 σ2 H2 cls d (e.trans e2) s2 v2 (e2.rx s' rx'), fun _ _ z => z.elim, fun _ _ z => z.elim, fun _ _ z => z.elim, fun _ _ _ z => z.elim⟩
end
end Dl
/-! ### methods with one keyword-only parameter, None if it lacks -/
namespace Dl
open PySem PySem.Spec PyProof.Rows L2
structure CalK (P : Program) (w : World) (K : PySem.W.Frag) (mg : Str → Option Value) (base : Heap) (k : Nat) (C m : Str) (ps : List Str) (kw : Str) (sp : SpD) : Prop where
  ex : ∃ fd, FnD P w K mg base k (He.ma K (He.ga K C) m) fd (ps ++ [kw]) sp ∧ Binds K fd (ps ++ [kw]) [Value.none] ∧
    ∀ (s : Shared) (us : List Value) (u : Value), us.length = ps.length → BindsTo s fd ⟨us, [(kw, u)]⟩ ((ps ++ [kw]).zip (us ++ [u]))
section
variable {P : Program} {w : World} {K : PySem.W.Frag} {mg : Str → Option Value} {base : Heap} {k : Nat} {B C m x qual kw : Str} {st : Stmt} {N ps : List Str} {sp : SpD} {xs : List InD}
theorem CalK.inh (c : CalK P w K mg base k B m ps kw sp) (T : InT K xs) (h : inIh xs C m B = true := by decide +kernel) : CalK P w K mg base k C m ps kw sp := by
  obtain ⟨fd, F, b⟩ := c.ex
  have e : He.ma K (He.ga K C) m = He.ma K (He.ga K B) m := inIh_ok T h
  exact ⟨fd, by rw [e]; exact F, b⟩
theorem calKO (F : ∃ fd, FunD K x qual (defArgs st) (defBody st) (defScope st) [] [(kw, V.non)] (He.ma K (He.ga K C) m) fd) (Sc : FnScope N (ps ++ [kw]) (defScope st)) (len : ∀ ds S R E, sp ds S R E → ds.length = (ps ++ [kw]).length) (tB : TSD)
    (hb : ∀ (cdv : Value) (A : Around) (outer : List PySem.Env) (s : Shared) (H : Hp) (E : XK), Room k (A.deeper (envOfC qual (defScope st) s.heap.objs.size (He.ma K (He.ga K C) m) cdv)) → A.guards = some [] →
      Takes (cxOf (L2.CX P w) P w K mg base N qual (defScope st) (He.ma K (He.ga K C) m) cdv A outer s H E) (WF E) →
      PSsD (cxOf (L2.CX P w) P w K mg base N qual (defScope st) (He.ma K (He.ga K C) m) cdv A outer s H E) (WF E) (defBody st) tB)
    (pure : ∀ H ds S R E, RS K H S → sp ds S R E → ∃ S2, RS K H S2 ∧ (∀ a, S a = none → S2 a = none) ∧ tB (endsF K R E) (startD N ds) S2)
    (hb0 : ∀ (D : Addr) (doc pm : Value) (an : Option Addr) (cdv ct : Value) (us ks : List Value), us.length = ps.length → ks.length = 1 →
      KwChain D ([kw].zip ks) (bindArgs (PySem.W.fnOf x qual (defArgs st) (defBody st) (defScope st) .none (.ref D) doc pm an cdv ct) ⟨us, []⟩) ((ps ++ [kw]).zip (us ++ ks)))
    (hb1 : ∀ (D : Addr) (doc pm : Value) (an : Option Addr) (cdv ct : Value) (us : List Value) (u : Value), us.length = ps.length →
      bindArgs (PySem.W.fnOf x qual (defArgs st) (defBody st) (defScope st) .none (.ref D) doc pm an cdv ct) ⟨us, [(kw, u)]⟩ = Pure.pure ((ps ++ [kw]).zip (us ++ [u]))) : CalK P w K mg base (k + 1) C m ps kw sp := by
  obtain ⟨fd, Fd⟩ := F
  obtain ⟨ds, r, b⟩ := Fd.binds0 (ps := ps ++ [kw]) ps.length (by simp) (by simp) hb0
  obtain ⟨oc, od, dV, kV, doc, pm, an, cdv, ct, osl, rfl, lk, hcd, hD, hK⟩ := Fd.ex
  refine ⟨_, fnDO Fd Sc len tB hb pure, ?_, fun s us u hl => ?_⟩
  · cases r with
    | cons a r2 =>
      cases r2
      cases (show _ = Value.none from a)
      exact b
  · rcases hD with ⟨_, rfl⟩ | ⟨e, _⟩
    · rcases hK with e | ⟨D, rfl, _⟩
      · cases e
      · exact .of_eq (hb1 D doc pm an cdv ct us u hl)
    · exact absurd rfl e
end
section
variable {X : Cx} {W : WX} {o e ke : Expr} {es : List Expr} {to te tke : TED} {tas : TAD} {xs : List InD} {m C kw : Str} {pos p apos kpos : Pos} {k j : Nat} {ps : List Str} {sp : SpD}
theorem run_fnB {fd : FuncData} {f : Addr} {pins : List (Addr × Obj)} {σ : L2.St} {H : Hp} {s : Shared} {Q : VK} {args : Args} {us : List Value} {vs : List V} (F : FnD X.prog X.w X.K X.mg X.base k f fd ps sp) (hr : Room k X.A) (hgd : X.A.guards = some []) (hb : BindsTo s fd args (ps.zip us))
    (tk : Takes X W) (I : Inv X pins σ H s) (r : Vals vs us) (h : upSp X.K sp vs H Q (WE W σ)) : wpAny (model X.prog X.w) X.A (call (.ref f) args.pos args.kw) (EP X pins σ Q) X.xe s := by
  refine wpAny_call (codeAny_mono (F.run X.A X.stack s H args us vs Q (WE W σ) hr hgd I.env0 hb r h) fun r s' hq => ?_)
  cases r with
  | error e => exact passAt tk σ pins H s e s' I hq
  | ok fl =>
    cases fl with
    | ret u => exact I.after hq
    | next => exact False.elim hq
    | brk => exact False.elim hq
    | cont => exact False.elim hq
theorem methcall_kw {pl : Sem Bool} {args : List Expr} {kws : List Keyword} {pins : List (Addr × Obj)} {s : Shared} {σ : L2.St} {H : Hp} {Q : Value → Shared → Prop} {t : TE} (he : PE X o t) (I : Inv X pins σ H s)
    (h : t σ H fun x H1 => ∃ a C dx fs g, x = .ref a ∧ H1 a = some (.ins C dx fs) ∧ Cls X.K C ∧ Meth X.K C m g ∧ fs.lookup m = none ∧
      ∀ s1, Inv X pins σ H1 s1 → wpAny (model X.prog X.w) X.A (callWith pos (.ref g) [.ref a] (backTo pos (starEach args X.env)) (backToKw pos (keywordEach kws X.env))) Q X.xe s1)
    (ht : eval (.Call (.Attribute o m apos) args kws pos) X.env = (do
      let ov ← eval o X.env
      standAt apos.atName
      let (f, first) ← holding [ov] (getMethod ov m pl)
      callWith pos f first (backTo pos (starEach args X.env)) (backToKw pos (keywordEach kws X.env)))) :
    wpAny (model X.prog X.w) X.A (eval (.Call (.Attribute o m apos) args kws pos) X.env) Q X.xe s := by
  refine PySem.W.methodCall_KW (pl := pl) (thn (he.run pins s σ H _ I h) fun u s1 ⟨x, H1, I1, rx, a, C, dx, fs, g, ex, ea, c, k, l, q⟩ => ?_) ht
  subst ex
  obtain rfl : u = Value.ref a := rx
  exact getmeth_ok I1 ea c k l (q s1 I1)
def mtK (xs : List InD) (Cs : List Str) (m : Str) (sp : SpD) (tas tks : TAD) (ρ : DEnv) (R : QD) (E : XD) (x : D) (S1 : Sto) : Prop := clsOf S1 x fun a C ks => (Cs.contains C = true ∧ inMs xs C m = true ∧ ks.contains m = false) ∧ tas ρ S1 (fun ds S2 => tks ρ S2 (fun es S3 => sp (.ref a :: (ds ++ es)) S3 R E) E) E
/-- o.m(e, ..): tks gives the keyword-only parameter -/
def dMethK (xs : List InD) (Cs : List Str) (m : Str) (sp : SpD) (to : TED) (tas tks : TAD) : TED := fun ρ S R E => to ρ S (mtK xs Cs m sp tas tks ρ R E) E
def dKN : TAD := fun _ S R _ => R [.non] S
def dK1 (te : TED) : TAD := fun ρ S R E => te ρ S (fun d S1 => R [d] S1) E
variable {Cs : List Str} {pl : Sem Bool}
theorem ped_methD0 (T : InT X.K xs) (M : ∀ C ∈ Cs, CalK X.prog X.w X.K X.mg X.base k C m ["self"] kw sp) (hr : Room j X.A) (hgd : X.A.guards = some []) (tk : Takes X W) (ho : PED X W o to) (hj : k ≤ j := by decide)
    (ht : eval (.Call (.Attribute o m apos) [] [] pos) X.env = (do
      let ov ← eval o X.env
      standAt apos.atName
      let (f, first) ← holding [ov] (getMethod ov m pl)
      callWith pos f first (backTo pos (starEach [] X.env)) (backToKw pos (keywordEach [] X.env))) := by rfl) : PED X W (.Call (.Attribute o m apos) [] [] pos) (dMethK xs Cs m sp to dNil dKN) := by
  refine ⟨fun pins s σ H Q I h => methcall_of (pl := pl) ho I ?_ ht⟩
  obtain ⟨ρ, S, R, E, hS, hρ, hto, bR, bx⟩ := h
  refine ⟨ρ, S, _, E, hS, hρ, hto, fun x S1 r1 H1 v e1 s1 v1 => ?_, bx⟩
  obtain ⟨a, C, ks, dx, vs, rfl, hh, ⟨hC, hm, hk⟩, r1⟩ := clsOf_of s1 r1
  cases v1
  obtain ⟨c1, c2⟩ := inMs_ok T hm
  obtain ⟨fd, F, hb, _⟩ := (M C (by simpa using hC)).ex
  refine ⟨a, _, dx, _, _, rfl, hh, c1, c2, no_field hk, fun sh I1 => ?_⟩
  exact PySem.W.callWith_K0 (first := [.ref a]) I1.kIn c2.kp (run_fnB (args := ⟨[.ref a], []⟩) (us := [.ref a, .none]) (vs := [.ref a, .non]) F (hr.mono hj) hgd (hb sh [.ref a] I1.kIn rfl) tk I1 (.cons rfl (.cons rfl .nil)) (upSp_of (ds := [.ref a, .non]) s1 ⟨.ref a, _, rfl, rfl, .non, [], rfl, rfl, rfl⟩ r1 (bR.ext e1) (bx.ext e1)))
theorem ped_methD (T : InT X.K xs) (M : ∀ C ∈ Cs, CalK X.prog X.w X.K X.mg X.base k C m ps kw sp) (hr : Room j X.A) (hgd : X.A.guards = some []) (tk : Takes X W) (ho : PED X W o to) (ha : PAD X W (e :: es) tas) (hj : k ≤ j := by decide)
    (hst : starEach (e :: es) X.env = (false, eval e X.env) :: starEach es X.env := by rfl) (hpl : (backTo pos (starEach es X.env)).any (·.1) = false := by rfl) (ht : eval (.Call (.Attribute o m apos) (e :: es) [] pos) X.env = (do
      let ov ← eval o X.env
      standAt apos.atName
      let (f, first) ← holding [ov] (getMethod ov m pl)
      callWith pos f first (backTo pos (starEach (e :: es) X.env)) (backToKw pos (keywordEach [] X.env))) := by rfl) : PED X W (.Call (.Attribute o m apos) (e :: es) [] pos) (dMethK xs Cs m sp to tas dKN) := by
  refine ⟨fun pins s σ H Q I h => methcall_of (pl := pl) ho I ?_ ht⟩
  obtain ⟨ρ, S, R, E, hS, hρ, hto, bR, bx⟩ := h
  refine ⟨ρ, S, _, E, hS, hρ, hto, fun x S1 r1 H1 v e1 s1 v1 => ?_, bx⟩
  obtain ⟨a, C, ks, dx, vs, rfl, hh, ⟨hC, hm, hk⟩, r1⟩ := clsOf_of s1 r1
  cases v1
  obtain ⟨c1, c2⟩ := inMs_ok T hm
  obtain ⟨fd, F, hb, _⟩ := (M C (by simpa using hC)).ex
  refine ⟨a, _, dx, _, _, rfl, hh, c1, c2, no_field hk, fun sh I1 => ?_⟩
  refine PySem.W.callWith_K (first := [.ref a]) (h₀ := X.base) I.ok.mod.kin c2.kp (thn (ha.run pos pins sh σ H1 (fun ws H2 => upSp X.K sp (.ref a :: (ws ++ [.non])) H2 Q (WE W σ)) I1 ⟨ρ, S1, _, E, s1, e1.re hS hρ, r1, fun ds' S2 r2 H2 ws e2 s2 v2 => ?_, bx.ext e1⟩) fun us s2 ⟨ws, H2, I2, r, q2⟩ => ⟨I2.kIn, ?_⟩) hst hpl
  · exact upSp_of (ds := .ref a :: (ds' ++ [.non])) s2 ⟨.ref a, ws ++ [.non], rfl, rfl, v2.append (show rvs X.K H2 S2 [.non] [.non] from ⟨.non, [], rfl, rfl, rfl⟩)⟩ (show sp (.ref a :: (ds' ++ [.non])) S2 R E from r2) (bR.ext (e1.trans e2)) (bx.ext (e1.trans e2))
  · have r3 : Vals (.ref a :: (ws ++ [.non])) (.ref a :: (us ++ [Value.none])) := .cons rfl (r.append (.cons rfl .nil))
    have hl : (Value.ref a :: us ++ [Value.none]).length = (ps ++ [kw]).length := by
      have h1 := F.lenV q2
      have h2 := r3.length
      simp only [List.length_cons, List.length_append, List.length_nil] at h1 h2 ⊢
      omega
    exact run_fnB (args := ⟨.ref a :: us, []⟩) F (hr.mono hj) hgd (hb s2 (.ref a :: us) I2.kIn hl) tk I2 r3 q2
theorem ped_methK0 (T : InT X.K xs) (M : ∀ C ∈ Cs, CalK X.prog X.w X.K X.mg X.base k C m ["self"] kw sp) (hr : Room j X.A) (hgd : X.A.guards = some []) (tk : Takes X W) (ho : PED X W o to) (hke : PED X W ke tke) (hj : k ≤ j := by decide)
    (ht : eval (.Call (.Attribute o m apos) [] [⟨some kw, ke, kpos⟩] pos) X.env = (do
      let ov ← eval o X.env
      standAt apos.atName
      let (f, first) ← holding [ov] (getMethod ov m pl)
      callWith pos f first (backTo pos (starEach [] X.env)) (backToKw pos (keywordEach [⟨some kw, ke, kpos⟩] X.env))) := by rfl) : PED X W (.Call (.Attribute o m apos) [] [⟨some kw, ke, kpos⟩] pos) (dMethK xs Cs m sp to dNil (dK1 tke)) := by
  refine ⟨fun pins s σ H Q I h => methcall_kw (pl := pl) ho I ?_ ht⟩
  obtain ⟨ρ, S, R, E, hS, hρ, hto, bR, bx⟩ := h
  refine ⟨ρ, S, _, E, hS, hρ, hto, fun x S1 r1 H1 v e1 s1 v1 => ?_, bx⟩
  obtain ⟨a, C, ks, dx, vs, rfl, hh, ⟨hC, hm, hk⟩, r1⟩ := clsOf_of s1 r1
  cases v1
  obtain ⟨c1, c2⟩ := inMs_ok T hm
  obtain ⟨fd, F, _, hb⟩ := (M C (by simpa using hC)).ex
  refine ⟨a, _, dx, _, _, rfl, hh, c1, c2, no_field hk, fun sh I1 => ?_⟩
  have hk1 : PK X [⟨some kw, ke, kpos⟩] (tCons (upE X.K W tke) tNil) := pk_cons hke pk_nil
  refine PySem.W.callWith_KW0 (first := [.ref a]) (h₀ := X.base) I.ok.mod.kin c2.kp rfl (thn (hk1.run pos pins sh σ H1 (fun ws H2 => ∃ v, ws = [v] ∧ upSp X.K sp [.ref a, v] H2 Q (WE W σ)) I1 ⟨ρ, S1, _, E, s1, e1.re hS hρ, r1, fun d S2 r2 H2 v e2 s2 v2 => ⟨v, rfl, ?_⟩, bx.ext e1⟩) fun us s2 ⟨ws, H2, I2, r, v, ew, q2⟩ => ⟨I2.kIn, ?_⟩) rfl
  · exact upSp_of (ds := [.ref a, d]) s2 ⟨.ref a, _, rfl, rfl, v, [], rfl, v2, rfl⟩ r2 (bR.ext (e1.trans e2)) (bx.ext (e1.trans e2))
  · subst ew
    cases r with
    | @cons _ u0 _ _ rv0 r0 =>
      cases r0
      exact run_fnB (args := ⟨[.ref a], [(kw, u0)]⟩) (us := [.ref a, u0]) (vs := [.ref a, v]) F (hr.mono hj) hgd (hb s2 [.ref a] u0 rfl) tk I2 (.cons rfl (.cons rv0 .nil)) q2
theorem ped_methK (T : InT X.K xs) (M : ∀ C ∈ Cs, CalK X.prog X.w X.K X.mg X.base k C m ps kw sp) (hr : Room j X.A) (hgd : X.A.guards = some []) (tk : Takes X W) (ho : PED X W o to) (ha : PAD X W (e :: es) tas) (hke : PED X W ke tke) (hj : k ≤ j := by decide)
    (hst : starEach (e :: es) X.env = (false, eval e X.env) :: starEach es X.env := by rfl) (hpl : ((backTo pos (starEach (e :: es) X.env)).any (·.1) || (backToKw pos (keywordEach [⟨some kw, ke, kpos⟩] X.env)).any (·.1.isNone)) = false := by rfl) (ht : eval (.Call (.Attribute o m apos) (e :: es) [⟨some kw, ke, kpos⟩] pos) X.env = (do
      let ov ← eval o X.env
      standAt apos.atName
      let (f, first) ← holding [ov] (getMethod ov m pl)
      callWith pos f first (backTo pos (starEach (e :: es) X.env)) (backToKw pos (keywordEach [⟨some kw, ke, kpos⟩] X.env))) := by rfl) : PED X W (.Call (.Attribute o m apos) (e :: es) [⟨some kw, ke, kpos⟩] pos) (dMethK xs Cs m sp to tas (dK1 tke)) := by
  refine ⟨fun pins s σ H Q I h => methcall_kw (pl := pl) ho I ?_ ht⟩
  obtain ⟨ρ, S, R, E, hS, hρ, hto, bR, bx⟩ := h
  refine ⟨ρ, S, _, E, hS, hρ, hto, fun x S1 r1 H1 v e1 s1 v1 => ?_, bx⟩
  obtain ⟨a, C, ks, dx, vs, rfl, hh, ⟨hC, hm, hk⟩, r1⟩ := clsOf_of s1 r1
  cases v1
  obtain ⟨c1, c2⟩ := inMs_ok T hm
  obtain ⟨fd, F, _, hb⟩ := (M C (by simpa using hC)).ex
  refine ⟨a, _, dx, _, _, rfl, hh, c1, c2, no_field hk, fun sh I1 => ?_⟩
  have hk1 : PK X [⟨some kw, ke, kpos⟩] (tCons (upE X.K W tke) tNil) := pk_cons hke pk_nil
  refine PySem.W.callWith_KW (first := [.ref a]) (h₀ := X.base) I.ok.mod.kin c2.kp rfl (thn (ha.run pos pins sh σ H1 (fun ws H2 => tCons (upE X.K W tke) tNil σ H2 fun zs H3 => ∃ v, zs = [v] ∧ upSp X.K sp (.ref a :: (ws ++ [v])) H3 Q (WE W σ)) I1 ⟨ρ, S1, _, E, s1, e1.re hS hρ, r1, fun ds' S2 r2 H2 ws e2 s2 v2 => ?_, bx.ext e1⟩) fun us s2 ⟨ws, H2, I2, r, q2⟩ => ?_) hpl hst
  · have e12 := e1.trans e2
    exact ⟨ρ, S2, _, E, s2, e12.re hS hρ, r2, fun d S3 r3 H3 v e3 s3 v3 => ⟨v, rfl, upSp_of (ds := .ref a :: (ds' ++ [d])) s3 ⟨.ref a, ws ++ [v], rfl, rfl, (e3.rvs s2 _ _ v2).append ⟨v, [], rfl, v3, rfl⟩⟩ r3 (bR.ext (e12.trans e3)) (bx.ext (e12.trans e3))⟩, bx.ext e12⟩
  · refine thn (hk1.run pos pins s2 σ H2 (fun zs H3 => ∃ v, zs = [v] ∧ upSp X.K sp (.ref a :: (ws ++ [v])) H3 Q (WE W σ)) I2 q2) fun ks2 s3 ⟨zs, H3, I3, rz, v, ez, q3⟩ => ⟨I3.kIn, ?_⟩
    subst ez
    cases rz with
    | @cons _ u0 _ _ rv0 r0 =>
      cases r0
      have r3 : Vals (.ref a :: (ws ++ [v])) (.ref a :: (us ++ [u0])) := .cons rfl (r.append (.cons rv0 .nil))
      have hl : (Value.ref a :: us).length = ps.length := by
        have h1 := F.lenV q3
        have h2 := r3.length
        simp only [List.length_cons, List.length_append, List.length_nil] at h1 h2 ⊢
        omega
      exact run_fnB (args := ⟨.ref a :: us, [(kw, u0)]⟩) F (hr.mono hj) hgd (hb s3 (.ref a :: us) u0 hl) tk I3 r3 q3
end
end Dl
namespace Dl
open PySem PySem.Spec PyProof.Rows L2
/-! ### raise C(), C an own class without own __init__ -/
def bmVE : List Value := [.type "ValueError", .type "Exception", .type "BaseException", .type "object"]
def bareB (K : PySem.W.Frag) (C : Str) : Bool := PySem.W.excIn K (He.ga K C) bmVE "ValueError.__new__" && (PySem.W.keepIn K (eC K C) && (decide (PySem.W.subIn K (eC K C) (.type "BaseException") = some true) && decide (PySem.W.typeIn K (eC K C) = some (.type "type"))))
def sRaise0 (C : Str) : TSD := fun D ρ S => D.xc ⟨C, [], []⟩ ρ S
section
variable {X : Cx} {W : WX} {C : Str} {p pos cpos : Pos}
theorem pmk_own0 {x : Str} {C : Addr} {bmB : List Value} {B newId initId : String} (F : ExcBaseFacts B newId initId bmB) (q : PySem.W.excIn X.K C bmB newId = true) (gC : X.mg x = some (.ref C)) (kC : PySem.W.keepIn X.K (.ref C) = true) (r : Raises X (.ref C)) (hg : Gl X x)
    (hdb : (x == ("__debug__" : Str)) = false := by decide) : PMk X (.Call (.Name x p) [] [] pos) (fun _ H Q => Q (.ref C) none H) := by
  intro pins s σ H Q I h
  refine wpAny_Call_Name_kw (ld_glob I hg gC ?_ hdb)
  refine PySem.W.callWith_K0 I.kIn kC ?_
  show wpAny _ _ (call (.ref C) []) _ _ _
  obtain ⟨bm, N, nm, qn, bs, hdct, sn, sub, ab, col, dd, k0, k1, k2, k3, k5, mN, hC, hN, hni, T⟩ := exc_obj I.kIn q
  refine wpAny_call_exc_subT F T hC hN hni (fun h' e hm => ?_) (Nat.zero_le _)
  exact mk_of I hm r h (I.hok.gone hm.new)
theorem psd_raise0 (hb : bareB X.K C = true) (gC : X.mg C = some (eC X.K C)) (tk : Takes X W) (hc : X.calm = true := by rfl) (hg : Gl X C := by rfl) (hdb : (C == ("__debug__" : Str)) = false := by decide) : PSD X W (.Raise (some (.Call (.Name C p) [] [] cpos)) none pos) (sRaise0 C) := by
  obtain ⟨h1, h2⟩ := He.ba hb
  obtain ⟨h3, h4⟩ := He.ba h2
  obtain ⟨h5, h6⟩ := He.ba h4
  refine PS_imp (ps_raise hc tk (pmk_own0 F.excBase_ValueError h1 gC h3 (raises_own (of_decide_eq_true h5) (of_decide_eq_true h6)) hg hdb)) fun D σ H h => ?_
  obtain ⟨ρ, S, R, hS, hρ, ht, b1, b2, b3, b4, b5⟩ := upS_eq.mp h
  exact b5 ⟨C, [], []⟩ ρ S ht σ H _ none (Ext.refl H S) hS hρ ⟨rfl, .inl ⟨rfl, rfl, rfl⟩⟩
end
/-! ### str(o), o an instance with its own __str__ -/
def isS (d : D) (Q : Str → Prop) : Prop := match d with
  | .str i => Q i
  | _ => False
section
variable {X : Cx} {W : WX} {o e fe : Expr} {es : List Expr} {to te tf : TED} {tas : TAD} {xs : List InD} {f m C : Str} {pos p apos : Pos} {k j : Nat} {ps : List Str} {sp : SpD}
def cStrO (xs : List InD) (Cs : List Str) (sp : SpD) : RCD := fun ds S R => one ds fun x => clsOf S x fun a C _ => (Cs.contains C = true ∧ inMs xs C "__str__" = true) ∧ sp [.ref a] S (fun d S1 => isS d fun u => R (.str u) S1) E0D
theorem cd_strO {Cs : List Str} (T : InT X.K xs) (M : ∀ C ∈ Cs, CalM X.prog X.w X.K X.mg X.base k C "__str__" ["self"] sp) (hr : Room j X.A) (hgd : X.A.guards = some []) (hj : k + 2 ≤ j := by decide) : CallR X (.type "str") (upC X.K (cStrO xs Cs sp)) := by
  intro pins s σ H vs us Q I r h
  obtain ⟨ds, S, R, hS, q, h, bR⟩ := h
  obtain ⟨x, rfl, h⟩ := one_of h
  obtain ⟨v, rfl, rx⟩ := q.one
  obtain ⟨a, C, ks, dx, ws, rfl, hh, ⟨hC, hm⟩, h⟩ := clsOf_of hS h
  cases rx
  rw [Vals.ref1 r]
  obtain ⟨c1, c2⟩ := inMs_ok T hm
  obtain ⟨fd, F, hb⟩ := (M C (by simpa using hC)).ex
  obtain ⟨ox, od, J⟩ := inst_of I hh
  refine PySem.W.kso_call ?_ I.kIn J c2.at_ c2.fn (run_at (P' := X.prog) (Q := fun v H' => ∃ u : Str, v = .str u ∧ Q (.str u) H') F hb (((hr.mono hj).in1).in1) hgd ((I.env0.in1).in1) I (vs := [.ref a]) (.cons rfl .nil) ⟨[.ref a], S, _, _, hS, ⟨.ref a, [], rfl, rfl, rfl⟩, h, fun d S1 r1 H1 v1 e1 s1 rv1 => ?_, fun _ _ z => z.elim⟩ fun u s' hu => ?_)
  · exact (((hr.mono hj).in1).in1).units0
  · cases d with
    | str u => cases rv1; exact ⟨u, rfl, bR _ S1 r1 H1 _ e1 s1 rfl⟩
    | _ => exact r1.elim
  · obtain ⟨v, H', I', rv', i, rfl, q⟩ := hu
    obtain ⟨t, rfl⟩ := rv'
    exact ⟨.str i, H', I', ⟨t, rfl⟩, q⟩
/-! ### o.f, f a constant of o's class -/
inductive CoD where
  | int (i : Int)
def CoD.d : CoD → D
  | .int i => .int i
def CoD.dv : CoD → He.Dv
  | .int i => .int i
def conOk (K : PySem.W.Frag) (cs : List (Str × Str × CoD)) : Bool := cs.all fun q => He.conB K q.1 q.2.1 q.2.2.dv && !PySem.W.copiedNames.contains q.2.1
def dCon (xs : List InD) (cs : List (Str × Str × CoD)) (f : Str) (te : TED) : TED := fun ρ S R E => te ρ S (fun x S1 => clsOf S1 x fun _ C ks => ks.contains f = false ∧ (inFind xs C).isSome = true ∧ ∃ v, (C, f, v) ∈ cs ∧ R v.d S1) E
theorem ped_con {cs : List (Str × Str × CoD)} (T : InT X.K xs) (hc : conOk X.K cs = true) (he : PED X W e te) (hb : attributeBase e f X.env (eval e X.env) = eval e X.env := by rfl) : PED X W (.Attribute e f pos) (dCon xs cs f te) := by
  refine PE_imp (pe_con he hb) fun σ H Q h => ?_
  obtain ⟨ρ, S, R, E, hS, hρ, ht, bR, bx⟩ := h
  refine ⟨ρ, S, _, E, hS, hρ, ht, fun x S1 r1 H1 v e1 s1 v1 => ?_, bx⟩
  obtain ⟨a, C, ks, dx, vs, rfl, hh, h1, h2, u, h3, r1⟩ := clsOf_of s1 r1
  cases v1
  have h4 := List.all_eq_true.mp hc _ h3
  obtain ⟨h5, h6⟩ := He.ba h4
  obtain ⟨w, hw⟩ := He.conB_ok h5 (by simpa using h6)
  obtain ⟨d, hd⟩ := Option.isSome_iff_exists.mp h2
  obtain ⟨F, rfl⟩ := inFind_ok T hd
  refine ⟨a, _, dx, _, _, w, rfl, hh, F.c, hw, no_field h1, ?_⟩
  cases u with
  | int i => exact bR _ S1 r1 H1 _ e1 s1 rfl
end
end Dl
namespace Dl
open PySem PySem.Spec PyProof.Rows L2
def chkZ (ex : List ExD) (inn : List InD) (ow : List Str) (ba : List Str) (co : List (Str × Str × CoD)) (K : PySem.W.Frag) : Bool := chkY ex inn ow K && ((ba.all fun c => bareB K c) && conOk K co)
theorem chkZ_ok {ex : List ExD} {inn : List InD} {ow ba : List Str} {co : List (Str × Str × CoD)} {K : PySem.W.Frag} (h : chkZ ex inn ow ba co K = true) : ExT K ex ∧ InT K inn ∧ IsF K inn ow ∧ (∀ c ∈ ba, bareB K c = true) ∧ conOk K co = true := by
  obtain ⟨h1, h2⟩ := He.ba h
  obtain ⟨h3, h4⟩ := He.ba h2
  obtain ⟨a, b, c⟩ := chkY_ok h1
  exact ⟨a, b, c, List.all_eq_true.mp h3, h4⟩
end Dl
namespace Dl
open PySem PySem.Spec PyProof.Rows L2 TL
/-! ### bounds of reach -/
theorem sum_bd {ws : List Int} {m : Int} (h : ∀ w ∈ ws, 0 ≤ w ∧ w ≤ m) : 0 ≤ ws.sum ∧ ws.sum ≤ m * ws.length := by
  induction ws with
  | nil => simp
  | cons w ws ih =>
    obtain ⟨h1, h2⟩ := ih fun x hx => h x (by simp [hx])
    have := h w (by simp)
    rw [List.sum_cons, List.length_cons]
    refine ⟨by omega, ?_⟩
    have e : m * ((ws.length + 1 : Nat) : Int) = m * ws.length + m := by rw [Int.natCast_add, Int.mul_add]; simp
    rw [e]; omega
theorem Tw.sum {t : Twr} (h : Tw t) : 0 ≤ t.2.sum ∧ t.2.sum ≤ 24000000 := by
  obtain ⟨h1, h2⟩ := sum_bd (ws := t.2) (m := 1000000) fun w hw => by have := h.w w hw; omega
  have := h.n
  refine ⟨h1, ?_⟩
  have : (1000000 : Int) * t.2.length ≤ 1000000 * 24 := Int.mul_le_mul_of_nonneg_left (by omega) (by decide)
  omega
theorem Tw.reach {t : Twr} (h : Tw t) : 0 ≤ reachW t ∧ reachW t ≤ 24000000 := by
  have hs := h.sum
  unfold reachW
  split
  · exact hs
  · obtain ⟨h1, h2⟩ := lighter_le (ws := t.2) (x := t.2.getD ‹Int›.toNat 0) fun w hw => by have := h.w w hw; omega
    exact ⟨h1, by omega⟩
/-! ### edits as data -/
def edP : Edt → PyData
  | .come w => .tuple [.str "come", .int w]
  | .leave p => .tuple [.str "leave", .int p]
  | .weigh p w => .tuple [.str "weigh", .int p, .int w]
  | .loosen e => .tuple [.str "loosen", .int e]
theorem ed_py (ed : Edt) : py (edD ed) = some (edP ed) := by cases ed <;> rfl
def edW : Edt → Prop
  | .come w => 0 ≤ w ∧ w ≤ 1000000
  | .leave p => 0 ≤ p ∧ p ≤ 1000000
  | .weigh p w => (0 ≤ p ∧ p ≤ 1000000) ∧ 0 ≤ w ∧ w ≤ 1000000
  | .loosen e => 0 ≤ e ∧ e ≤ 1000000
theorem edOk.w {t : Twr} (ht : Tw t) {ed : Edt} (h : edOk t ed) : edW ed := by
  have := ht.n
  cases ed with
  | come w => have := h.1; exact ⟨by omega, by omega⟩
  | leave p => have := h.1; have := h.2; exact ⟨by omega, by omega⟩
  | weigh p w => have h1 := h.1; have h2 := h.2; exact ⟨⟨by omega, by omega⟩, by omega, by omega⟩
  | loosen e => have := h.1; have := h.2; exact ⟨by omega, by omega⟩
theorem small_int {i : Int} (h : 0 ≤ i ∧ i ≤ 1000000000) : smallx (.int i) = true := by
  unfold smallx
  rw [decide_eq_true_eq]
  exact .inl ⟨h.1, Int.lt_of_le_of_lt h.2 (by decide)⟩
theorem small_lit {s : String} (h : (s.toList.all fun c => decide (c.toNat < 0x110000)) = true) : smallx (.str (Str.ofString s)) = true := by
  unfold smallx; exact okT_iff.mpr (okT_lit h)
theorem small_edP {ed : Edt} (h : edW ed) : smallx (edP ed) = true := by
  cases ed with
  | come w => show (smallx (.str "come") && (smallx (.int w) && true)) = true; rw [small_lit (s := "come") (by decide), small_int ⟨h.1, Int.le_trans h.2 (by decide)⟩]; rfl
  | leave w => show (smallx (.str "leave") && (smallx (.int w) && true)) = true; rw [small_lit (s := "leave") (by decide), small_int ⟨h.1, Int.le_trans h.2 (by decide)⟩]; rfl
  | weigh p w => show (smallx (.str "weigh") && (smallx (.int p) && (smallx (.int w) && true))) = true; rw [small_lit (s := "weigh") (by decide), small_int ⟨h.1.1, Int.le_trans h.1.2 (by decide)⟩, small_int ⟨h.2.1, Int.le_trans h.2.2 (by decide)⟩]; rfl
  | loosen w => show (smallx (.str "loosen") && (smallx (.int w) && true)) = true; rw [small_lit (s := "loosen") (by decide), small_int ⟨h.1, Int.le_trans h.2 (by decide)⟩]; rfl
theorem small_eds : ∀ {eds : List Edt}, (∀ ed ∈ eds, edW ed) → smallxAll (eds.map edP) = true
  | [], _ => rfl
  | ed :: eds, h => by rw [List.map_cons, smallxAll, small_edP (h ed (by simp)), small_eds fun x hx => h x (by simp [hx])]; rfl
theorem bulk_edP (ed : Edt) : (edP ed).bulk ≤ 20 := by cases ed <;> (simp [edP, PyData.bulk, PyData.bulkAll]; try decide)
theorem depth_edP (ed : Edt) : (edP ed).depth ≤ 1 := by cases ed <;> simp [edP, PyData.depth, PyData.depthAll]
theorem bulk_eds : ∀ eds : List Edt, PyData.bulkAll (eds.map edP) ≤ 20 * eds.length + eds.length
  | [] => by simp [PyData.bulkAll]
  | ed :: eds => by
    have h1 := bulk_edP ed
    have h2 := bulk_eds eds
    rw [List.map_cons, PyData.bulkAll, List.length_cons]
    omega
theorem depth_eds : ∀ eds : List Edt, PyData.depthAll (eds.map edP) ≤ 1
  | [] => by simp [PyData.depthAll]
  | ed :: eds => by
    have h1 := depth_edP ed
    have h2 := depth_eds eds
    rw [List.map_cons, PyData.depthAll]
    omega
theorem pys_eds (eds : List Edt) : pys (eds.map edD) = some (eds.map edP) := pys_map ed_py eds
/-- what a hoist shows -/
def shD (t : Twr) (eds : List Edt) : D := .lst [twD t, .int (reachW t), .bl (isFree t), twD t, .tup (eds.map edD), .int (eds.length : Nat)]
theorem sh_pw {t : Twr} {eds : List Edt} (ht : Tw t) (h : ∀ ed ∈ eds, edW ed) (hl : eds.length ≤ 60) : ∃ p, Pw (shD t eds) p := by
  obtain ⟨b1, b2, b3⟩ : smallx (twP t) = true ∧ (twP t).bulk ≤ 1000 ∧ (twP t).depth ≤ 2 := by
    refine ⟨ht.pw.s, ?_, ?_⟩
    · show PyData.bulk (.tuple [.int t.1, .tuple (t.2.map .int)]) ≤ _
      simp only [PyData.bulk, PyData.bulkAll, bulk_ints]
      have := ht.n; omega
    · show PyData.depth (.tuple [.int t.1, .tuple (t.2.map .int)]) ≤ _
      simp only [PyData.depth, PyData.depthAll, depth_ints]; decide
  have hr := ht.reach
  refine ⟨.list [twP t, .int (reachW t), .bool (isFree t), twP t, .tuple (eds.map edP), .int (eds.length : Nat)], ?_, ?_, ?_, ?_⟩
  · show py (.lst [twD t, .int (reachW t), .bl (isFree t), twD t, .tup (eds.map edD), .int (eds.length : Nat)]) = _
    unfold py
    rw [pys, tw_py, pys, py, pys, py, pys, tw_py, pys, py, pys_eds, pys, py, pys]
    rfl
  · show (smallx (twP t) && (smallx (.int (reachW t)) && (true && (smallx (twP t) && (smallxAll (eds.map edP) && (smallx (.int (eds.length : Nat)) && true)))))) = true
    rw [b1, small_int ⟨hr.1, by omega⟩, small_eds h, small_int ⟨by omega, by omega⟩]; rfl
  · have := bulk_eds eds
    simp only [PyData.bulk, PyData.bulkAll]
    omega
  · have := depth_eds eds
    simp only [PyData.depth, PyData.depthAll]
    omega
/-! ### str of a hoist -/
def strH (t : Twr) (k : Nat) : Str := dec (t.2.length : Nat) ++ " people, excess " ++ dec t.1 ++ ", reach " ++ dec (reachW t) ++ ", " ++ dec (k : Nat) ++ " edits"
theorem strH_join (t : Twr) (k : Nat) : Txt.join (Str.ofString " ") [dec (t.2.length : Nat), "people, excess", dec t.1 ++ ", reach", dec (reachW t) ++ ",", dec (k : Nat), "edits"] = strH t k := by
  rw [join_eq]
  refine ext_tl ?_
  rw [tl_join]
  simp only [List.map_cons, List.map_nil, tl_append, strH, joinL, List.append_assoc]
  rfl
theorem ok_strH (t : Twr) (k : Nat) : okT (strH t k) := okT_app (okT_app (okT_app (okT_app (okT_app (okT_app (okT_app (okT_dec _) (okT_lit (by decide))) (okT_dec _)) (okT_lit (by decide))) (okT_dec _)) (okT_lit (by decide))) (okT_dec _)) (okT_lit (by decide))
end Dl
namespace Dl
open PySem PySem.Spec PyProof.Rows L2 TL
section
variable {K : PySem.W.Frag} {S : Sto} {R : QD} {E : XD} {ρ : DEnv} {a : Addr} {C f m : Str} {ks : List Str} {ds : List D} {d : D} {xs : List InD} {Cs : List Str} {sp : SpD} {te to tv : TED} {tas tks : TAD}
variable {b : Option Int} {tws : List Twr} {eds : List Edt} {w : Bool}
theorem r_dMethK : dMethK xs Cs m sp to tas tks ρ S R E = to ρ S (mtK xs Cs m sp tas tks ρ R E) E := rfl
theorem r_mtKH (h : S a = some (hob b tws eds w)) (i : Cs.contains (hC b) = true ∧ inMs xs (hC b) m = true ∧ (hks b).contains m = false) : mtK xs Cs m sp tas tks ρ R E (.ref a) S = tas ρ S (fun ds S2 => tks ρ S2 (fun es S3 => sp (.ref a :: (ds ++ es)) S3 R E) E) E := by
  unfold mtK
  rw [clsOf_hst h]
  exact propext ⟨fun z => z.2, fun z => ⟨i, z⟩⟩
theorem r_dKN : dKN ρ S = fun R (_ : XD) => R [.non] S := rfl
theorem r_dK1 {R : List D → Sto → Prop} : dK1 te ρ S R E = te ρ S (fun d S1 => R [d] S1) E := rfl
def st1 (R : QD) (d : D) (S1 : Sto) : Prop := isS d fun u => R (.str u) S1
theorem r_st1 {u : Str} : st1 R (.str u) S = R (.str u) S := rfl
theorem r_strO (h : S a = some (hob b tws eds w)) (i : Cs.contains (hC b) = true ∧ inMs xs (hC b) "__str__" = true) : cStrO xs Cs sp [.ref a] S R = sp [.ref a] S (st1 R) E0D := by
  show (clsOf S (.ref a) fun a C _ => (Cs.contains C = true ∧ inMs xs C "__str__" = true) ∧ sp [.ref a] S (st1 R) E0D) = _
  rw [clsOf_hst h]
  exact propext ⟨fun z => z.2, fun z => ⟨i, z⟩⟩
def cn1 (xs : List InD) (cs : List (Str × Str × CoD)) (f : Str) (R : QD) (x : D) (S1 : Sto) : Prop := clsOf S1 x fun _ C ks => ks.contains f = false ∧ (inFind xs C).isSome = true ∧ ∃ v, (C, f, v) ∈ cs ∧ R v.d S1
theorem r_dCon {cs : List (Str × Str × CoD)} : dCon xs cs f te ρ S R E = te ρ S (cn1 xs cs f R) E := rfl
theorem r_cn (h : S a = some (hob b tws eds w)) {cs : List (Str × Str × CoD)} {v : CoD} (i : (hks b).contains f = false ∧ (inFind xs (hC b)).isSome = true) (hm : (hC b, f, v) ∈ cs) (r : R v.d S) : cn1 xs cs f R (.ref a) S := by
  unfold cn1
  rw [clsOf_hst h]
  exact ⟨i.1, i.2, v, hm, r⟩
end
end Dl
namespace Dl
open PySem PySem.Spec PyProof.Rows L2 TL
theorem r_eqT0 {S : Sto} {R : QD} {ws : List Int} : opEq (.tup (ws.map .int)) (.tup []) S R = R (.bl (decide (ws = []))) S := eq_en (isE (Tp.mk ws)) (isE (Tp.mk ([] : List Int))) (fun _ _ => trivial) (fun _ _ => trivial) (by decide) (by simp)
end Dl
/-! ### t * k, k at most 0 -/
namespace DlMu
open PySem PySem.Spec PyProof.Rows L2
theorem mul_none (a : Addr) (xs : Array Value) (c : Nat) (di : Option Addr) (so : Array (Option Value)) (k : Int) (tk : Tok) (h0 : (decide (k < -(2 ^ 63)) || decide (k ≥ 2 ^ 63)) = false) (h1 : (xs.isEmpty || k == 1) = false) (h2 : (decide (k ≤ 0) || xs.isEmpty) = true) :
    Meets (Builtin.«tuple.__mul__» ⟨[.ref a, .int k tk], []⟩) (fun _ Rr z => z.heap.get? a = some { cls := .type "tuple", dict := di, data := .seq xs c, slots := so } ∧ Rr (.ok (.ret (Value.ref z.heap.objs.size))) { z with heap := z.heap.push { cls := Value.type "tuple", data := Data.seq #[] }, toks := z.toks }) := .of_wp fun prog w A Rr z hz => by
  obtain ⟨hp, g, d, tt, os⟩ := z
  obtain ⟨ha, hz⟩ := hz
  have q1 := AutoSeq1.idx_int
  wp_walk using wpAny_loadPart' ha
  refine wpAny_ite_false (decide_eq_false (by rw [h0]; decide)) ?_
  wp_walk using wpAny_loadPart' ha
  exact ⟨_, rfl, hz⟩
def rRep0 (K : PySem.W.Frag) : R2 := fun x y H Q => ∃ a k xs, x = .ref a ∧ y = .int k ∧ SqT K H a xs ∧ xs ≠ [] ∧ -1000 ≤ k ∧ k ≤ 0 ∧ ∀ p, H p = none → Q (.ref p) (upd H p (.tup []))
theorem op_rep0 {X : Cx} : OpR X (binaryOp .Mult) (rRep0 X.K) := by
  intro pins z σ H x y v u Q I rx ry hh
  obtain ⟨a, k, xs, rfl, rfl, hT, hne, k1, k2, q⟩ := hh
  cases rx
  obtain ⟨tk, rfl⟩ := ry
  obtain ⟨ys, r, ⟨⟨cls, di, data, so⟩, ho, hc, c, hd⟩, hs⟩ := I.tuple hT
  simp only at hc hd
  subst hc hd
  have hn : ys ≠ [] := fun e => hne (by rw [e] at r; cases r; rfl)
  have hi : ys.toArray.isEmpty = false := by
    match ys, hn with
    | _ :: _, _ => rfl
  have g0 : (decide (k < -(2 ^ 63)) || decide (k ≥ 2 ^ 63)) = false := by rw [decide_eq_false (show ¬ k < -(2 ^ 63) by omega), decide_eq_false (show ¬ k ≥ 2 ^ 63 by omega)]; rfl
  have g1 : (ys.toArray.isEmpty || k == 1) = false := by rw [hi]; exact beq_eq_false_iff_ne.mpr (by omega)
  have g2 : (decide (k ≤ 0) || ys.toArray.isEmpty) = true := by rw [decide_eq_true k2]; rfl
  refine wpAny_binaryOp_repeat_ref (U := "int") (T := "tuple") (by decide) ⟨_, ho, rfl⟩ (fun z' => typeIs_int z' k tk) noFill_tuple_mul F.fills_int_mul F.slot_int_rmul repeat_tuple F.slot_int_index.lookup ?_
  refine call_meets F.slot_int_rmul (typeIs_int z k tk) F.entry_int_rmul (F.args_int_rmul_2 _ _) (int_rmul_tuple k tk a ys.toArray c di so) ⟨ho, rfl, ⟨_, ho, rfl⟩, ?_⟩
  refine call_meets F.slot_tuple_mul ⟨_, ho, rfl⟩ F.entry_tuple_mul (F.args_tuple_mul_2 _ _) (mul_none a ys.toArray c di so k tk g0 g1 g2) ⟨ho, ?_⟩
  refine ⟨.ref z.heap.objs.size, _, I.laid (t' := z.toks) (o := .tup []) (fun b ob e => Heap.get?_push_of_some _ e) (Nat.le_refl _) ?_, rfl, q _ (I.hok.fresh (Nat.le_refl _))⟩
  exact ⟨Nat.zero_le _, _, .nil, IsTup.new _ _⟩
end DlMu
namespace Dl
open PySem PySem.Spec PyProof.Rows L2
def opMulA : R2D := fun x y S R => match x with
  | .tup ds => (match y with
    | .int k => ds ≠ [] ∧ ((-1000 ≤ k ∧ k ≤ 0) ∨ (2 ≤ k ∧ k ≤ 1000)) ∧ ds.length ≤ 1000 ∧ R (.tup (List.replicate k.toNat ds).flatten) S
    | _ => False)
  | _ => False
theorem r_mulA {ds : List D} {k : Int} {S : Sto} {R : QD} : opMulA (.tup ds) (.int k) S R = (ds ≠ [] ∧ ((-1000 ≤ k ∧ k ≤ 0) ∨ (2 ≤ k ∧ k ≤ 1000)) ∧ ds.length ≤ 1000 ∧ R (.tup (List.replicate k.toNat ds).flatten) S) := rfl
theorem opd_mulA {X : Cx} : OpR X (binaryOp .Mult) (upR X.K opMulA) := by
  intro pins z σ H v u a b Q I rx ry hh
  obtain ⟨x, y, S, R, hS, r1, r2, r, bR⟩ := hh
  cases x with
  | tup ds =>
    cases y with
    | int k =>
      obtain ⟨h0, h1, h2, h⟩ := r
      rcases h1 with h1 | h1
      · cases r2
        obtain ⟨p, vs, rfl, hp, q⟩ := r1
        refine DlMu.op_rep0 pins z σ H _ _ a b Q I rx ry ⟨p, k, vs, rfl, rfl, SqT.of hp, fun e => h0 (List.eq_nil_of_length_eq_zero (by rw [q.len, e]; rfl)), h1.1, h1.2, fun n hn => ?_⟩
        have e : k.toNat = 0 := by omega
        rw [e] at h
        exact bR _ S h _ _ (Ext.new hn) (hS.new hn) (rv.tup_new hS hn (show rvs X.K H S [] [] from rfl))
      · exact opd_mulT pins z σ H _ _ a b Q I rx ry ⟨.tup ds, .int k, S, R, hS, r1, r2, ⟨h0, h1.1, h1.2, h2, h⟩, bR⟩
    | _ => exact r.elim
  | _ => exact r.elim
end Dl
namespace Dl
open PySem PySem.Spec PyProof.Rows L2
section
variable {X : Cx} {W : WX} {st : Stmt} {sts : List Stmt} {t u : TSD}
/-- the ways behind a statement are joined: what holds behind it -/
def sCut (t u : TSD) : TSD := fun D ρ S => ∃ Mid : DEnv → Sto → Prop, t { D with nx := Mid } ρ S ∧ ∀ ρ' S', Mid ρ' S' → u D ρ' S'
theorem pssd_cut (h1 : PSD X W st t) (h2 : PSsD X W sts u) : PSsD X W (st :: sts) (sCut t u) := PSs_imp (pss_cons h1 h2) fun D σ H h => by
  obtain ⟨ρ, S, R, hS, hρ, ⟨Mid, ht, hm⟩, b1, b2, b3, b4, b5⟩ := upS_eq.mp h
  refine upS_eq.mpr ⟨ρ, S, { R with nx := Mid }, hS, hρ, ht, fun ρ1 S1 r1 σ1 H1 e1 s1 v1 => ?_, b2, b3, b4, b5⟩
  exact upS_eq.mpr ⟨ρ1, S1, R, s1, v1, hm ρ1 S1 r1, b1.ext e1, b2.ext e1, b3.ext e1, b4.ext e1, b5.ext e1⟩
end
end Dl
namespace Dl
open PySem PySem.Spec PyProof.Rows L2 TL
theorem cutS_len (z : Str) (l u : Option Int) : (cutS z l u).length ≤ z.length := by
  rw [len_tl, len_tl]
  have : tl (cutS z l u) = Dl.cutD (tl z) l u := by
    unfold cutS Dl.cutD
    simp [tl, len_tl]
  rw [this]; exact cut_len _ _ _
/-- two cuts of a text, one ahead of p, one from q on, p at most q -/
theorem cutS_both (z : Str) {p q : Int} (h : 0 ≤ p) (k : p ≤ q) : (cutS z none (some p)).length + (cutS z (some q) none).length ≤ z.length := by
  have e : ∀ l u, tl (cutS z l u) = Dl.cutD (tl z) l u := fun l u => by
    unfold cutS Dl.cutD
    simp [tl, len_tl]
  rw [len_tl, len_tl (x := cutS z (some q) none), len_tl (x := z), e, e, cutD_take' _ h, cutD_drop _ (by omega), List.length_take, List.length_drop]
  omega
end Dl
namespace Dl
open PySem PySem.Spec PyProof.Rows L2 TL
section
variable {S : Sto} {R : QD} {a : Addr} {xs : List InD} {ow : List Str} {b : Option Int} {tws : List Twr} {eds : List Edt} {w : Bool}
theorem r_isXHt {T : String} {k : Bool} (h : S a = some (hob b tws eds w)) (e : isT xs (hC b) T = some k) : cIsX xs ow [.ref a, .ty T] S R = R (.bl k) S := by
  have tg : tagD S (.ref a) = some (.own (hC b)) := by
    unfold tagD
    simp only [h, hob]
  unfold cIsX
  rw [r_two, tg]
  have e' : isA xs ow (.own (hC b)) (.ty T) = some k := by unfold isA; exact e
  refine propext ⟨fun ⟨g, eg, z⟩ => ?_, fun r => ⟨_, rfl, k, e', r⟩⟩
  cases eg
  obtain ⟨k', ek, r⟩ := z
  rw [e'] at ek; cases ek
  exact r
theorem perm_self (t : Twr) : decide (t.1 = t.1 ∧ t.2.isPerm t.2 = true) = true := decide_eq_true ⟨rfl, List.isPerm_iff.mpr (.refl _)⟩
end
end Dl
namespace Lw
open PySem PySem.Spec PyProof.Rows L2 Dl
def top (i : Nat) : Stmt := PySem.Challenge.pw_basketrope_k45_whole_hoists_read.main.body.getD i (.Pass ⟨0, 0, 0, 0⟩)
def FA : List He.Fa := [.glo "BadText", .free "isinstance", .free "bool", .free "int", .int "MAX_EXCESS" 1000000, .int "MAX_WEIGHT" 1000000, .free "enumerate", .free "len", .int "MAX_PEOPLE" 24, .free "tuple", .free "all", .str "FIGURES" "0123456789", .int "LONGEST" 8, .str "COMMA" ",", .str "NOBODY" "-", .str "MIDDLE" "/", .int "WORDS" 3, .free "str", .free "abs", .free "max", .free "min", .free "sum", .free "range", .free "sorted", .glo "Hoist", .int "MAX_EDITS" 60, .glo "NothingToUndo", .free "repr", .glo "TooLarge", .glo "BadTower", .glo "BadLoad", .free "ValueError", .glo "RopeError", .free "list", .glo "PromisedHoist", .glo "is_number", .glo "is_excess", .glo "is_weight", .glo "tower_error", .glo "is_tower", .glo "parse_number", .glo "parse_weights", .glo "is_right_word", .glo "parse_tower", .glo "_law_deck", .glo "_law_draw", .glo "_law_weight", .glo "_law_tower", .glo "_law_reach", .glo "lighter_weight", .glo "stuck_person", .glo "reach_weight", .glo "is_within", .glo "with_person", .glo "without_person", .glo "with_weight", .glo "_law_right", .glo "_law_number", .glo "_law_weights_of", .glo "_law_due", .glo "_law_text", .glo "_law_read", .glo "_law_edits_right", .glo "law"]
def EX : List ExD := [⟨"BadText", ["index"], [("RopeError", true), ("Busy", false), ("TooManyEdits", false), ("TooManyPeople", false), ("NothingToUndo", false), ("TooLarge", false), ("BadLoad", false), ("BadExcess", false), ("BadTower", false), ("BadWeight", false), ("BadNumber", false), ("TooLow", false), ("BadText", true), ("NoPerson", false), ("NoVersion", false)], [("ValueError", true), ("LookupError", false), ("Exception", true)], [("RopeError", true), ("Busy", false), ("TooManyEdits", false), ("TooManyPeople", false), ("NothingToUndo", false), ("TooLarge", false), ("BadLoad", false), ("BadExcess", false), ("BadTower", false), ("BadWeight", false), ("BadNumber", false), ("TooLow", false), ("BadText", true), ("NoPerson", false), ("NoVersion", false)]⟩,
  ⟨"NothingToUndo", [], [("RopeError", true), ("Busy", false), ("TooManyEdits", false), ("TooManyPeople", false), ("NothingToUndo", true), ("TooLarge", false), ("BadLoad", false), ("BadExcess", false), ("BadTower", false), ("BadWeight", false), ("BadNumber", false), ("TooLow", false), ("BadText", false), ("NoPerson", false), ("NoVersion", false)], [("ValueError", true), ("LookupError", false), ("Exception", true)], [("RopeError", true), ("Busy", false), ("TooManyEdits", false), ("TooManyPeople", false), ("NothingToUndo", true), ("TooLarge", false), ("BadLoad", false), ("BadExcess", false), ("BadTower", false), ("BadWeight", false), ("BadNumber", false), ("TooLow", false), ("BadText", false), ("NoPerson", false), ("NoVersion", false)]⟩]
def IN : List InD := [{ C := "Promise", fs := ["bottom"], ms := [], gs := [], made := false, g := [("Promise", true), ("Hoist", false), ("PromisedHoist", false)], t := [("NoneType", false), ("bool", false), ("int", false), ("str", false), ("tuple", false), ("list", false), ("dict", false)] },
  { C := "Hoist", fs := ["states", "standing", "watching", "ends"], ms := ["own_key", "accept", "__len__", "__eq__", "__str__", "require_idle", "state_after", "perform", "come", "leave", "weigh", "loosen", "undo", "tower_at", "state", "edits"], gs := ["tower", "reach", "is_free"], made := true, g := [("Promise", false), ("Hoist", true), ("PromisedHoist", false)], t := [("NoneType", false), ("bool", false), ("int", false), ("str", false), ("tuple", false), ("list", false), ("dict", false)], cms := ["read"], inh := [] },
  { C := "PromisedHoist", fs := ["states", "standing", "watching", "ends", "bottom"], ms := ["own_key", "accept", "__len__", "__eq__", "__str__", "require_idle", "state_after", "perform", "come", "leave", "weigh", "loosen", "undo", "tower_at", "state", "edits"], gs := ["tower", "reach", "is_free"], made := false, g := [("Promise", true), ("Hoist", true), ("PromisedHoist", true)], t := [("NoneType", false), ("bool", false), ("int", false), ("str", false), ("tuple", false), ("list", false), ("dict", false)], cms := [], inh := [("tower", "Hoist"), ("__len__", "Hoist"), ("__eq__", "Hoist"), ("require_idle", "Hoist"), ("state_after", "Hoist"), ("perform", "Hoist"), ("come", "Hoist"), ("leave", "Hoist"), ("weigh", "Hoist"), ("loosen", "Hoist"), ("undo", "Hoist"), ("edits", "Hoist"), ("reach", "Hoist"), ("is_free", "Hoist"), ("__str__", "Hoist"), ("tower_at", "Hoist")] }]
def OW : List Str := ["Promise", "Hoist", "PromisedHoist"]
def BA : List Str := ["NothingToUndo"]
def CO : List (Str × Str × CoD) := [("Hoist", "MOST_EDITS", .int 60)]
theorem eg_BadText_RopeError : exG EX "BadText" "RopeError" = some true := by decide +kernel
theorem em_BadText_RopeError : exM EX "BadText" "RopeError" = some true := by decide +kernel
theorem eg_BadText_Busy : exG EX "BadText" "Busy" = some false := by decide +kernel
theorem em_BadText_Busy : exM EX "BadText" "Busy" = some false := by decide +kernel
theorem eg_BadText_TooManyEdits : exG EX "BadText" "TooManyEdits" = some false := by decide +kernel
theorem em_BadText_TooManyEdits : exM EX "BadText" "TooManyEdits" = some false := by decide +kernel
theorem eg_BadText_TooManyPeople : exG EX "BadText" "TooManyPeople" = some false := by decide +kernel
theorem em_BadText_TooManyPeople : exM EX "BadText" "TooManyPeople" = some false := by decide +kernel
theorem eg_BadText_NothingToUndo : exG EX "BadText" "NothingToUndo" = some false := by decide +kernel
theorem em_BadText_NothingToUndo : exM EX "BadText" "NothingToUndo" = some false := by decide +kernel
theorem eg_BadText_TooLarge : exG EX "BadText" "TooLarge" = some false := by decide +kernel
theorem em_BadText_TooLarge : exM EX "BadText" "TooLarge" = some false := by decide +kernel
theorem eg_BadText_BadLoad : exG EX "BadText" "BadLoad" = some false := by decide +kernel
theorem em_BadText_BadLoad : exM EX "BadText" "BadLoad" = some false := by decide +kernel
theorem eg_BadText_BadExcess : exG EX "BadText" "BadExcess" = some false := by decide +kernel
theorem em_BadText_BadExcess : exM EX "BadText" "BadExcess" = some false := by decide +kernel
theorem eg_BadText_BadTower : exG EX "BadText" "BadTower" = some false := by decide +kernel
theorem em_BadText_BadTower : exM EX "BadText" "BadTower" = some false := by decide +kernel
theorem eg_BadText_BadWeight : exG EX "BadText" "BadWeight" = some false := by decide +kernel
theorem em_BadText_BadWeight : exM EX "BadText" "BadWeight" = some false := by decide +kernel
theorem eg_BadText_BadNumber : exG EX "BadText" "BadNumber" = some false := by decide +kernel
theorem em_BadText_BadNumber : exM EX "BadText" "BadNumber" = some false := by decide +kernel
theorem eg_BadText_TooLow : exG EX "BadText" "TooLow" = some false := by decide +kernel
theorem em_BadText_TooLow : exM EX "BadText" "TooLow" = some false := by decide +kernel
theorem eg_BadText_BadText : exG EX "BadText" "BadText" = some true := by decide +kernel
theorem em_BadText_BadText : exM EX "BadText" "BadText" = some true := by decide +kernel
theorem eg_BadText_NoPerson : exG EX "BadText" "NoPerson" = some false := by decide +kernel
theorem em_BadText_NoPerson : exM EX "BadText" "NoPerson" = some false := by decide +kernel
theorem eg_BadText_NoVersion : exG EX "BadText" "NoVersion" = some false := by decide +kernel
theorem em_BadText_NoVersion : exM EX "BadText" "NoVersion" = some false := by decide +kernel
theorem et_BadText_ValueError : exTy EX "BadText" "ValueError" = some true := by decide +kernel
theorem et_BadText_LookupError : exTy EX "BadText" "LookupError" = some false := by decide +kernel
theorem ef_BadText : exFs EX "BadText" "index" = true := by decide +kernel
theorem eg_NothingToUndo_RopeError : exG EX "NothingToUndo" "RopeError" = some true := by decide +kernel
theorem em_NothingToUndo_RopeError : exM EX "NothingToUndo" "RopeError" = some true := by decide +kernel
theorem eg_NothingToUndo_Busy : exG EX "NothingToUndo" "Busy" = some false := by decide +kernel
theorem em_NothingToUndo_Busy : exM EX "NothingToUndo" "Busy" = some false := by decide +kernel
theorem eg_NothingToUndo_TooManyEdits : exG EX "NothingToUndo" "TooManyEdits" = some false := by decide +kernel
theorem em_NothingToUndo_TooManyEdits : exM EX "NothingToUndo" "TooManyEdits" = some false := by decide +kernel
theorem eg_NothingToUndo_TooManyPeople : exG EX "NothingToUndo" "TooManyPeople" = some false := by decide +kernel
theorem em_NothingToUndo_TooManyPeople : exM EX "NothingToUndo" "TooManyPeople" = some false := by decide +kernel
theorem eg_NothingToUndo_NothingToUndo : exG EX "NothingToUndo" "NothingToUndo" = some true := by decide +kernel
theorem em_NothingToUndo_NothingToUndo : exM EX "NothingToUndo" "NothingToUndo" = some true := by decide +kernel
theorem eg_NothingToUndo_TooLarge : exG EX "NothingToUndo" "TooLarge" = some false := by decide +kernel
theorem em_NothingToUndo_TooLarge : exM EX "NothingToUndo" "TooLarge" = some false := by decide +kernel
theorem eg_NothingToUndo_BadLoad : exG EX "NothingToUndo" "BadLoad" = some false := by decide +kernel
theorem em_NothingToUndo_BadLoad : exM EX "NothingToUndo" "BadLoad" = some false := by decide +kernel
theorem eg_NothingToUndo_BadExcess : exG EX "NothingToUndo" "BadExcess" = some false := by decide +kernel
theorem em_NothingToUndo_BadExcess : exM EX "NothingToUndo" "BadExcess" = some false := by decide +kernel
theorem eg_NothingToUndo_BadTower : exG EX "NothingToUndo" "BadTower" = some false := by decide +kernel
theorem em_NothingToUndo_BadTower : exM EX "NothingToUndo" "BadTower" = some false := by decide +kernel
theorem eg_NothingToUndo_BadWeight : exG EX "NothingToUndo" "BadWeight" = some false := by decide +kernel
theorem em_NothingToUndo_BadWeight : exM EX "NothingToUndo" "BadWeight" = some false := by decide +kernel
theorem eg_NothingToUndo_BadNumber : exG EX "NothingToUndo" "BadNumber" = some false := by decide +kernel
theorem em_NothingToUndo_BadNumber : exM EX "NothingToUndo" "BadNumber" = some false := by decide +kernel
theorem eg_NothingToUndo_TooLow : exG EX "NothingToUndo" "TooLow" = some false := by decide +kernel
theorem em_NothingToUndo_TooLow : exM EX "NothingToUndo" "TooLow" = some false := by decide +kernel
theorem eg_NothingToUndo_BadText : exG EX "NothingToUndo" "BadText" = some false := by decide +kernel
theorem em_NothingToUndo_BadText : exM EX "NothingToUndo" "BadText" = some false := by decide +kernel
theorem eg_NothingToUndo_NoPerson : exG EX "NothingToUndo" "NoPerson" = some false := by decide +kernel
theorem em_NothingToUndo_NoPerson : exM EX "NothingToUndo" "NoPerson" = some false := by decide +kernel
theorem eg_NothingToUndo_NoVersion : exG EX "NothingToUndo" "NoVersion" = some false := by decide +kernel
theorem em_NothingToUndo_NoVersion : exM EX "NothingToUndo" "NoVersion" = some false := by decide +kernel
theorem et_NothingToUndo_ValueError : exTy EX "NothingToUndo" "ValueError" = some true := by decide +kernel
theorem et_NothingToUndo_LookupError : exTy EX "NothingToUndo" "LookupError" = some false := by decide +kernel
theorem if_Promise_bottom : inFs IN "Promise" "bottom" = true := by decide +kernel
theorem if_Hoist_states : inFs IN (hC none) "states" = true := by decide +kernel
theorem if_Hoist_standing : inFs IN (hC none) "standing" = true := by decide +kernel
theorem if_Hoist_watching : inFs IN (hC none) "watching" = true := by decide +kernel
theorem if_Hoist_ends : inFs IN (hC none) "ends" = true := by decide +kernel
theorem ip_Hoist_tower : (["Hoist"] : List Str).contains (hC none) = true ∧ inGs IN (hC none) "tower" = true := by decide +kernel
theorem im_Hoist_own_key : (["Hoist"] : List Str).contains (hC none) = true ∧ inMs IN (hC none) "own_key" = true ∧ ((hks none) : List Str).contains "own_key" = false := by decide +kernel
theorem im_Hoist_accept : (["Hoist"] : List Str).contains (hC none) = true ∧ inMs IN (hC none) "accept" = true ∧ ((hks none) : List Str).contains "accept" = false := by decide +kernel
theorem im_Hoist___len__ : (["Hoist"] : List Str).contains (hC none) = true ∧ inMs IN (hC none) "__len__" = true ∧ ((hks none) : List Str).contains "__len__" = false := by decide +kernel
theorem im_Hoist___eq__ : (["Hoist"] : List Str).contains (hC none) = true ∧ inMs IN (hC none) "__eq__" = true ∧ ((hks none) : List Str).contains "__eq__" = false := by decide +kernel
theorem im_Hoist_require_idle : (["Hoist"] : List Str).contains (hC none) = true ∧ inMs IN (hC none) "require_idle" = true ∧ ((hks none) : List Str).contains "require_idle" = false := by decide +kernel
theorem im_Hoist_state_after : (["Hoist"] : List Str).contains (hC none) = true ∧ inMs IN (hC none) "state_after" = true ∧ ((hks none) : List Str).contains "state_after" = false := by decide +kernel
theorem im_Hoist_perform : (["Hoist"] : List Str).contains (hC none) = true ∧ inMs IN (hC none) "perform" = true ∧ ((hks none) : List Str).contains "perform" = false := by decide +kernel
theorem im_Hoist_come : (["Hoist"] : List Str).contains (hC none) = true ∧ inMs IN (hC none) "come" = true ∧ ((hks none) : List Str).contains "come" = false := by decide +kernel
theorem im_Hoist_leave : (["Hoist"] : List Str).contains (hC none) = true ∧ inMs IN (hC none) "leave" = true ∧ ((hks none) : List Str).contains "leave" = false := by decide +kernel
theorem im_Hoist_weigh : (["Hoist"] : List Str).contains (hC none) = true ∧ inMs IN (hC none) "weigh" = true ∧ ((hks none) : List Str).contains "weigh" = false := by decide +kernel
theorem im_Hoist_loosen : (["Hoist"] : List Str).contains (hC none) = true ∧ inMs IN (hC none) "loosen" = true ∧ ((hks none) : List Str).contains "loosen" = false := by decide +kernel
theorem im_Hoist_undo : (["Hoist"] : List Str).contains (hC none) = true ∧ inMs IN (hC none) "undo" = true ∧ ((hks none) : List Str).contains "undo" = false := by decide +kernel
theorem im_Hoist_edits : (["Hoist"] : List Str).contains (hC none) = true ∧ inMs IN (hC none) "edits" = true ∧ ((hks none) : List Str).contains "edits" = false := by decide +kernel
theorem ip_Hoist_reach : (["Hoist"] : List Str).contains (hC none) = true ∧ inGs IN (hC none) "reach" = true := by decide +kernel
theorem ip_Hoist_is_free : (["Hoist"] : List Str).contains (hC none) = true ∧ inGs IN (hC none) "is_free" = true := by decide +kernel
theorem im_Hoist___str__ : (["Hoist"] : List Str).contains (hC none) = true ∧ inMs IN (hC none) "__str__" = true ∧ ((hks none) : List Str).contains "__str__" = false := by decide +kernel
theorem im_Hoist_tower_at : (["Hoist"] : List Str).contains (hC none) = true ∧ inMs IN (hC none) "tower_at" = true ∧ ((hks none) : List Str).contains "tower_at" = false := by decide +kernel
theorem im_Hoist_state : (["Hoist"] : List Str).contains (hC none) = true ∧ inMs IN (hC none) "state" = true ∧ ((hks none) : List Str).contains "state" = false := by decide +kernel
theorem ic_Hoist_read : inCm IN "Hoist" "read" = true := by decide +kernel
local macro_rules
  | `(tactic| simp! [sx_, $xs,*]) => `(tactic| simp -implicitDefEqProofs only [Dl.sSeq, Dl.sNext, Dl.sBreak, Dl.sCont, Dl.sDrop, Dl.sRet, Dl.sRetN, Dl.sIf, Dl.sAsg, Dl.sSet, Dl.dC, Dl.dOp, Dl.dTest, Dl.dChain, Dl.dTru, Dl.dAnd, Dl.dOr, Dl.dNot, Dl.dAndV, Dl.dOrV, Dl.dNotV, Dl.dIf, Dl.dIsN, Dl.dNotN, Dl.dNeg, Dl.opSub, Dl.opMod, Dl.opDiv, Dl.opPow, Dl.opLt, Dl.opLe, Dl.opGt, Dl.opGe, Dl.dNil, Dl.dCons, Dl.dTup, Dl.dLst, Dl.dNew, Dl.dNo, Dl.dPt, Dl.dSl, Dl.gLstD, Dl.dCall, Dl.dCB, Dl.cLen, Dl.cStr, Dl.cInt, Dl.cTuple, Dl.cList, Dl.cListN, Dl.cAbs, Dl.c2I, Dl.cMax2, Dl.cMin2, Dl.dM0, Dl.dM, Dl.dJoined, Dl.dRev, Dl.bd1, Dl.wipeD, Dl.dYes, Dl.gSubD, Dl.sAug, Dl.r_var0, Dl.r_vars, Dl.r_add, Dl.r_adds, Dl.r_addt, Dl.r_addl, Dl.r_int, Dl.r_mul, Dl.r_mull, Dl.r_mulT, Dl.r_ord, Dl.r_isB, Dl.r_truN, Dl.r_truB, Dl.r_truI, Dl.r_truS, Dl.r_truT, Dl.r_truL, Dl.r_lsL, Dl.r_sqT, Dl.r_sqL, Dl.r_ixT, Dl.r_ixL, Dl.r_ixS, Dl.r_one, Dl.r_two, Dl.r_lenS, Dl.r_lenC, Dl.r_lenT, Dl.r_lenL, Dl.r_strS, Dl.r_intI, Dl.r_intB, Dl.r_intS, Dl.r_slS, Dl.r_slT, Dl.r_slL, Dl.r_slC, Dl.r_isN0, Dl.r_isNt, Dl.r_isNi, Dl.r_isNs, Dl.r_isNr, Dl.r_isNl, Dl.r_isNb, Dl.r_gN, Dl.r_gCons, Dl.r_gNil, Dl.r_gTup, Dl.r_rt, Dl.r_nx, Dl.r_xc, Dl.r_mS, Dl.r_mL, Dl.r_mI, Dl.r_joinL, Dl.r_joinT, Dl.r_par, Dl.r_ltC, Dl.r_iSt, Dl.r_iLs, Dl.r_ilL, Dl.r_eqI, Dl.r_neI, Dl.r_iLsN, Dl.r_iTpF, Dl.r_it1, Dl.r_iRF, Dl.r_ir1, Dl.r_strD, Dl.r_fmt, Dl.r_fm1S, Dl.r_fm1I, Dl.r_jsN, Dl.r_jsC, Dl.r_js1, Dl.r_isiS, Dl.r_sFor, Dl.r_neT0, Dl.r_neL0, Dl.sz0, Dl.sz1, Dl.sz2, Dl.sz3, Dl.sz4, Dl.sz5, Dl.sz6, Dl.sz7, Dl.sz8, Dl.sz9, Dl.sz10, Dl.sz11, Dl.sz12, Dl.pw6, Dl.pw9, Dl.pw18, Dl.at0, Dl.at1, Dl.at2, Dl.at3, Dl.at4, Dl.ti_non_bool, Dl.ti_non_int, Dl.ti_non_str, Dl.ti_non_tuple, Dl.ti_non_list, Dl.ti_non_dict, Dl.ti_bl_bool, Dl.ti_bl_int, Dl.ti_bl_str, Dl.ti_bl_tuple, Dl.ti_bl_list, Dl.ti_bl_dict, Dl.ti_int_bool, Dl.ti_int_int, Dl.ti_int_str, Dl.ti_int_tuple, Dl.ti_int_list, Dl.ti_int_dict, Dl.ti_str_bool, Dl.ti_str_int, Dl.ti_str_str, Dl.ti_str_tuple, Dl.ti_str_list, Dl.ti_str_dict, Dl.ti_tup_bool, Dl.ti_tup_int, Dl.ti_tup_str, Dl.ti_tup_tuple, Dl.ti_tup_list, Dl.ti_tup_dict, Dl.ti_lst_bool, Dl.ti_lst_int, Dl.ti_lst_str, Dl.ti_lst_tuple, Dl.ti_lst_list, Dl.ti_lst_dict, Dl.ti_dct_bool, Dl.ti_dct_int, Dl.ti_dct_str, Dl.ti_dct_tuple, Dl.ti_dct_list, Dl.ti_dct_dict, Dl.tx_non_bool, Dl.tx_non_int, Dl.tx_non_str, Dl.tx_non_tuple, Dl.tx_non_list, Dl.tx_non_dict, Dl.tx_bl_bool, Dl.tx_bl_int, Dl.tx_bl_str, Dl.tx_bl_tuple, Dl.tx_bl_list, Dl.tx_bl_dict, Dl.tx_int_bool, Dl.tx_int_int, Dl.tx_int_str, Dl.tx_int_tuple, Dl.tx_int_list, Dl.tx_int_dict, Dl.tx_str_bool, Dl.tx_str_int, Dl.tx_str_str, Dl.tx_str_tuple, Dl.tx_str_list, Dl.tx_str_dict, Dl.tx_tup_bool, Dl.tx_tup_int, Dl.tx_tup_str, Dl.tx_tup_tuple, Dl.tx_tup_list, Dl.tx_tup_dict, Dl.tx_lst_bool, Dl.tx_lst_int, Dl.tx_lst_str, Dl.tx_lst_tuple, Dl.tx_lst_list, Dl.tx_lst_dict, Dl.tx_dct_bool, Dl.tx_dct_int, Dl.tx_dct_str, Dl.tx_dct_tuple, Dl.tx_dct_list, Dl.tx_dct_dict, Dl.sMatch, Dl.cVal, Dl.r_split, Dl.r_allL, Dl.r_mulS, Dl.r_iEn, Dl.r_en1L, Dl.r_iEnT, Dl.r_en2T, Dl.pw8, Dl.pw39, Dl.r_isE, Dl.r_isE_g, Dl.r_isE_t, Dl.r_isE_c, Dl.r_anyN, Dl.r_dXf, Dl.r_cnt2, Dl.sRaise, Dl.sTryAs, Dl.sTryOnly, Dl.dMake, Dl.r_dFld, Dl.r_dMeth, Dl.r_dProp, Dl.r_sFld, Dl.dStar, Dl.gStarD, Dl.sIfN, Dl.cMaxL, Dl.cMinP, Dl.cSortI, Dl.sTryDead, Dl.dCmeth, Dl.dMakeE, Dl.dRevT, Dl.r_isTp, Dl.bd2, Dl.r_dMethK, Dl.dKN, Dl.r_dK1, Dl.r_dCon, Dl.r_st1, Dl.r_mulA, Option.some.injEq, exists_eq_left', startD, List.map_cons, List.map_nil, List.length_cons, List.length_nil, List.replicate_succ, List.replicate_zero, List.cons_append, List.nil_append, Nat.reduceAdd, Nat.reduceSub, List.set_cons_zero, List.set_cons_succ, true_and, and_true, reduceIte, Bool.false_eq_true, decide_eq_true_eq, Int.reduceToNat, Int.reducePow, Int.reduceLE, Int.reduceLT, Nat.reduceLeDiff, Int.reduceNeg, Int.reduceMul, Int.reduceAdd, Int.reduceSub, $xs,*])
local macro_rules
  | `(tactic| dsimp! [sx_, $xs,*]) => `(tactic| simp -implicitDefEqProofs only [Dl.sSeq, Dl.sNext, Dl.sBreak, Dl.sCont, Dl.sDrop, Dl.sRet, Dl.sRetN, Dl.sIf, Dl.sAsg, Dl.sSet, Dl.dC, Dl.dOp, Dl.dTest, Dl.dChain, Dl.dTru, Dl.dAnd, Dl.dOr, Dl.dNot, Dl.dAndV, Dl.dOrV, Dl.dNotV, Dl.dIf, Dl.dIsN, Dl.dNotN, Dl.dNeg, Dl.opSub, Dl.opMod, Dl.opDiv, Dl.opPow, Dl.opLt, Dl.opLe, Dl.opGt, Dl.opGe, Dl.dNil, Dl.dCons, Dl.dTup, Dl.dLst, Dl.dNew, Dl.dNo, Dl.dPt, Dl.dSl, Dl.gLstD, Dl.dCall, Dl.dCB, Dl.cLen, Dl.cStr, Dl.cInt, Dl.cTuple, Dl.cList, Dl.cListN, Dl.cAbs, Dl.c2I, Dl.cMax2, Dl.cMin2, Dl.dM0, Dl.dM, Dl.dJoined, Dl.dRev, Dl.bd1, Dl.wipeD, Dl.dYes, Dl.gSubD, Dl.sAug, Dl.r_var0, Dl.r_vars, Dl.r_add, Dl.r_adds, Dl.r_addt, Dl.r_addl, Dl.r_int, Dl.r_mul, Dl.r_mull, Dl.r_mulT, Dl.r_ord, Dl.r_isB, Dl.r_truN, Dl.r_truB, Dl.r_truI, Dl.r_truS, Dl.r_truT, Dl.r_truL, Dl.r_lsL, Dl.r_sqT, Dl.r_sqL, Dl.r_ixT, Dl.r_ixL, Dl.r_ixS, Dl.r_one, Dl.r_two, Dl.r_lenS, Dl.r_lenC, Dl.r_lenT, Dl.r_lenL, Dl.r_strS, Dl.r_intI, Dl.r_intB, Dl.r_intS, Dl.r_slS, Dl.r_slT, Dl.r_slL, Dl.r_slC, Dl.r_isN0, Dl.r_isNt, Dl.r_isNi, Dl.r_isNs, Dl.r_isNr, Dl.r_isNl, Dl.r_isNb, Dl.r_gN, Dl.r_gCons, Dl.r_gNil, Dl.r_gTup, Dl.r_rt, Dl.r_nx, Dl.r_xc, Dl.r_mS, Dl.r_mL, Dl.r_mI, Dl.r_joinL, Dl.r_joinT, Dl.r_par, Dl.r_ltC, Dl.r_iSt, Dl.r_iLs, Dl.r_ilL, Dl.r_eqI, Dl.r_neI, Dl.r_iLsN, Dl.r_iTpF, Dl.r_it1, Dl.r_iRF, Dl.r_ir1, Dl.r_strD, Dl.r_fmt, Dl.r_fm1S, Dl.r_fm1I, Dl.r_jsN, Dl.r_jsC, Dl.r_js1, Dl.r_isiS, Dl.r_neT0, Dl.r_neL0, Dl.sz0, Dl.sz1, Dl.sz2, Dl.sz3, Dl.sz4, Dl.sz5, Dl.sz6, Dl.sz7, Dl.sz8, Dl.sz9, Dl.sz10, Dl.sz11, Dl.sz12, Dl.pw6, Dl.pw9, Dl.pw18, Dl.at0, Dl.at1, Dl.at2, Dl.at3, Dl.at4, Dl.ti_non_bool, Dl.ti_non_int, Dl.ti_non_str, Dl.ti_non_tuple, Dl.ti_non_list, Dl.ti_non_dict, Dl.ti_bl_bool, Dl.ti_bl_int, Dl.ti_bl_str, Dl.ti_bl_tuple, Dl.ti_bl_list, Dl.ti_bl_dict, Dl.ti_int_bool, Dl.ti_int_int, Dl.ti_int_str, Dl.ti_int_tuple, Dl.ti_int_list, Dl.ti_int_dict, Dl.ti_str_bool, Dl.ti_str_int, Dl.ti_str_str, Dl.ti_str_tuple, Dl.ti_str_list, Dl.ti_str_dict, Dl.ti_tup_bool, Dl.ti_tup_int, Dl.ti_tup_str, Dl.ti_tup_tuple, Dl.ti_tup_list, Dl.ti_tup_dict, Dl.ti_lst_bool, Dl.ti_lst_int, Dl.ti_lst_str, Dl.ti_lst_tuple, Dl.ti_lst_list, Dl.ti_lst_dict, Dl.ti_dct_bool, Dl.ti_dct_int, Dl.ti_dct_str, Dl.ti_dct_tuple, Dl.ti_dct_list, Dl.ti_dct_dict, Dl.tx_non_bool, Dl.tx_non_int, Dl.tx_non_str, Dl.tx_non_tuple, Dl.tx_non_list, Dl.tx_non_dict, Dl.tx_bl_bool, Dl.tx_bl_int, Dl.tx_bl_str, Dl.tx_bl_tuple, Dl.tx_bl_list, Dl.tx_bl_dict, Dl.tx_int_bool, Dl.tx_int_int, Dl.tx_int_str, Dl.tx_int_tuple, Dl.tx_int_list, Dl.tx_int_dict, Dl.tx_str_bool, Dl.tx_str_int, Dl.tx_str_str, Dl.tx_str_tuple, Dl.tx_str_list, Dl.tx_str_dict, Dl.tx_tup_bool, Dl.tx_tup_int, Dl.tx_tup_str, Dl.tx_tup_tuple, Dl.tx_tup_list, Dl.tx_tup_dict, Dl.tx_lst_bool, Dl.tx_lst_int, Dl.tx_lst_str, Dl.tx_lst_tuple, Dl.tx_lst_list, Dl.tx_lst_dict, Dl.tx_dct_bool, Dl.tx_dct_int, Dl.tx_dct_str, Dl.tx_dct_tuple, Dl.tx_dct_list, Dl.tx_dct_dict, Dl.sMatch, Dl.cVal, Dl.r_split, Dl.r_allL, Dl.r_mulS, Dl.r_iEn, Dl.r_en1L, Dl.r_iEnT, Dl.r_en2T, Dl.pw8, Dl.pw39, Dl.r_isE, Dl.r_isE_g, Dl.r_isE_t, Dl.r_isE_c, Dl.r_anyN, Dl.r_dXf, Dl.r_cnt2, Dl.sRaise, Dl.sTryAs, Dl.sTryOnly, Dl.dMake, Dl.r_dFld, Dl.r_dMeth, Dl.r_dProp, Dl.r_sFld, Dl.dStar, Dl.gStarD, Dl.sIfN, Dl.cMaxL, Dl.cMinP, Dl.cSortI, Dl.sTryDead, Dl.dCmeth, Dl.dMakeE, Dl.dRevT, Dl.r_isTp, Dl.bd2, Dl.r_dMethK, Dl.dKN, Dl.r_dK1, Dl.r_dCon, Dl.r_st1, Dl.r_mulA, Option.some.injEq, exists_eq_left', startD, List.map_cons, List.map_nil, List.length_cons, List.length_nil, List.replicate_succ, List.replicate_zero, List.cons_append, List.nil_append, Nat.reduceAdd, Nat.reduceSub, List.set_cons_zero, List.set_cons_succ, true_and, and_true, reduceIte, Bool.false_eq_true, decide_eq_true_eq, Int.reduceToNat, Int.reducePow, Int.reduceLE, Int.reduceLT, Nat.reduceLeDiff, Int.reduceNeg, Int.reduceMul, Int.reduceAdd, Int.reduceSub, $xs,*])
local macro_rules
  | `(tactic| simp_all! [sx_, $xs,*]) => `(tactic| simp -implicitDefEqProofs only [Dl.sSeq, Dl.sNext, Dl.sBreak, Dl.sCont, Dl.sDrop, Dl.sRet, Dl.sRetN, Dl.sIf, Dl.sAsg, Dl.sSet, Dl.dC, Dl.dOp, Dl.dTest, Dl.dChain, Dl.dTru, Dl.dAnd, Dl.dOr, Dl.dNot, Dl.dAndV, Dl.dOrV, Dl.dNotV, Dl.dIf, Dl.dIsN, Dl.dNotN, Dl.dNeg, Dl.opSub, Dl.opMod, Dl.opDiv, Dl.opPow, Dl.opLt, Dl.opLe, Dl.opGt, Dl.opGe, Dl.dNil, Dl.dCons, Dl.dTup, Dl.dLst, Dl.dNew, Dl.dNo, Dl.dPt, Dl.dSl, Dl.gLstD, Dl.dCall, Dl.dCB, Dl.cLen, Dl.cStr, Dl.cInt, Dl.cTuple, Dl.cList, Dl.cListN, Dl.cAbs, Dl.c2I, Dl.cMax2, Dl.cMin2, Dl.dM0, Dl.dM, Dl.dJoined, Dl.dRev, Dl.bd1, Dl.wipeD, Dl.dYes, Dl.gSubD, Dl.sAug, Dl.r_var0, Dl.r_vars, Dl.r_add, Dl.r_adds, Dl.r_addt, Dl.r_addl, Dl.r_int, Dl.r_mul, Dl.r_mull, Dl.r_mulT, Dl.r_ord, Dl.r_isB, Dl.r_truN, Dl.r_truB, Dl.r_truI, Dl.r_truS, Dl.r_truT, Dl.r_truL, Dl.r_lsL, Dl.r_sqT, Dl.r_sqL, Dl.r_ixT, Dl.r_ixL, Dl.r_ixS, Dl.r_one, Dl.r_two, Dl.r_lenS, Dl.r_lenC, Dl.r_lenT, Dl.r_lenL, Dl.r_strS, Dl.r_intI, Dl.r_intB, Dl.r_intS, Dl.r_slS, Dl.r_slT, Dl.r_slL, Dl.r_slC, Dl.r_isN0, Dl.r_isNt, Dl.r_isNi, Dl.r_isNs, Dl.r_isNr, Dl.r_isNl, Dl.r_isNb, Dl.r_gN, Dl.r_gCons, Dl.r_gNil, Dl.r_gTup, Dl.r_rt, Dl.r_nx, Dl.r_xc, Dl.r_mS, Dl.r_mL, Dl.r_mI, Dl.r_joinL, Dl.r_joinT, Dl.r_par, Dl.r_ltC, Dl.r_iSt, Dl.r_iLs, Dl.r_ilL, Dl.r_eqI, Dl.r_neI, Dl.r_iLsN, Dl.r_iTpF, Dl.r_it1, Dl.r_iRF, Dl.r_ir1, Dl.r_strD, Dl.r_fmt, Dl.r_fm1S, Dl.r_fm1I, Dl.r_jsN, Dl.r_jsC, Dl.r_js1, Dl.r_isiS, Dl.r_sFor, Dl.r_neT0, Dl.r_neL0, Dl.sz0, Dl.sz1, Dl.sz2, Dl.sz3, Dl.sz4, Dl.sz5, Dl.sz6, Dl.sz7, Dl.sz8, Dl.sz9, Dl.sz10, Dl.sz11, Dl.sz12, Dl.pw6, Dl.pw9, Dl.pw18, Dl.at0, Dl.at1, Dl.at2, Dl.at3, Dl.at4, Option.some.injEq, exists_eq_left', startD, List.map_cons, List.map_nil, List.length_cons, List.length_nil, List.replicate_succ, List.replicate_zero, List.cons_append, List.nil_append, Nat.reduceAdd, Nat.reduceSub, List.set_cons_zero, List.set_cons_succ, true_and, and_true, reduceIte, Bool.false_eq_true, decide_eq_true_eq, Int.reduceToNat, Int.reducePow, Int.reduceLE, Int.reduceLT, Nat.reduceLeDiff, Int.reduceNeg, Int.reduceMul, Int.reduceAdd, Int.reduceSub, $xs,*])
local macro_rules
  | `(tactic| simp_arith [sx_, $xs,*]) => `(tactic| simp -implicitDefEqProofs only [Dl.sSeq, Dl.sNext, Dl.sBreak, Dl.sCont, Dl.sDrop, Dl.sRet, Dl.sRetN, Dl.sIf, Dl.sAsg, Dl.sSet, Dl.dC, Dl.dOp, Dl.dTest, Dl.dChain, Dl.dTru, Dl.dAnd, Dl.dOr, Dl.dNot, Dl.dAndV, Dl.dOrV, Dl.dNotV, Dl.dIf, Dl.dIsN, Dl.dNotN, Dl.dNeg, Dl.opSub, Dl.opMod, Dl.opDiv, Dl.opPow, Dl.opLt, Dl.opLe, Dl.opGt, Dl.opGe, Dl.dNil, Dl.dCons, Dl.dTup, Dl.dLst, Dl.dNew, Dl.opAddN, Dl.dNo, Dl.dPt, Dl.dSl, Dl.gLstD, Dl.dCall, Dl.dCB, Dl.cLen, Dl.cStr, Dl.cInt, Dl.cTuple, Dl.cList, Dl.cListN, Dl.cAbs, Dl.c2I, Dl.cMax2, Dl.cMin2, Dl.dM0, Dl.dM, Dl.dFmt, Dl.dJoined, Dl.dRev, Dl.bd1, Dl.wipeD, Dl.dYes, Dl.gSubD, Dl.sAug, Dl.r_var0, Dl.r_vars, Dl.r_add, Dl.r_adds, Dl.r_addt, Dl.r_addl, Dl.r_int, Dl.r_mul, Dl.r_mull, Dl.r_mulT, Dl.r_ord, Dl.r_isB, Dl.r_truN, Dl.r_truB, Dl.r_truI, Dl.r_truS, Dl.r_truT, Dl.r_truL, Dl.r_lsL, Dl.r_sqT, Dl.r_sqL, Dl.r_ixT, Dl.r_ixL, Dl.r_ixS, Dl.r_one, Dl.r_two, Dl.r_lenS, Dl.r_lenC, Dl.r_lenT, Dl.r_lenL, Dl.r_strI, Dl.r_strS, Dl.r_intI, Dl.r_intB, Dl.r_intS, Dl.r_slS, Dl.r_slT, Dl.r_slL, Dl.r_slC, Dl.r_isN0, Dl.r_isNt, Dl.r_isNi, Dl.r_isNs, Dl.r_isNr, Dl.r_isNl, Dl.r_isNb, Dl.r_gN, Dl.r_gCons, Dl.r_gNil, Dl.r_gTup, Dl.r_rt, Dl.r_nx, Dl.r_xc, Dl.r_jsN, Dl.r_mS, Dl.r_mL, Dl.r_mI, Dl.r_joinL, Dl.r_joinT, Dl.r_par, Dl.r_ltC, Dl.r_iTp, Dl.r_iSt, Dl.r_iLs, Dl.r_ilL, Dl.r_iR1, Dl.r_eqI, Dl.r_neI, Dl.r_iLsN, Option.some.injEq, exists_eq_left', startD, List.map_cons, List.map_nil, List.length_cons, List.length_nil, List.replicate_succ, List.replicate_zero, List.cons_append, List.nil_append, Nat.reduceAdd, Nat.reduceSub, List.set_cons_zero, List.set_cons_succ, true_and, and_true, reduceIte, Bool.false_eq_true, decide_eq_true_eq, $xs,*])
open TL
/-- what _law_number says -/
def lnum (u : Str) (m : Int) : D := if ((1 ≤ u.length ∧ u.length ≤ 7) ∧ allDig u = true) ∧ (tl u).head? ≠ some 48 ∧ ((NumText.digitsVal (tl u) : Nat) : Int) ≤ m then .int (NumText.digitsVal (tl u) : Nat) else .non
theorem lnum_nf (m : Int) (u : Str) : lnum u m = .non ∨ ∃ n : Int, lnum u m = .int n := by
  unfold lnum
  split
  · exact .inr ⟨_, rfl⟩
  · exact .inl rfl
def lpplL (us : List Str) : D := if (us.map fun u => lnum u 1000000).any isNon = true ∨ 24 < us.length then .non else .tup (us.map fun u => lnum u 1000000)
def lppl (u : Str) : D := if u = Str.ofString "-" then .tup [] else lpplL (Txt.split u (Str.ofString ","))
/-! ### both read the same -/
theorem dv_ge : ∀ (l : List Nat) (a : Nat), a * 10 ^ l.length ≤ l.foldl (fun acc c => acc * 10 + (c - 48)) a
  | [], a => by simp
  | c :: l, a => by
    have h := dv_ge l (a * 10 + (c - 48))
    rw [List.foldl_cons, List.length_cons, Nat.pow_succ]
    refine Nat.le_trans ?_ h
    rw [← Nat.mul_assoc, Nat.mul_right_comm]
    exact Nat.mul_le_mul_right _ (by omega)
theorem lnum_pnum (u : Str) : lnum u 1000000 = if wi (pnum u) 1 1000000 = true then pnum u else .non := by
  unfold lnum
  by_cases hd : allDig u = true
  · by_cases h8 : 1 ≤ u.length ∧ u.length ≤ 8
    · obtain ⟨c, q, hc⟩ : ∃ c q, tl u = c :: q := by
        cases e : tl u with
        | nil => rw [len_tl, e] at h8; exact absurd h8.1 (by decide)
        | cons c q => exact ⟨c, q, rfl⟩
      have hcd : 48 ≤ c ∧ c ≤ 57 := of_decide_eq_true (List.all_eq_true.mp hd c (by rw [hc]; simp))
      have hlen : u.length = q.length + 1 := by rw [len_tl, hc]; rfl
      have hv : NumText.digitsVal (tl u) = q.foldl (fun acc c => acc * 10 + (c - 48)) (c - 48) := by rw [hc]; show List.foldl _ (0 * 10 + (c - 48)) q = _; rw [Nat.zero_mul, Nat.zero_add]
      have hg := dv_ge q (c - 48)
      rw [← hv] at hg
      by_cases h48 : c = 48
      · have hh : (tl u).head? = some 48 := by rw [hc, h48]; rfl
        rw [if_neg (fun z => z.2.1 hh)]
        by_cases h0 : u = Str.ofString "0"
        · subst h0; rfl
        · have e : pnum u = .non := by unfold pnum; rw [if_pos ⟨h8, hd⟩, if_pos ⟨hh, h0⟩]
          rw [e]; rfl
      · have hh : (tl u).head? ≠ some 48 := by rw [hc]; exact fun z => h48 (Option.some.inj z)
        have e : pnum u = .int (NumText.digitsVal (tl u) : Nat) := by unfold pnum; rw [if_pos ⟨h8, hd⟩, if_neg (fun z => hh z.1)]
        have hpos : 0 < 10 ^ q.length := Nat.pow_pos (by decide)
        have h1 : 10 ^ q.length ≤ NumText.digitsVal (tl u) := Nat.le_trans (Nat.le_mul_of_pos_left _ (by omega)) hg
        rw [e, wi_int]
        by_cases hm : ((NumText.digitsVal (tl u) : Nat) : Int) ≤ 1000000
        · have h7 : u.length ≤ 7 := by
            refine Nat.le_of_not_lt fun z => ?_
            have : q.length = 7 := by omega
            rw [this] at h1
            omega
          rw [if_pos ⟨⟨⟨h8.1, h7⟩, hd⟩, hh, hm⟩, if_pos (decide_eq_true ⟨by omega, hm⟩)]
        · rw [if_neg (fun z => hm z.2.2), if_neg (fun z => hm (of_decide_eq_true z).2)]
    · rw [if_neg (fun z => h8 ⟨z.1.1.1, by omega⟩)]
      have e : pnum u = .non := by unfold pnum; rw [if_neg (fun z => h8 z.1)]
      rw [e]; rfl
  · rw [if_neg (fun z => hd z.1.2)]
    have e : pnum u = .non := by unfold pnum; rw [if_neg (fun z => hd z.2)]
    rw [e]; rfl
theorem lnum_non (u : Str) : isNon (lnum u 1000000) = !wi (pnum u) 1 1000000 := by
  rw [lnum_pnum]
  by_cases h : wi (pnum u) 1 1000000 = true
  · rw [if_pos h, h]
    rcases pnum_nf u with e | ⟨n, e⟩
    · rw [e] at h; cases h
    · rw [e]; rfl
  · rw [if_neg h, Bool.eq_false_iff.mpr h]; rfl
theorem lnum_eq {u : Str} (h : wi (pnum u) 1 1000000 = true) : lnum u 1000000 = pnum u := by rw [lnum_pnum, if_pos h]
theorem firstBad_non : ∀ (us : List Str) (k : Nat), isNon (firstBad k (us.map pnum)) = !((us.map fun u => lnum u 1000000).any isNon)
  | [], _ => rfl
  | u :: us, k => by
    rw [List.map_cons, firstBad, List.map_cons, List.any_cons, lnum_non]
    cases h : wi (pnum u) 1 1000000 with
    | true => rw [if_pos rfl, firstBad_non us]; rfl
    | false => rfl
theorem any_ok : ∀ {us : List Str}, (us.map fun u => lnum u 1000000).any isNon = false → (us.map pnum).any isNon = false ∧ (us.map fun u => lnum u 1000000) = us.map pnum
  | [], _ => ⟨rfl, rfl⟩
  | u :: us, h => by
    rw [List.map_cons, List.any_cons, Bool.or_eq_false_iff] at h
    obtain ⟨h1, h2⟩ := any_ok h.2
    have hw : wi (pnum u) 1 1000000 = true := by
      have := h.1; rw [lnum_non] at this
      cases e : wi (pnum u) 1 1000000 with
      | true => rfl
      | false => rw [e] at this; cases this
    refine ⟨?_, ?_⟩
    · rw [List.map_cons, List.any_cons, h1, Bool.or_false, ← lnum_eq hw]; exact h.1
    · rw [List.map_cons, List.map_cons, h2, lnum_eq hw]
theorem any_bad : ∀ {us : List Str}, (us.map pnum).any isNon = true → (us.map fun u => lnum u 1000000).any isNon = true
  | u :: us, h => by
    rw [List.map_cons, List.any_cons, Bool.or_eq_true] at h
    rw [List.map_cons, List.any_cons, Bool.or_eq_true]
    rcases h with h | h
    · left
      rw [lnum_non]
      rcases pnum_nf u with e | ⟨n, e⟩
      · rw [e]; rfl
      · rw [e] at h; cases h
    · exact .inr (any_bad h)
theorem twT (ws : List D) : twErr (.tup [.int 1, .tup ws]) = if 24 < ws.length then .tup [.non, .str "weights"] else firstBad 0 ws := rfl
theorem lppl_pws (u : Str) : isNon (lppl u) = !rword 2 u ∧ (rword 2 u = true → lppl u = pws u) := by
  have e : rword 2 u = isNon (twErr (.tup [.int 1, pws u])) := rfl
  rw [e]
  unfold lppl pws
  by_cases hu : u = Str.ofString "-"
  · rw [if_pos hu, if_pos hu]; exact ⟨rfl, fun _ => rfl⟩
  · rw [if_neg hu, if_neg hu]
    generalize Txt.split u (Str.ofString ",") = us
    unfold lpplL pwsL
    by_cases hp : (us.map pnum).any isNon = true
    · rw [if_pos hp, if_pos (.inl (any_bad hp))]
      exact ⟨rfl, fun z => by cases z⟩
    · rw [if_neg hp, twT, List.length_map]
      by_cases h24 : 24 < us.length
      · rw [if_pos h24, if_pos (.inr h24)]; exact ⟨rfl, fun z => by cases z⟩
      · rw [if_neg h24, firstBad_non]
        cases ha : (us.map fun u => lnum u 1000000).any isNon with
        | true => rw [if_pos (.inl rfl)]; exact ⟨rfl, fun z => by cases z⟩
        | false =>
          rw [if_neg (fun z => z.elim (fun z => by cases z) h24)]
          exact ⟨rfl, fun _ => by rw [(any_ok ha).2]⟩
/-- the three looks of _law_due -/
def lk0 (ws : List Str) : Bool := !isNon (lnum (ws.getD 0 Str.empty) 1000000)
def lk1 (ws : List Str) : Bool := decide ((ws.drop 1).take 1 = [Str.ofString "/"])
def lk2 (ws : List Str) : Bool := !isNon (lppl (ws.getD 2 Str.empty))
theorem rw0 (u : Str) : rword ((0 : Nat) : Int) u = wi (pnum u) 1 1000000 := rfl
theorem rw1 (u : Str) : rword ((0 + 1 : Nat) : Int) u = decide (u = Str.ofString "/") := rfl
theorem rw2 (u : Str) : rword ((0 + 1 + 1 : Nat) : Int) u = rword 2 u := rfl
theorem rw3 (u : Str) : rword ((0 + 1 + 1 + 1 : Nat) : Int) u = false := rfl
theorem lppl_e : isNon (lppl Str.empty) = true := by
  unfold lppl
  rw [if_neg (fun z => by cases (congrArg tl z)), show Txt.split Str.empty (Str.ofString ",") = [Str.empty] from rfl]
  rfl
def pdue (x : D ⊕ D) : D := match x with
  | .inl e => .lst [e]
  | .inr r => r
theorem ptw_due : ∀ (ws : List Str), ws ≠ [] → pdue (ptwL ws) =
    if lk0 ws = true then (if lk1 ws = true then (if lk2 ws = true then (if ws.length = 3 then .tup [lnum (ws.getD 0 Str.empty) 1000000, lppl (ws.getD 2 Str.empty)] else .lst [.int 3]) else .lst [.int 2]) else .lst [.int 1]) else .lst [.int 0]
  | [], h => absurd rfl h
  | w0 :: r, _ => by
    have g0 : lk0 (w0 :: r) = wi (pnum w0) 1 1000000 := by show (!isNon (lnum w0 1000000)) = _; rw [lnum_non, Bool.not_not]
    unfold ptwL
    rw [g0, badAt, rw0]
    cases h0 : wi (pnum w0) 1 1000000 with
    | false => rfl
    | true =>
      rw [if_pos rfl, if_pos rfl]
      match r with
      | [] =>
        rw [badAt, show lk1 [w0] = false from rfl]; rfl
      | [w1] =>
        have g1 : lk1 [w0, w1] = decide (w1 = Str.ofString "/") := by unfold lk1; exact decide_eq_decide.mpr ⟨fun z => (List.cons.inj z).1, fun z => by rw [z]; rfl⟩
        rw [g1, badAt, rw1]
        cases h1 : decide (w1 = Str.ofString "/") with
        | false => rfl
        | true =>
          rw [if_pos rfl, if_pos rfl, badAt, show lk2 [w0, w1] = false by unfold lk2; rw [show ([w0, w1] : List Str).getD 2 Str.empty = Str.empty from rfl, lppl_e]; rfl]; rfl
      | w1 :: w2 :: r =>
        have g1 : lk1 (w0 :: w1 :: w2 :: r) = decide (w1 = Str.ofString "/") := by unfold lk1; exact decide_eq_decide.mpr ⟨fun z => (List.cons.inj z).1, fun z => by rw [z]; rfl⟩
        rw [g1, badAt, rw1]
        cases h1 : decide (w1 = Str.ofString "/") with
        | false => rfl
        | true =>
          obtain ⟨k1, k2⟩ := lppl_pws w2
          have g2 : lk2 (w0 :: w1 :: w2 :: r) = rword 2 w2 := by show (!isNon (lppl w2)) = _; rw [k1, Bool.not_not]
          rw [if_pos rfl, if_pos rfl, badAt, rw2, g2]
          cases h2 : rword 2 w2 with
          | false => rfl
          | true =>
            rw [if_pos rfl, if_pos rfl]
            match r with
            | [] =>
              rw [badAt, if_pos (show ([w0, w1, w2] : List Str).length = 3 from rfl)]
              show D.tup [pnum w0, pws w2] = .tup [lnum w0 1000000, lppl w2]
              rw [lnum_eq h0, k2 h2]
            | w3 :: r =>
              rw [badAt, rw3, if_neg (show ¬ (w0 :: w1 :: w2 :: w3 :: r).length = 3 by simp)]; rfl
theorem at2w (w0 : Str) (r : List Str) : atI (D.str w0 :: (r.map D.str ++ [.str (Str.ofString ""), .str (Str.ofString "")])) 2 = some (.str ((w0 :: r).getD 2 Str.empty)) := by
  match r with
  | [] => rfl
  | [_] => rfl
  | _ :: _ :: _ => exact at2
theorem cut12 (w0 : Str) (r : List Str) : Dl.cutD (D.str w0 :: r.map D.str) (some 1) (some 2) = (((w0 :: r).drop 1).take 1).map .str := by
  match r with
  | [] => rfl
  | [_] => rfl
  | w1 :: w2 :: r =>
    have h1 : HT.sIx (D.str w0 :: (w1 :: w2 :: r).map D.str).length 0 (some 1) = 1 := by unfold HT.sIx; simp
    have h2 : HT.sIx (D.str w0 :: (w1 :: w2 :: r).map D.str).length (D.str w0 :: (w1 :: w2 :: r).map D.str).length (some 2) = 2 := by unfold HT.sIx; simp
    unfold Dl.cutD
    rw [h1, h2]; rfl


/-- what k45's _law_due says -/
def pdue2 (x : D ⊕ D) : D := match x with
  | .inl e => .lst [.str "text", e]
  | .inr r => r
def tx2 (d : D) : D := match d with
  | .lst [e] => .lst [.str "text", e]
  | r => r
theorem pdue2_eq (ws : List Str) : pdue2 (ptwL ws) = tx2 (pdue (ptwL ws)) := by
  rcases ptw_cases ws with ⟨k, e, _⟩ | ⟨t, _, e⟩ <;> rw [e] <;> rfl
theorem lk1_eq {ws : List Str} (h : 1 < ws.length) : lk1 ws = decide (ws.getD 1 Str.empty = Str.ofString "/") := by
  match ws, h with
  | w0 :: w1 :: r, _ =>
    unfold lk1
    exact decide_eq_decide.mpr ⟨fun z => (List.cons.inj z).1, fun z => by
      have z : w1 = Str.ofString "/" := z
      rw [z]; rfl⟩
theorem lk1_no {ws : List Str} (h : ws.length = 1) : lk1 ws = false := by
  match ws, h with
  | [w0], _ => rfl
theorem lk2_no {ws : List Str} (h : ws.length = 2) : lk2 ws = false := by
  match ws, h with
  | [w0, w1], _ =>
    show (!isNon (lppl Str.empty)) = false
    rw [lppl_e]; rfl
theorem at_ws {ws : List Str} {k : Nat} (h : k < ws.length) : atI (ws.map D.str) (k : Int) = some (.str (ws.getD k Str.empty)) := by
  refine ix_at ?_ (by omega)
  rw [Int.toNat_natCast, List.getElem?_map, List.getD_eq_getElem?_getD, List.getElem?_eq_getElem h]; rfl
theorem pw_text {e : D} (h : e = .non ∨ ∃ k : Nat, e = .int (k : Nat) ∧ k ≤ 80001) : ∃ p, Pw (.lst [.str "text", e]) p := by
  have hs := small_lit (s := "text") (by decide)
  rcases h with rfl | ⟨k, rfl, hk⟩
  · exact ⟨.list [.str "text", .none], rfl, by show (smallx (.str "text") && (true && true)) = true; rw [hs]; rfl, by simp [PyData.bulk, PyData.bulkAll]; decide, by simp [PyData.depth, PyData.depthAll]⟩
  · refine ⟨.list [.str "text", .int (k : Nat)], rfl, ?_, by simp [PyData.bulk, PyData.bulkAll]; decide, by simp [PyData.depth, PyData.depthAll]⟩
    show (smallx (.str "text") && (smallx (.int (k : Nat)) && true)) = true
    rw [hs, small_int ⟨by omega, by omega⟩]; rfl
def mkL : List D := (["0", "7", " ", ",", "/", ":", "-", "+", "_", "x", "", "  ", "\n", " / ", "1000001"] : List String).map fun s => D.str (Str.ofString s)
theorem mk_ok {d : D} (h : d ∈ mkL) : ∃ u : Str, d = .str u ∧ u.length ≤ 7 ∧ okT u := by
  obtain ⟨s, hs, rfl⟩ := List.mem_map.mp h
  have := List.all_eq_true.mp (show ((["0", "7", " ", ",", "/", ":", "-", "+", "_", "x", "", "  ", "\n", " / ", "1000001"] : List String).all fun s => (s.toList.all fun c => decide (c.toNat < 0x110000)) && decide (s.toList.length ≤ 7)) = true by decide) s hs
  rw [Bool.and_eq_true] at this
  exact ⟨_, rfl, by rw [lit_len]; exact of_decide_eq_true this.2, okT_lit this.1⟩
def oddL5 : List D := [.non, .int 5, .bl true, .tup [], .lst [], .dct []] ++ (["", "2", "2 /", "2 / ", "2 / -", "2 / 0", "- / 2", "/ 2", "2 / 2 /", "02 / 2"] : List String).map fun s => D.str (Str.ofString s)
/-- a value that is asked -/
def askd (d : D) : Prop := vok d = true ∧ ∀ u, d = .str u → u.length ≤ 600 ∧ okT u
theorem odd_ok {d : D} (h : d ∈ oddL5) : askd d := by
  rcases List.mem_append.mp h with z | z
  · simp only [List.mem_cons, List.not_mem_nil, or_false] at z
    rcases z with rfl | rfl | rfl | rfl | rfl | rfl <;> exact ⟨rfl, fun u e => by cases e⟩
  · obtain ⟨s, hs, rfl⟩ := List.mem_map.mp z
    have := List.all_eq_true.mp (show ((["", "2", "2 /", "2 / ", "2 / -", "2 / 0", "- / 2", "/ 2", "2 / 2 /", "02 / 2"] : List String).all fun s => (s.toList.all fun c => decide (c.toNat < 0x110000)) && decide (s.toList.length ≤ 600)) = true by decide) s hs
    rw [Bool.and_eq_true] at this
    exact ⟨rfl, fun u e => by cases e; exact ⟨by rw [lit_len]; exact of_decide_eq_true this.2, okT_lit this.1⟩⟩
theorem repl_ints (i : Int) : ∀ n : Nat, (List.replicate n [D.int i]).flatten = (List.replicate n i).map .int
  | 0 => rfl
  | n + 1 => by rw [List.replicate_succ, List.flatten_cons, repl_ints i n, List.replicate_succ, List.map_cons]; rfl

def odd45 : List D := [.non, .int 5, .bl true, .tup [], .lst [], .dct [], .str "", .str "2", .str "2 /", .str "2 / ", .str "2 / -", .str "2 / 0", .str "- / 2", .str "/ 2", .str "2 / 2 /", .str "02 / 2"]
theorem odd45_ok : ∀ d ∈ odd45, vok d = true ∧ ∀ u, d = .str u → u.length ≤ 600 ∧ okT u := by
  intro d hd
  simp only [odd45, List.mem_cons, List.not_mem_nil, or_false] at hd
  rcases hd with rfl | rfl | rfl | rfl | rfl | rfl | rfl | rfl | rfl | rfl | rfl | rfl | rfl | rfl | rfl | rfl <;> refine ⟨rfl, fun u e => ?_⟩ <;> first | (cases e; exact ⟨by decide, okT_lit (by decide)⟩) | cases e

abbrev stBadText___init__ : Stmt := inClass (top 19) 0
abbrev stis_number : Stmt := top 23
abbrev stis_excess : Stmt := top 24
abbrev stis_weight : Stmt := top 25
abbrev sttower_error : Stmt := top 26
abbrev stis_tower : Stmt := top 27
abbrev stparse_number : Stmt := top 42
abbrev stparse_weights : Stmt := top 43
abbrev stis_right_word : Stmt := top 44
abbrev stparse_tower : Stmt := top 45
abbrev st_law_deck : Stmt := top 54
abbrev st_law_draw : Stmt := top 55
abbrev st_law_weight : Stmt := top 56
abbrev st_law_tower : Stmt := top 57
abbrev st_law_reach : Stmt := top 58
abbrev stlighter_weight : Stmt := top 32
abbrev ststuck_person : Stmt := top 33
abbrev streach_weight : Stmt := top 34
abbrev stis_within : Stmt := top 47
abbrev stwith_person : Stmt := top 48
abbrev stwithout_person : Stmt := top 49
abbrev stwith_weight : Stmt := top 50
abbrev stHoist___init__ : Stmt := inClass (top 51) 1
abbrev stHoist_tower : Stmt := inClass (top 51) 3
abbrev stHoist_own_key : Stmt := inClass (top 51) 6
abbrev stHoist_accept : Stmt := inClass (top 51) 7
abbrev stHoist___len__ : Stmt := inClass (top 51) 8
abbrev stHoist___eq__ : Stmt := inClass (top 51) 9
abbrev stHoist_require_idle : Stmt := inClass (top 51) 11
abbrev stHoist_state_after : Stmt := inClass (top 51) 12
abbrev stHoist_perform : Stmt := inClass (top 51) 13
abbrev stHoist_come : Stmt := inClass (top 51) 14
abbrev stHoist_leave : Stmt := inClass (top 51) 15
abbrev stHoist_weigh : Stmt := inClass (top 51) 16
abbrev stHoist_loosen : Stmt := inClass (top 51) 17
abbrev stHoist_undo : Stmt := inClass (top 51) 18
abbrev stHoist_edits : Stmt := inClass (top 51) 25
abbrev stHoist_reach : Stmt := inClass (top 51) 4
abbrev stHoist_is_free : Stmt := inClass (top 51) 5
abbrev stHoist___str__ : Stmt := inClass (top 51) 10
abbrev stHoist_tower_at : Stmt := inClass (top 51) 21
abbrev stHoist_state : Stmt := inClass (top 51) 22
abbrev st_law_right : Stmt := top 59
abbrev st_law_number : Stmt := top 60
abbrev st_law_weights_of : Stmt := top 61
abbrev st_law_due : Stmt := top 62
abbrev st_law_text : Stmt := top 63
abbrev stHoist_read : Stmt := inClass (top 51) 2
abbrev st_law_read : Stmt := top 64
abbrev st_law_edits_right : Stmt := top 65
abbrev stlaw : Stmt := top 66
def dis_number : DefX := ⟨.glo "is_number", "is_number", "is_number", stis_number, [], []⟩
def dis_excess : DefX := ⟨.glo "is_excess", "is_excess", "is_excess", stis_excess, [], []⟩
def dis_weight : DefX := ⟨.glo "is_weight", "is_weight", "is_weight", stis_weight, [], []⟩
def dtower_error : DefX := ⟨.glo "tower_error", "tower_error", "tower_error", sttower_error, [], []⟩
def dis_tower : DefX := ⟨.glo "is_tower", "is_tower", "is_tower", stis_tower, [], []⟩
def dparse_number : DefX := ⟨.glo "parse_number", "parse_number", "parse_number", stparse_number, [], []⟩
def dparse_weights : DefX := ⟨.glo "parse_weights", "parse_weights", "parse_weights", stparse_weights, [], []⟩
def dis_right_word : DefX := ⟨.glo "is_right_word", "is_right_word", "is_right_word", stis_right_word, [], []⟩
def dparse_tower : DefX := ⟨.glo "parse_tower", "parse_tower", "parse_tower", stparse_tower, [], []⟩
def d_law_deck : DefX := ⟨.glo "_law_deck", "_law_deck", "_law_deck", st_law_deck, [], []⟩
def d_law_draw : DefX := ⟨.glo "_law_draw", "_law_draw", "_law_draw", st_law_draw, [], []⟩
def d_law_weight : DefX := ⟨.glo "_law_weight", "_law_weight", "_law_weight", st_law_weight, [], []⟩
def d_law_tower : DefX := ⟨.glo "_law_tower", "_law_tower", "_law_tower", st_law_tower, [], []⟩
def d_law_reach : DefX := ⟨.glo "_law_reach", "_law_reach", "_law_reach", st_law_reach, [], []⟩
def dlighter_weight : DefX := ⟨.glo "lighter_weight", "lighter_weight", "lighter_weight", stlighter_weight, [], []⟩
def dstuck_person : DefX := ⟨.glo "stuck_person", "stuck_person", "stuck_person", ststuck_person, [], []⟩
def dreach_weight : DefX := ⟨.glo "reach_weight", "reach_weight", "reach_weight", streach_weight, [], []⟩
def dis_within : DefX := ⟨.glo "is_within", "is_within", "is_within", stis_within, [], []⟩
def dwith_person : DefX := ⟨.glo "with_person", "with_person", "with_person", stwith_person, [], []⟩
def dwithout_person : DefX := ⟨.glo "without_person", "without_person", "without_person", stwithout_person, [], []⟩
def dwith_weight : DefX := ⟨.glo "with_weight", "with_weight", "with_weight", stwith_weight, [], []⟩
def dHoist___init__ : DefX := ⟨.meth "Hoist" "__init__", "__init__", "Hoist.__init__", stHoist___init__, [], []⟩
def dHoist_tower : DefX := ⟨.prop "Hoist" "tower", "tower", "Hoist.tower", stHoist_tower, [], []⟩
def dHoist_own_key : DefX := ⟨.meth "Hoist" "own_key", "own_key", "Hoist.own_key", stHoist_own_key, [], []⟩
def dHoist_accept : DefX := ⟨.meth "Hoist" "accept", "accept", "Hoist.accept", stHoist_accept, [], []⟩
def dHoist___len__ : DefX := ⟨.meth "Hoist" "__len__", "__len__", "Hoist.__len__", stHoist___len__, [], []⟩
def dHoist___eq__ : DefX := ⟨.meth "Hoist" "__eq__", "__eq__", "Hoist.__eq__", stHoist___eq__, [], []⟩
def dHoist_require_idle : DefX := ⟨.meth "Hoist" "require_idle", "require_idle", "Hoist.require_idle", stHoist_require_idle, [], []⟩
def dHoist_state_after : DefX := ⟨.meth "Hoist" "state_after", "state_after", "Hoist.state_after", stHoist_state_after, [], []⟩
def dHoist_perform : DefX := ⟨.meth "Hoist" "perform", "perform", "Hoist.perform", stHoist_perform, [], []⟩
def dHoist_come : DefX := ⟨.meth "Hoist" "come", "come", "Hoist.come", stHoist_come, [], []⟩
def dHoist_leave : DefX := ⟨.meth "Hoist" "leave", "leave", "Hoist.leave", stHoist_leave, [], []⟩
def dHoist_weigh : DefX := ⟨.meth "Hoist" "weigh", "weigh", "Hoist.weigh", stHoist_weigh, [], []⟩
def dHoist_loosen : DefX := ⟨.meth "Hoist" "loosen", "loosen", "Hoist.loosen", stHoist_loosen, [], []⟩
def dHoist_undo : DefX := ⟨.meth "Hoist" "undo", "undo", "Hoist.undo", stHoist_undo, [], []⟩
def dHoist_edits : DefX := ⟨.meth "Hoist" "edits", "edits", "Hoist.edits", stHoist_edits, [], []⟩
def dHoist_reach : DefX := ⟨.prop "Hoist" "reach", "reach", "Hoist.reach", stHoist_reach, [], []⟩
def dHoist_is_free : DefX := ⟨.prop "Hoist" "is_free", "is_free", "Hoist.is_free", stHoist_is_free, [], []⟩
def dHoist___str__ : DefX := ⟨.meth "Hoist" "__str__", "__str__", "Hoist.__str__", stHoist___str__, [], []⟩
def dHoist_tower_at : DefX := ⟨.meth "Hoist" "tower_at", "tower_at", "Hoist.tower_at", stHoist_tower_at, [], []⟩
def dHoist_state : DefX := ⟨.meth "Hoist" "state", "state", "Hoist.state", stHoist_state, [], [("version", .non)]⟩
def d_law_right : DefX := ⟨.glo "_law_right", "_law_right", "_law_right", st_law_right, [], []⟩
def d_law_number : DefX := ⟨.glo "_law_number", "_law_number", "_law_number", st_law_number, [], []⟩
def d_law_weights_of : DefX := ⟨.glo "_law_weights_of", "_law_weights_of", "_law_weights_of", st_law_weights_of, [], []⟩
def d_law_due : DefX := ⟨.glo "_law_due", "_law_due", "_law_due", st_law_due, [], []⟩
def d_law_text : DefX := ⟨.glo "_law_text", "_law_text", "_law_text", st_law_text, [], []⟩
def dHoist_read : DefX := ⟨.cm "Hoist" "read", "read", "Hoist.read", stHoist_read, [], []⟩
def d_law_read : DefX := ⟨.glo "_law_read", "_law_read", "_law_read", st_law_read, [], []⟩
def d_law_edits_right : DefX := ⟨.glo "_law_edits_right", "_law_edits_right", "_law_edits_right", st_law_edits_right, [], []⟩
def dlaw : DefX := ⟨.glo "law", "law", "law", stlaw, [], []⟩
def dBadText___init__ : DefX := ⟨.meth "BadText" "__init__", "__init__", "BadText.__init__", stBadText___init__, [], []⟩
def fnA : List DefX := [dis_number, dis_excess, dis_weight, dtower_error, dis_tower, dparse_number, dparse_weights, dis_right_word, dparse_tower, d_law_deck, d_law_draw, d_law_weight, d_law_tower, d_law_reach, dlighter_weight, dstuck_person, dreach_weight, dis_within, dwith_person, dwithout_person, dwith_weight, dHoist___init__, dHoist_tower, dHoist_own_key, dHoist_accept, dHoist___len__, dHoist___eq__, dHoist_require_idle, dHoist_state_after, dHoist_perform, dHoist_come, dHoist_leave, dHoist_weigh, dHoist_loosen, dHoist_undo, dHoist_edits, dHoist_reach, dHoist_is_free, dHoist___str__, dHoist_tower_at, dHoist_state, d_law_right, d_law_number, d_law_weights_of, d_law_due, d_law_text, dHoist_read, d_law_read, d_law_edits_right, dlaw, dBadText___init__]
def loose : List PySem.Str := (["_wall", "LIMIT", "MAX_EXCESS", "MAX_WEIGHT", "MAX_PEOPLE", "MAX_EDITS", "__name__", "RopeError", "Busy", "TooManyEdits", "TooManyPeople", "NothingToUndo", "TooLarge", "BadLoad", "BadExcess", "BadTower", "BadWeight", "BadNumber", "TooLow", "BadText", "NoPerson", "NoVersion", "is_number", "is_excess", "is_weight", "tower_error", "is_tower", "is_promise", "Promise", "lighter_weight"] : List PySem.Str) ++ (["stuck_person", "reach_weight", "FIGURES", "LONGEST", "COMMA", "MIDDLE", "NOBODY", "WORDS", "parse_number", "parse_weights", "is_right_word", "parse_tower", "is_within", "with_person", "without_person", "with_weight", "Hoist", "PromisedHoist", "_law_deck", "_law_draw", "_law_weight", "_law_tower", "_law_reach", "_law_right", "_law_number", "_law_weights_of", "_law_due", "_law_text", "_law_read", "_law_edits_right"] : List PySem.Str)
abbrev Rw : PySem.W.OpenRow := PySem.W.OpenLaw.row PySem.Challenge.rw_basketrope_k45_whole_hoists_read
abbrev hk : PySem.W.Hook := hookY 5 FA fnA (chkZ EX IN OW BA CO)
def ob (s : PySem.W.SharedT) : AlY := obY 5 FA fnA (chkZ EX IN OW BA CO) (HandSHeadRun.getT s)
theorem ob_eq (s : PySem.W.SharedT) : ob s = hk.obs s.abs := obY_eq (HandSHeadRun.getT_eq s)
theorem run (w : World) : HandSHeadRun.RunEq Rw (PySem.W.view Rw.prog [66]) hk ob 8000 loose w := by
  intro os
  kernel_rfl

section
variable {P : Program} {w : World} {K : PySem.W.Frag} {mg : Str → Option Value} {base : Heap}
theorem scBadText___init__ : FnScope (selfP "index") (selfP "index") (defScope stBadText___init__) := ⟨rfl, rfl, rfl, by decide +kernel, rfl, by decide +kernel, by decide +kernel⟩
theorem exBadText (T : Txt FA K mg) (TX : ExT K EX) (TI : InT K IN) (TS : IsF K IN OW) (TB : ∀ c ∈ BA, bareB K c = true) (TC : conOk K CO = true) (F : ∃ fd, FunD K "__init__" "BadText.__init__" (defArgs stBadText___init__) (defBody stBadText___init__) (defScope stBadText___init__) [] [] (He.ma K (He.ga K "BadText") "__init__") fd) : ExI P w K mg base "BadText" "index" :=
  exInit TX rfl (T.glo 0) F scBadText___init__ (fun _ _ _ _ _ _ => pss_one (ps_ost (pv 0) (pv 1))) (fun _ _ _ _ _ _ us hl => match us, hl with | [_, _], _ => rfl)
abbrev Nis_number : List Str := ["value", "low", "high"]
theorem scis_number : FnScope Nis_number ["value", "low", "high"] (defScope stis_number) := ⟨rfl, rfl, rfl, by decide +kernel, rfl, by decide +kernel, by decide +kernel⟩
def spis_number : SpD := fun ds S R E => ∃ (d : D) (lo hi : Int), ds = [d, .int lo, .int hi] ∧ vok d = true ∧ R (.bl (wi d lo hi)) S
theorem calis_number {f : Addr} (T : Txt FA K mg) (TX : ExT K EX) (TI : InT K IN) (TS : IsF K IN OW) (TB : ∀ c ∈ BA, bareB K c = true) (TC : conOk K CO = true) (F : FnP K "is_number" "is_number" stis_number f) (gm : mg "is_number" = some (.ref f))  : Cal P w K mg base 1 "is_number" ["value", "low", "high"] spis_number := by
  refine cal (k := 0) F gm scis_number ?len _ (fun cdv A outer s H E hr hgd tk =>
    have hu := hr.units
    have hp : PassesOwn (model P w) (cxOf (L2.CX P w) P w K mg base Nis_number "is_number" (defScope stis_number) f cdv A outer s H E).A (cxOf (L2.CX P w) P w K mg base Nis_number "is_number" (defScope stis_number) f cdv A outer s H E).env (cxOf (L2.CX P w) P w K mg base Nis_number "is_number" (defScope stis_number) f cdv A outer s H E).xe := passes_of rfl
    have nd := scis_number.nd
    (by exact (pssd_one (by exact (psd_ret (by exact (ped_and (by exact (ped_callB cd_isi (T.free 1) boot_isinstance (by exact (pad_cons (by exact (pvd 0)) (by exact (pad_cons (by exact (ped_type (T.free 3) boot_int)) pad_nil)))))) (by exact (ped_and (by exact (ped_not (by exact (ped_callB cd_isi (T.free 1) boot_isinstance (by exact (pad_cons (by exact (pvd 0)) (by exact (pad_cons (by exact (ped_type (T.free 2) boot_bool)) pad_nil)))))))) (by exact (ped_one (by exact (ped_chain opd_le opd_le (by exact (pvd 1)) (by exact (pvd 0)) (by exact (pvd 2))))))))))))))) ?pure (fun _ _ _ _ _ _ us hl => match us, hl with | [_, _, _], _ => rfl)
  case len =>
    intro ds S R E h
    (unfold spis_number at h; obtain ⟨_, _, _, rfl, _⟩ := h; rfl)
  case pure =>
    intro ds S R E h
    obtain ⟨d, lo, hi, rfl, hv, h⟩ := h
    cases d with
    | int i =>
      simp! [sx_, Bool.not_false, Bool.not_true]
      by_cases h0 : lo ≤ i
      · simp! [sx_, h0, decide_true]
        refine fin_same ?_
        have e : wi (.int i) lo hi = decide (i ≤ hi) := by simp only [wi, h0, true_and]
        rw [← e]; exact h
      · simp! [sx_, h0, decide_false]
        refine fin_same ?_
        have e : wi (.int i) lo hi = false := by simp only [wi, h0, false_and, decide_false]
        rw [← e]; exact h
    | bl b => simp! [sx_, Bool.not_false, Bool.not_true]; exact fin_same h
    | non => simp! [sx_, Bool.not_false, Bool.not_true]; exact fin_same h
    | str b => simp! [sx_, Bool.not_false, Bool.not_true]; exact fin_same h
    | tup b => simp! [sx_, Bool.not_false, Bool.not_true]; exact fin_same h
    | lst b => simp! [sx_, Bool.not_false, Bool.not_true]; exact fin_same h
    | dct b => simp! [sx_, Bool.not_false, Bool.not_true]; exact fin_same h
    | _ => cases hv
abbrev Nis_excess : List Str := ["value"]
theorem scis_excess : FnScope Nis_excess ["value"] (defScope stis_excess) := ⟨rfl, rfl, rfl, by decide +kernel, rfl, by decide +kernel, by decide +kernel⟩
def spis_excess : SpD := fun ds S R E => ∃ d : D, ds = [d] ∧ vok d = true ∧ R (.bl (wi d 1 1000000)) S
theorem calis_excess {f : Addr} (T : Txt FA K mg) (TX : ExT K EX) (TI : InT K IN) (TS : IsF K IN OW) (TB : ∀ c ∈ BA, bareB K c = true) (TC : conOk K CO = true) (F : FnP K "is_excess" "is_excess" stis_excess f) (gm : mg "is_excess" = some (.ref f)) (cis_number : Cal P w K mg base 1 "is_number" ["value", "low", "high"] spis_number) : Cal P w K mg base 2 "is_excess" ["value"] spis_excess := by
  refine cal (k := 1) F gm scis_excess ?len _ (fun cdv A outer s H E hr hgd tk =>
    have hu := hr.units
    have hp : PassesOwn (model P w) (cxOf (L2.CX P w) P w K mg base Nis_excess "is_excess" (defScope stis_excess) f cdv A outer s H E).A (cxOf (L2.CX P w) P w K mg base Nis_excess "is_excess" (defScope stis_excess) f cdv A outer s H E).env (cxOf (L2.CX P w) P w K mg base Nis_excess "is_excess" (defScope stis_excess) f cdv A outer s H E).xe := passes_of rfl
    have nd := scis_excess.nd
    (by exact (pssd_one (by exact (psd_ret (by exact (ped_callC cis_number hr hgd tk (by exact (pad_cons (by exact (pvd 0)) (by exact (pad_cons ped_int (by exact (pad_cons (by exact (ped_gint (T.int 4))) pad_nil))))))))))))) ?pure (fun _ _ _ _ _ _ us hl => match us, hl with | [_], _ => rfl)
  case len =>
    intro ds S R E h
    (unfold spis_excess at h; obtain ⟨_, rfl, _⟩ := h; rfl)
  case pure =>
    intro ds S R E h
    obtain ⟨d, rfl, hv, h⟩ := h
    simp! [sx_, true_and]
    exact ⟨d, 1, 1000000, rfl, hv, fin_same h⟩
abbrev Nis_weight : List Str := ["value"]
theorem scis_weight : FnScope Nis_weight ["value"] (defScope stis_weight) := ⟨rfl, rfl, rfl, by decide +kernel, rfl, by decide +kernel, by decide +kernel⟩
def spis_weight : SpD := fun ds S R E => ∃ d : D, ds = [d] ∧ vok d = true ∧ R (.bl (wi d 1 1000000)) S
theorem calis_weight {f : Addr} (T : Txt FA K mg) (TX : ExT K EX) (TI : InT K IN) (TS : IsF K IN OW) (TB : ∀ c ∈ BA, bareB K c = true) (TC : conOk K CO = true) (F : FnP K "is_weight" "is_weight" stis_weight f) (gm : mg "is_weight" = some (.ref f)) (cis_number : Cal P w K mg base 1 "is_number" ["value", "low", "high"] spis_number) : Cal P w K mg base 2 "is_weight" ["value"] spis_weight := by
  refine cal (k := 1) F gm scis_weight ?len _ (fun cdv A outer s H E hr hgd tk =>
    have hu := hr.units
    have hp : PassesOwn (model P w) (cxOf (L2.CX P w) P w K mg base Nis_weight "is_weight" (defScope stis_weight) f cdv A outer s H E).A (cxOf (L2.CX P w) P w K mg base Nis_weight "is_weight" (defScope stis_weight) f cdv A outer s H E).env (cxOf (L2.CX P w) P w K mg base Nis_weight "is_weight" (defScope stis_weight) f cdv A outer s H E).xe := passes_of rfl
    have nd := scis_weight.nd
    (by exact (pssd_one (by exact (psd_ret (by exact (ped_callC cis_number hr hgd tk (by exact (pad_cons (by exact (pvd 0)) (by exact (pad_cons ped_int (by exact (pad_cons (by exact (ped_gint (T.int 5))) pad_nil))))))))))))) ?pure (fun _ _ _ _ _ _ us hl => match us, hl with | [_], _ => rfl)
  case len =>
    intro ds S R E h
    (unfold spis_weight at h; obtain ⟨_, rfl, _⟩ := h; rfl)
  case pure =>
    intro ds S R E h
    obtain ⟨d, rfl, hv, h⟩ := h
    simp! [sx_, true_and]
    exact ⟨d, 1, 1000000, rfl, hv, fin_same h⟩
abbrev Ntower_error : List Str := ["value", "excess", "weights", "person", "weight"]
theorem sctower_error : FnScope Ntower_error ["value"] (defScope sttower_error) := ⟨rfl, rfl, rfl, by decide +kernel, rfl, by decide +kernel, by decide +kernel⟩
def sptower_error : SpD := fun ds S R E => ∃ d : D, ds = [d] ∧ okTw d ∧ R (twErr d) S
theorem caltower_error {f : Addr} (T : Txt FA K mg) (TX : ExT K EX) (TI : InT K IN) (TS : IsF K IN OW) (TB : ∀ c ∈ BA, bareB K c = true) (TC : conOk K CO = true) (F : FnP K "tower_error" "tower_error" sttower_error f) (gm : mg "tower_error" = some (.ref f)) (cis_excess : Cal P w K mg base 2 "is_excess" ["value"] spis_excess) (cis_weight : Cal P w K mg base 2 "is_weight" ["value"] spis_weight) : Cal P w K mg base 3 "tower_error" ["value"] sptower_error := by
  refine cal (k := 2) F gm sctower_error ?len _ (fun cdv A outer s H E hr hgd tk =>
    have hu := hr.units
    have hp : PassesOwn (model P w) (cxOf (L2.CX P w) P w K mg base Ntower_error "tower_error" (defScope sttower_error) f cdv A outer s H E).A (cxOf (L2.CX P w) P w K mg base Ntower_error "tower_error" (defScope sttower_error) f cdv A outer s H E).env (cxOf (L2.CX P w) P w K mg base Ntower_error "tower_error" (defScope sttower_error) f cdv A outer s H E).xe := passes_of rfl
    have nd := sctower_error.nd
    (by exact (pssd_cons (by exact (psd_if (by exact (PWD.pt (pwd_or (by exact (ptd_not (by exact (ptd_truth (by exact (ped_callB cd_isi (T.free 1) boot_isinstance (by exact (pad_cons (by exact (pvd 0)) (by exact (pad_cons (by exact (ped_type (T.free 9) boot_tuple)) pad_nil)))))))))) (by exact (pwd_or1 (by exact (ptd_cmp (opd_ne hu) (by exact (ped_callB cd_len (T.free 7) boot_len (by exact (pad_cons (by exact (pvd 0)) pad_nil)))) ped_int))))))) (by exact (pssd_one (by exact (psd_ret (by exact (ped_tup (by exact (pad_cons ped_non (by exact (pad_cons ped_str pad_nil)))))))))) pssd_nil))
    (by exact (pssd_cons (by exact (psd_asg (by exact (pvd 0)) (by exact (pgd_tup (n := 2) rfl (pgsd_cons (by exact (pgd 1 nd)) (by exact (pgsd_cons (by exact (pgd 2 nd)) pgsd_nil)))))))
    (by exact (pssd_cons (by exact (psd_if (by exact (ptd_not (by exact (ptd_truth (by exact (ped_callC cis_excess hr hgd tk (by exact (pad_cons (by exact (pvd 1)) pad_nil)))))))) (by exact (pssd_one (by exact (psd_ret (by exact (ped_tup (by exact (pad_cons ped_non (by exact (pad_cons ped_str pad_nil)))))))))) pssd_nil))
    (by exact (pssd_cons (by exact (psd_if (by exact (PWD.pt (pwd_or (by exact (ptd_not (by exact (ptd_truth (by exact (ped_callB cd_isi (T.free 1) boot_isinstance (by exact (pad_cons (by exact (pvd 2)) (by exact (pad_cons (by exact (ped_type (T.free 9) boot_tuple)) pad_nil)))))))))) (by exact (pwd_or1 (by exact (ptd_cmp opd_gt (by exact (ped_callB cd_len (T.free 7) boot_len (by exact (pad_cons (by exact (pvd 2)) pad_nil)))) (by exact (ped_gint (T.int 8)))))))))) (by exact (pssd_one (by exact (psd_ret (by exact (ped_tup (by exact (pad_cons ped_non (by exact (pad_cons ped_str pad_nil)))))))))) pssd_nil))
    (by exact (pssd_cons (by exact (psd_for hp rfl (by exact (pid_enumT (T.free 6) (by exact (pad_cons (by exact (pvd 2)) pad_nil)))) (by exact (pgd_tup (n := 2) rfl (pgsd_cons (by exact (pgd 3 nd)) (by exact (pgsd_cons (by exact (pgd 4 nd)) pgsd_nil)))))
    (by exact (pssd_one (by exact (psd_if (by exact (ptd_not (by exact (ptd_truth (by exact (ped_callC cis_weight hr hgd tk (by exact (pad_cons (by exact (pvd 4)) pad_nil)))))))) (by exact (pssd_one (by exact (psd_ret (by exact (ped_tup (by exact (pad_cons (by exact (pvd 3)) (by exact (pad_cons ped_str pad_nil)))))))))) pssd_nil))))))
    (by exact (pssd_one (by exact (psd_ret ped_non))))))))))))))) ?pure (fun _ _ _ _ _ _ us hl => match us, hl with | [_], _ => rfl)
  case len =>
    intro ds S R E h
    (unfold sptower_error at h; obtain ⟨_, rfl, _⟩ := h; rfl)
  case pure =>
    intro ds S R E h
    obtain ⟨d, rfl, ⟨hv, hw⟩, h⟩ := h
    cases d with
    | tup es =>
      have hes := hw es rfl
      cases es with
      | nil => simp! [sx_, Bool.not_true, if_false]; exact fin_same h
      | cons e es =>
        cases es with
        | nil => simp! [sx_, Bool.not_true, if_false]; exact fin_same h
        | cons w es =>
          cases es with
          | nil =>
            have he := hes e (by simp)
            have hww := hes w (by simp)
            dsimp! [sx_, Bool.not_true, Bool.not_false, if_true, if_false, eq_self, decide_true]
            simp only [nc2, eq_self, decide_true, Bool.not_true, Bool.false_eq_true, if_false]
            refine ⟨e, rfl, he.1, ?_⟩
            have hT : twErr (.tup [e, w]) = if wi e 1 1000000 = true then twW w else .tup [.non, .str "excess"] := rfl
            rw [hT] at h
            cases hx : wi e 1 1000000 with
            | false =>
              simp! [sx_, Bool.not_false, if_true]
              rw [hx, if_neg Bool.false_ne_true] at h
              exact fin_same h
            | true =>
              rw [hx, if_pos rfl] at h
              cases w with
              | tup ws =>
                have hws := hww.2 ws rfl
                have hW : twW (.tup ws) = if 24 < ws.length then .tup [.non, .str "weights"] else firstBad 0 ws := rfl
                rw [hW] at h
                dsimp! [sx_, Bool.not_true, if_false]
                by_cases hl : 24 < ws.length
                · have hl' : (24 : Int) < (ws.length : Int) := by omega
                  rw [if_pos hl] at h
                  simp! [sx_, hl', if_true]
                  exact fin_same h
                · have hl' : ¬ (24 : Int) < (ws.length : Int) := by omega
                  rw [if_neg hl] at h
                  dsimp! [sx_, hl', if_false]
                  rw [r_sFor]
                  dsimp! [sx_, true_and]
                  refine ⟨fun k ρ' S' => S' = S ∧ (∃ o3 o4, ρ' = [some (.tup [e, .tup ws]), some e, some (.tup ws), o3, o4]) ∧ firstBad 0 ws = firstBad k (ws.drop k), ⟨rfl, ⟨_, _, rfl⟩, rfl⟩, fun _ _ _ _ => trivial, ?_, ?_⟩
                  · rintro k d ρ' S' hk ⟨rfl, ⟨o3, o4, rfl⟩, hb⟩
                    obtain ⟨x, hx2, rfl⟩ := enumD_get hk
                    have hb2 := firstBad_step hx2
                    simp! [sx_, true_and]
                    refine ⟨x, rfl, hws x (List.mem_of_getElem? hx2), ?_⟩
                    cases hy : wi x 1 1000000 with
                    | false =>
                      simp! [sx_, Bool.not_false, if_true]
                      rw [hy, if_neg Bool.false_ne_true] at hb2
                      rw [hb, hb2] at h
                      rw [Nat.zero_add]
                      exact fin_same h
                    | true =>
                      rw [hy, if_pos rfl] at hb2
                      simp! [sx_, Bool.not_true, if_false]
                      exact ⟨⟨_, _, rfl⟩, hb.trans hb2⟩
                  · rintro ρ' S' ⟨rfl, ⟨o3, o4, rfl⟩, hb⟩
                    rw [enumD_length, List.drop_length] at hb
                    rw [hb] at h
                    try simp! [sx_, true_and]
                    exact fin_same h
              | int b => simp! [sx_, Bool.not_false, Bool.not_true, if_true, if_false]; exact fin_same h
              | bl b => simp! [sx_, Bool.not_false, Bool.not_true, if_true, if_false]; exact fin_same h
              | non => simp! [sx_, Bool.not_false, Bool.not_true, if_true, if_false]; exact fin_same h
              | str b => simp! [sx_, Bool.not_false, Bool.not_true, if_true, if_false]; exact fin_same h
              | lst b => simp! [sx_, Bool.not_false, Bool.not_true, if_true, if_false]; exact fin_same h
              | dct b => simp! [sx_, Bool.not_false, Bool.not_true, if_true, if_false]; exact fin_same h
              | _ => cases hww.1
          | cons x es =>
            have n2 : ¬ (((es.length + 1 + 1 + 1 : Nat) : Int) = 2) := by omega
            simp! [sx_, Bool.not_true, Bool.not_false, if_true, if_false, n2, decide_false]
            exact fin_same h
    | int b => simp! [sx_, Bool.not_false, Bool.not_true, if_true, if_false]; exact fin_same h
    | bl b => simp! [sx_, Bool.not_false, Bool.not_true, if_true, if_false]; exact fin_same h
    | non => simp! [sx_, Bool.not_false, Bool.not_true, if_true, if_false]; exact fin_same h
    | str b => simp! [sx_, Bool.not_false, Bool.not_true, if_true, if_false]; exact fin_same h
    | lst b => simp! [sx_, Bool.not_false, Bool.not_true, if_true, if_false]; exact fin_same h
    | dct b => simp! [sx_, Bool.not_false, Bool.not_true, if_true, if_false]; exact fin_same h
    | _ => cases hv
abbrev Nis_tower : List Str := ["value"]
theorem scis_tower : FnScope Nis_tower ["value"] (defScope stis_tower) := ⟨rfl, rfl, rfl, by decide +kernel, rfl, by decide +kernel, by decide +kernel⟩
def spis_tower : SpD := fun ds S R E => ∃ d : D, ds = [d] ∧ okTw d ∧ R (.bl (isNon (twErr d))) S
theorem calis_tower {f : Addr} (T : Txt FA K mg) (TX : ExT K EX) (TI : InT K IN) (TS : IsF K IN OW) (TB : ∀ c ∈ BA, bareB K c = true) (TC : conOk K CO = true) (F : FnP K "is_tower" "is_tower" stis_tower f) (gm : mg "is_tower" = some (.ref f)) (ctower_error : Cal P w K mg base 3 "tower_error" ["value"] sptower_error) : Cal P w K mg base 4 "is_tower" ["value"] spis_tower := by
  refine cal (k := 3) F gm scis_tower ?len _ (fun cdv A outer s H E hr hgd tk =>
    have hu := hr.units
    have hp : PassesOwn (model P w) (cxOf (L2.CX P w) P w K mg base Nis_tower "is_tower" (defScope stis_tower) f cdv A outer s H E).A (cxOf (L2.CX P w) P w K mg base Nis_tower "is_tower" (defScope stis_tower) f cdv A outer s H E).env (cxOf (L2.CX P w) P w K mg base Nis_tower "is_tower" (defScope stis_tower) f cdv A outer s H E).xe := passes_of rfl
    have nd := scis_tower.nd
    (by exact (pssd_one (by exact (psd_ret (by exact (ped_isN (by exact (ped_callC ctower_error hr hgd tk (by exact (pad_cons (by exact (pvd 0)) pad_nil))))))))))) ?pure (fun _ _ _ _ _ _ us hl => match us, hl with | [_], _ => rfl)
  case len =>
    intro ds S R E h
    (unfold spis_tower at h; obtain ⟨_, rfl, _⟩ := h; rfl)
  case pure =>
    intro ds S R E h
    obtain ⟨d, rfl, hv, h⟩ := h
    simp! [sx_, true_and]
    exact ⟨d, rfl, hv, fin_same h⟩
abbrev Nparse_number : List Str := ["word", "figure"]
theorem scparse_number : FnScope Nparse_number ["word"] (defScope stparse_number) := ⟨rfl, rfl, rfl, by decide +kernel, rfl, by decide +kernel, by decide +kernel⟩
def spparse_number : SpD := fun ds S R E => ∃ u : Str, ds = [.str u] ∧ u.length ≤ 100000 ∧ okT u ∧ R (pnum u) S
theorem calparse_number {f : Addr} (T : Txt FA K mg) (TX : ExT K EX) (TI : InT K IN) (TS : IsF K IN OW) (TB : ∀ c ∈ BA, bareB K c = true) (TC : conOk K CO = true) (F : FnP K "parse_number" "parse_number" stparse_number f) (gm : mg "parse_number" = some (.ref f))  : Cal P w K mg base 1 "parse_number" ["word"] spparse_number := by
  refine cal (k := 0) F gm scparse_number ?len _ (fun cdv A outer s H E hr hgd tk =>
    have hu := hr.units
    have hp : PassesOwn (model P w) (cxOf (L2.CX P w) P w K mg base Nparse_number "parse_number" (defScope stparse_number) f cdv A outer s H E).A (cxOf (L2.CX P w) P w K mg base Nparse_number "parse_number" (defScope stparse_number) f cdv A outer s H E).env (cxOf (L2.CX P w) P w K mg base Nparse_number "parse_number" (defScope stparse_number) f cdv A outer s H E).xe := passes_of rfl
    have nd := scparse_number.nd
    (by exact (pssd_cons (by exact (psd_if (by exact (PWD.pt (pwd_or (by exact (ptd_not (by exact (ptd_chain opd_le opd_le ped_int (by exact (ped_callB cd_len (T.free 7) boot_len (by exact (pad_cons (by exact (pvd 0)) pad_nil)))) (by exact (ped_gint (T.int 12))))))) (by exact (pwd_or1 (by exact (ptd_not (by exact (ptd_truth (by exact (ped_callB (cd_all rfl) (T.free 10) boot_all (by exact (pad_cons (by exact (ped_lc (B := bd1 "figure" 1) rfl nd (by exact (pid_str (by exact (pvd 0)))) (blkOk_by (N := Nparse_number) (sc := defScope stparse_number) (by decide +kernel)) (fun _ _ _ _ _ => pg_name (i := 1) nd rfl (Or.inl rfl)) (fun _ _ _ _ _ => ptsd_nil) (fun _ _ _ _ _ => (by exact (ped_cmp opd_in (by exact (pvd 1)) (by exact (ped_gstr (T.str 11)))))))) pad_nil))))))))))))) (by exact (pssd_one (by exact (psd_ret ped_non)))) pssd_nil))
    (by exact (pssd_one (by exact (psd_ret (by exact (ped_if (by exact (PWD.pt (pwd_and (by exact (ptd_cmp (opd_eq hu) (by exact (ped_ix (by exact (pvd 0)) ped_int)) ped_str)) (by exact (pwd_and1 (by exact (ptd_cmp (opd_ne hu) (by exact (pvd 0)) ped_str))))))) ped_non (by exact (ped_callTy cd_int (T.free 3) boot_int (by exact (pad_cons (by exact (pvd 0)) pad_nil))))))))))))) ?pure (fun _ _ _ _ _ _ us hl => match us, hl with | [_], _ => rfl)
  case len =>
    intro ds S R E h
    (unfold spparse_number at h; obtain ⟨_, rfl, _⟩ := h; rfl)
  case pure =>
    intro ds S R E h
    obtain ⟨u, rfl, hl, hk, h⟩ := h
    have sl : (100000 : Nat) ≤ sizeLine := by decide
    simp! [sx_, r_inS]
    refine ⟨by omega, ?_⟩
    by_cases h1 : (1 : Int) ≤ (u.length : Int)
    · by_cases h8 : (u.length : Int) ≤ 8
      · simp! [sx_, h1, h8, if_true, decide_true, Bool.not_true, if_false]
        refine lc_map (tl u) (fun c => .str ⟨#[c]⟩) (fun _ => true) (fun c => .bl (decide (c ∈ (Str.ofString "0123456789").cps.toList))) rfl (by rw [← len_tl]; omega) (fun _ _ => trivial) (fun c hc S' _ Rt Rn ht _ => ⟨_, rfl, ?_⟩) ?_
        · simp! [sx_, r_inS]
          exact ht rfl
        rw [filt_true, show (tl u).map (fun c => D.bl (decide (c ∈ (Str.ofString "0123456789").cps.toList))) = ((tl u).map fun c => decide (c ∈ (Str.ofString "0123456789").cps.toList)).map .bl by rw [List.map_map]; rfl]
        simp! [sx_, true_and]
        refine ⟨_, blsD_map _, ?_⟩
        rw [all_figs]
        cases hd : allDig u with
        | false =>
          simp! [sx_, Bool.not_false, if_true]
          have e : pnum u = .non := by unfold pnum; rw [if_neg (by rw [hd]; simp)]
          rw [← e]; exact fin_same h
        | true =>
          simp! [sx_, Bool.not_true, if_false]
          obtain ⟨c, q, hc⟩ : ∃ c q, tl u = c :: q := by
            cases e : tl u with
            | nil => rw [len_tl, e] at h1; exact absurd h1 (by decide)
            | cons c q => exact ⟨c, q, rfl⟩
          refine ⟨by omega, c, by show atI (tl u) 0 = some c; rw [hc]; exact at0, ?_⟩
          have ok0 : PyData.strOk (Str.ofString "0") = true := okT_iff.mpr (okT_lit (by decide))
          have okc : PyData.strOk (⟨#[c]⟩ : Str) = true := okT_iff.mpr fun x hx => by
            have : x = c := by simpa [tl] using hx
            rw [this]; exact hk c (by rw [hc]; simp)
          have e0 : ((⟨#[c]⟩ : Str) = Str.ofString "0") ↔ c = 48 := ⟨fun z => by
            have := congrArg tl z
            exact (List.cons.inj (show [c] = [48] from this)).1, fun z => by rw [z]; rfl⟩
          have hp : pnum u = if (tl u).head? = some 48 ∧ u ≠ Str.ofString "0" then .non else .int (NumText.digitsVal (tl u) : Nat) := by
            unfold pnum; rw [if_pos ⟨⟨by omega, by omega⟩, hd⟩]
          have hi := pnum_int (u := u) (by omega) (by omega) hd
          by_cases h48 : c = 48
          · subst h48
            have e1 : ((⟨#[48]⟩ : Str) = Str.ofString "0") = True := eq_true rfl
            simp! [sx_, r_eqS okc ok0, e1, decide_true, if_true, r_neS (okT_iff.mpr hk) ok0]
            by_cases hu : u = Str.ofString "0"
            · simp! [sx_, hu, eq_self, decide_true, Bool.not_true, if_false]
              rw [hp, if_neg (fun z => z.2 hu)] at h
              rw [← hu]
              exact ⟨_, hi, by omega, fin_same h⟩
            · simp! [sx_, hu, decide_false, Bool.not_false, if_true]
              rw [hp, if_pos ⟨by rw [hc]; rfl, hu⟩] at h
              exact fin_same h
          · simp! [sx_, r_eqS okc ok0, e0, h48, decide_false, if_false]
            rw [hp, if_neg (fun z => h48 (by rw [hc] at z; exact Option.some.inj z.1))] at h
            exact ⟨_, hi, by omega, fin_same h⟩
      · simp! [sx_, h1, h8, if_true, decide_false, Bool.not_false]
        have e : pnum u = .non := by unfold pnum; rw [if_neg (fun z => h8 (by omega))]
        rw [← e]; exact fin_same h
    · simp! [sx_, h1, if_true, Bool.not_false, if_false]
      have e : pnum u = .non := by unfold pnum; rw [if_neg (fun z => h1 (by omega))]
      rw [← e]; exact fin_same h
abbrev Nparse_weights : List Str := ["word", "numbers", "part"]
theorem scparse_weights : FnScope Nparse_weights ["word"] (defScope stparse_weights) := ⟨rfl, rfl, rfl, by decide +kernel, rfl, by decide +kernel, by decide +kernel⟩
def spparse_weights : SpD := fun ds S R E => ∃ u : Str, ds = [.str u] ∧ u.length ≤ 90000 ∧ okT u ∧ R (pws u) S
theorem calparse_weights {f : Addr} (T : Txt FA K mg) (TX : ExT K EX) (TI : InT K IN) (TS : IsF K IN OW) (TB : ∀ c ∈ BA, bareB K c = true) (TC : conOk K CO = true) (F : FnP K "parse_weights" "parse_weights" stparse_weights f) (gm : mg "parse_weights" = some (.ref f)) (cparse_number : Cal P w K mg base 1 "parse_number" ["word"] spparse_number) : Cal P w K mg base 2 "parse_weights" ["word"] spparse_weights := by
  refine cal (k := 1) F gm scparse_weights ?len _ (fun cdv A outer s H E hr hgd tk =>
    have hu := hr.units
    have hp : PassesOwn (model P w) (cxOf (L2.CX P w) P w K mg base Nparse_weights "parse_weights" (defScope stparse_weights) f cdv A outer s H E).A (cxOf (L2.CX P w) P w K mg base Nparse_weights "parse_weights" (defScope stparse_weights) f cdv A outer s H E).env (cxOf (L2.CX P w) P w K mg base Nparse_weights "parse_weights" (defScope stparse_weights) f cdv A outer s H E).xe := passes_of rfl
    have nd := scparse_weights.nd
    (by exact (pssd_cons (by exact (psd_if (by exact (ptd_cmp (opd_eq hu) (by exact (pvd 0)) (by exact (ped_gstr (T.str 14))))) (by exact (pssd_one (by exact (psd_ret (by exact (ped_tup pad_nil)))))) pssd_nil))
    (by exact (pssd_cons (by exact (psd_set 1 nd (by exact (ped_callTy cd_tuple (T.free 9) boot_tuple (by exact (pad_cons (by exact (ped_lc (B := bd1 "part" 2) rfl nd (by exact (pid_list (by exact (ped_m PySem.F.plainAttrs_str PySem.F.slot_str_split PySem.F.type_str_split md_split (by exact (pvd 0)) (by exact (pad_cons (by exact (ped_gstr (T.str 13))) pad_nil)))))) (blkOk_by (N := Nparse_weights) (sc := defScope stparse_weights) (by decide +kernel)) (fun _ _ _ _ _ => pg_name (i := 2) nd rfl (Or.inl rfl)) (fun _ _ _ _ _ => ptsd_nil) (fun _ _ _ _ _ => (by exact (ped_callC cparse_number hr hgd takes0 (by exact (pad_cons (by exact (pvd 2)) pad_nil))))))) pad_nil))))))
    (by exact (pssd_one (by exact (psd_ret (by exact (ped_if (by exact (ptd_cmp opd_in ped_non (by exact (pvd 1)))) ped_non (by exact (pvd 1))))))))))))) ?pure (fun _ _ _ _ _ _ us hl => match us, hl with | [_], _ => rfl)
  case len =>
    intro ds S R E h
    (unfold spparse_weights at h; obtain ⟨_, rfl, _⟩ := h; rfl)
  case pure =>
    intro ds S R E h
    obtain ⟨u, rfl, hl, hk, h⟩ := h
    have sl : (100000 : Nat) ≤ sizeLine := by decide
    have okm : PyData.strOk (Str.ofString "-") = true := okT_iff.mpr (okT_lit (by decide))
    simp! [sx_, r_eqS (okT_iff.mpr hk) okm]
    by_cases hu : u = Str.ofString "-"
    · simp! [sx_, hu, eq_self, decide_true, if_true]
      have e : pws u = .tup [] := if_pos hu
      rw [e] at h; exact fin_same h
    · simp! [sx_, hu, decide_false, if_false]
      have e : pws u = pwsL (Txt.split u (Str.ofString ",")) := if_neg hu
      rw [e] at h
      refine ⟨rfl, by omega, ?_⟩
      have hn : (Txt.split u (Str.ofString ",")).length ≤ u.length + 1 := split_length (by decide) (by decide +kernel)
      refine lc_map (Txt.split u (Str.ofString ",")) .str (fun _ => true) pnum rfl (by omega) (fun _ _ => trivial) (fun p hp S' _ Rt Rn ht _ => ⟨_, rfl, ?_⟩) ?_
      · obtain ⟨g1, g2⟩ := split_part (y := Str.ofString ",") (by decide) (by decide +kernel) hp
        simp! [sx_, true_and]
        exact ⟨p, rfl, by omega, fun c hc => hk c (g1 c hc), ht rfl⟩
      rw [filt_true]
      simp! [sx_, r_inNon]
      unfold pwsL at h
      by_cases ha : ((Txt.split u (Str.ofString ",")).map pnum).any isNon = true
      · rw [if_pos ha] at h
        simp! [sx_, ha, if_true]
        exact fin_same h
      · rw [if_neg ha] at h
        simp! [sx_, ha, if_false]
        exact fin_same h
abbrev Nis_right_word : List Str := ["index", "word"]
theorem scis_right_word : FnScope Nis_right_word ["index", "word"] (defScope stis_right_word) := ⟨rfl, rfl, rfl, by decide +kernel, rfl, by decide +kernel, by decide +kernel⟩
def spis_right_word : SpD := fun ds S R E => ∃ (i : Int) (u : Str), ds = [.int i, .str u] ∧ u.length ≤ 90000 ∧ okT u ∧ R (.bl (rword i u)) S
theorem calis_right_word {f : Addr} (T : Txt FA K mg) (TX : ExT K EX) (TI : InT K IN) (TS : IsF K IN OW) (TB : ∀ c ∈ BA, bareB K c = true) (TC : conOk K CO = true) (F : FnP K "is_right_word" "is_right_word" stis_right_word f) (gm : mg "is_right_word" = some (.ref f)) (cis_number : Cal P w K mg base 1 "is_number" ["value", "low", "high"] spis_number) (cparse_number : Cal P w K mg base 1 "parse_number" ["word"] spparse_number) (cis_tower : Cal P w K mg base 4 "is_tower" ["value"] spis_tower) (cparse_weights : Cal P w K mg base 2 "parse_weights" ["word"] spparse_weights) : Cal P w K mg base 5 "is_right_word" ["index", "word"] spis_right_word := by
  refine cal (k := 4) F gm scis_right_word ?len _ (fun cdv A outer s H E hr hgd tk =>
    have hu := hr.units
    have hp : PassesOwn (model P w) (cxOf (L2.CX P w) P w K mg base Nis_right_word "is_right_word" (defScope stis_right_word) f cdv A outer s H E).A (cxOf (L2.CX P w) P w K mg base Nis_right_word "is_right_word" (defScope stis_right_word) f cdv A outer s H E).env (cxOf (L2.CX P w) P w K mg base Nis_right_word "is_right_word" (defScope stis_right_word) f cdv A outer s H E).xe := passes_of rfl
    have nd := scis_right_word.nd
    (by exact (pssd_cons (by exact (psd_match (by exact (pvd 0)) (by exact (pmc_val hu ped_int (by exact (pssd_one (by exact (psd_ret (by exact (ped_callC cis_number hr hgd tk (by exact (pad_cons (by exact (ped_callC cparse_number hr hgd tk (by exact (pad_cons (by exact (pvd 1)) pad_nil)))) (by exact (pad_cons ped_int (by exact (pad_cons (by exact (ped_gint (T.int 4))) pad_nil)))))))))))) (by exact (pmc_val hu ped_int (by exact (pssd_one (by exact (psd_ret (by exact (ped_cmp (opd_eq hu) (by exact (pvd 1)) (by exact (ped_gstr (T.str 15))))))))) (by exact (pmc_val hu ped_int (by exact (pssd_one (by exact (psd_ret (by exact (ped_callC cis_tower hr hgd tk (by exact (pad_cons (by exact (ped_tup (by exact (pad_cons ped_int (by exact (pad_cons (by exact (ped_callC cparse_weights hr hgd tk (by exact (pad_cons (by exact (pvd 1)) pad_nil)))) pad_nil)))))) pad_nil)))))))) pmc_nil))))))))
    (by exact (pssd_one (by exact (psd_ret ped_bl))))))) ?pure (fun _ _ _ _ _ _ us hl => match us, hl with | [_, _], _ => rfl)
  case len =>
    intro ds S R E h
    (unfold spis_right_word at h; obtain ⟨_, _, rfl, _⟩ := h; rfl)
  case pure =>
    intro ds S R E h
    obtain ⟨i, u, rfl, hl, hk, h⟩ := h
    have okm : PyData.strOk (Str.ofString "/") = true := okT_iff.mpr (okT_lit (by decide))
    simp! [sx_, true_and]
    unfold rword at h
    by_cases h0 : i = 0
    · rw [if_pos h0] at h
      simp! [sx_, h0, eq_self, decide_true, if_true]
      refine ⟨u, rfl, by omega, hk, ?_⟩
      try simp! [sx_, true_and]
      exact ⟨pnum u, 1, 1000000, rfl, vok_pnum u, fin_same h⟩
    · rw [if_neg h0] at h
      by_cases h1 : i = 1
      · rw [if_pos h1] at h
        subst h1
        simp! [sx_, h0, decide_false, if_false, eq_self, decide_true, if_true, r_eqS (okT_iff.mpr hk) okm]
        exact fin_same h
      · rw [if_neg h1] at h
        by_cases h2 : i = 2
        · rw [if_pos h2] at h
          subst h2
          simp! [sx_, h0, h1, decide_false, if_false, eq_self, decide_true, if_true]
          refine ⟨u, rfl, hl, hk, ?_⟩
          try simp! [sx_, true_and]
          exact ⟨_, rfl, okTw_pws u, fin_same h⟩
        · rw [if_neg h2] at h
          simp! [sx_, h0, h1, h2, decide_false, if_false]
          exact fin_same h
abbrev Nparse_tower : List Str := ["value", "words", "index", "word"]
theorem scparse_tower : FnScope Nparse_tower ["value"] (defScope stparse_tower) := ⟨rfl, rfl, rfl, by decide +kernel, rfl, by decide +kernel, by decide +kernel⟩
def spparse_tower : SpD := fun ds S R E => ∃ d : D, ds = [d] ∧ vok d = true ∧ (∀ u, d = .str u → u.length ≤ 80000 ∧ okT u) ∧ (∀ e, ptow d = .inl e → E ⟨"BadText", ["index"], [e]⟩ S) ∧ (∀ r, ptow d = .inr r → R r S)
theorem calparse_tower {f : Addr} (T : Txt FA K mg) (TX : ExT K EX) (TI : InT K IN) (TS : IsF K IN OW) (TB : ∀ c ∈ BA, bareB K c = true) (TC : conOk K CO = true) (F : FnP K "parse_tower" "parse_tower" stparse_tower f) (gm : mg "parse_tower" = some (.ref f)) (cis_right_word : Cal P w K mg base 5 "is_right_word" ["index", "word"] spis_right_word) (cparse_number : Cal P w K mg base 1 "parse_number" ["word"] spparse_number) (cparse_weights : Cal P w K mg base 2 "parse_weights" ["word"] spparse_weights) (xBadText : ExI P w K mg base "BadText" "index") : Cal P w K mg base 6 "parse_tower" ["value"] spparse_tower := by
  refine cal (k := 5) F gm scparse_tower ?len _ (fun cdv A outer s H E hr hgd tk =>
    have hu := hr.units
    have hp : PassesOwn (model P w) (cxOf (L2.CX P w) P w K mg base Nparse_tower "parse_tower" (defScope stparse_tower) f cdv A outer s H E).A (cxOf (L2.CX P w) P w K mg base Nparse_tower "parse_tower" (defScope stparse_tower) f cdv A outer s H E).env (cxOf (L2.CX P w) P w K mg base Nparse_tower "parse_tower" (defScope stparse_tower) f cdv A outer s H E).xe := passes_of rfl
    have nd := scparse_tower.nd
    (by exact (pssd_cons (by exact (psd_if (by exact (ptd_not (by exact (ptd_truth (by exact (ped_callB cd_isi (T.free 1) boot_isinstance (by exact (pad_cons (by exact (pvd 0)) (by exact (pad_cons (by exact (ped_type (T.free 17) boot_str)) pad_nil)))))))))) (by exact (pssd_one (by exact (psd_raise xBadText TX hr tk (by exact (pad_cons ped_non pad_nil)))))) pssd_nil))
    (by exact (pssd_cons (by exact (psd_set 1 nd (by exact (ped_m PySem.F.plainAttrs_str PySem.F.slot_str_split PySem.F.type_str_split md_split (by exact (pvd 0)) (by exact (pad_cons ped_str pad_nil))))))
    (by exact (pssd_cons (by exact (psd_for hp rfl (by exact (pid_enum (T.free 6) (by exact (pad_cons (by exact (pvd 1)) pad_nil)))) (by exact (pgd_tup (n := 2) rfl (pgsd_cons (by exact (pgd 2 nd)) (by exact (pgsd_cons (by exact (pgd 3 nd)) pgsd_nil)))))
    (by exact (pssd_one (by exact (psd_if (by exact (ptd_not (by exact (ptd_truth (by exact (ped_callC cis_right_word hr hgd tk (by exact (pad_cons (by exact (pvd 2)) (by exact (pad_cons (by exact (pvd 3)) pad_nil)))))))))) (by exact (pssd_one (by exact (psd_raise xBadText TX hr tk (by exact (pad_cons (by exact (pvd 2)) pad_nil)))))) pssd_nil))))))
    (by exact (pssd_cons (by exact (psd_if (by exact (ptd_cmp opd_lt (by exact (ped_callB cd_len (T.free 7) boot_len (by exact (pad_cons (by exact (pvd 1)) pad_nil)))) (by exact (ped_gint (T.int 16))))) (by exact (pssd_one (by exact (psd_raise xBadText TX hr tk (by exact (pad_cons (by exact (ped_callB cd_len (T.free 7) boot_len (by exact (pad_cons (by exact (pvd 1)) pad_nil)))) pad_nil)))))) pssd_nil))
    (by exact (pssd_one (by exact (psd_ret (by exact (ped_tup (by exact (pad_cons (by exact (ped_callC cparse_number hr hgd tk (by exact (pad_cons (by exact (ped_ix (by exact (pvd 1)) ped_int)) pad_nil)))) (by exact (pad_cons (by exact (ped_callC cparse_weights hr hgd tk (by exact (pad_cons (by exact (ped_ix (by exact (pvd 1)) ped_int)) pad_nil)))) pad_nil))))))))))))))))))) ?pure (fun _ _ _ _ _ _ us hl => match us, hl with | [_], _ => rfl)
  case len =>
    intro ds S R E h
    (unfold spparse_tower at h; obtain ⟨_, rfl, _⟩ := h; rfl)
  case pure =>
    intro ds S R E h
    obtain ⟨d, rfl, hv, hs, h1, h2⟩ := h
    cases d with
    | str u =>
      obtain ⟨hl, hk⟩ := hs u rfl
      have sl : (100000 : Nat) ≤ sizeLine := by decide
      have hP : ptow (.str u) = ptwL (Txt.split u (Str.ofString " ")) := rfl
      rw [hP] at h1 h2
      dsimp! [sx_, Bool.not_true, if_false]
      refine ⟨rfl, by omega, ?_⟩
      rw [r_sFor]
      have hpart : ∀ p ∈ Txt.split u (Str.ofString " "), p.length ≤ 90000 ∧ okT p := fun p hp => by
        obtain ⟨g1, g2⟩ := split_part (y := Str.ofString " ") (by decide) (by decide +kernel) hp
        exact ⟨by omega, fun c hc => hk c (g1 c hc)⟩
      generalize Txt.split u (Str.ofString " ") = ws at h1 h2 hpart ⊢
      dsimp! [sx_, true_and]
      refine ⟨fun k ρ' S' => S' = S ∧ (∃ o2 o3, ρ' = [some (.str u), some (.lst (ws.map .str)), o2, o3]) ∧ badAt 0 ws = badAt k (ws.drop k), ⟨rfl, ⟨_, _, rfl⟩, rfl⟩, fun _ _ _ _ => trivial, ?_, ?_⟩
      · rintro k d ρ' S' hk2 ⟨rfl, ⟨o2, o3, rfl⟩, hb⟩
        obtain ⟨x, hx2, rfl⟩ := enumD_get hk2
        rw [List.getElem?_map] at hx2
        obtain ⟨p, hp2, rfl⟩ := Option.map_eq_some_iff.mp hx2
        obtain ⟨g1, g2⟩ := hpart p (List.mem_of_getElem? hp2)
        have hb2 := badAt_step hp2
        simp! [sx_, true_and]
        refine ⟨_, p, rfl, g1, g2, ?_⟩
        rw [Nat.zero_add]
        cases hy : rword (k : Nat) p with
        | false =>
          simp! [sx_, Bool.not_false, if_true]
          rw [hy, if_neg Bool.false_ne_true] at hb2
          refine ⟨_, Wk.refl _, h1 _ ?_⟩
          unfold ptwL; rw [hb, hb2]
        | true =>
          rw [hy, if_pos rfl] at hb2
          simp! [sx_, Bool.not_true, if_false]
          exact ⟨⟨_, _, rfl⟩, hb.trans hb2⟩
      · rintro ρ' S' ⟨rfl, ⟨o2, o3, rfl⟩, hb⟩
        rw [enumD_length, List.length_map, List.drop_length] at hb
        have hb : badAt 0 ws = none := hb
        have hT : ptwL ws = if ws.length < 3 then .inl (.int (ws.length : Nat)) else .inr (.tup [pnum (ws.getD 0 Str.empty), pws (ws.getD 2 Str.empty)]) := by unfold ptwL; rw [hb]
        simp! [sx_, List.length_map]
        by_cases h3 : (ws.length : Int) < 3
        · simp! [sx_, h3, decide_true, if_true]
          exact ⟨_, Wk.refl _, h1 _ (by rw [hT, if_pos (by omega)])⟩
        · simp! [sx_, h3, decide_false, if_false]
          have hr := h2 _ (by rw [hT, if_neg (by omega)])
          match ws, h3, hr, hpart with
          | p0 :: p1 :: p2 :: wr, _, hr, hpart =>
            obtain ⟨a1, a2⟩ := hpart p0 (by simp)
            obtain ⟨b1, b2⟩ := hpart p2 (by simp)
            simp! [sx_, true_and]
            refine ⟨p0, rfl, by omega, a2, ?_⟩
            try simp! [sx_, true_and]
            refine ⟨p2, rfl, b1, b2, ?_⟩
            try simp! [sx_, true_and]
            exact fin_same hr
          | [], h3, _, _ => exact absurd (show ((([] : List Str).length : Nat) : Int) < 3 by decide) h3
          | [_], h3, _, _ => exact absurd (show (((1 : Nat)) : Int) < 3 by decide) h3
          | [_, _], h3, _, _ => exact absurd (show (((2 : Nat)) : Int) < 3 by decide) h3
    | int b => simp! [sx_, Bool.not_false, if_true]; exact ⟨S, Wk.refl S, h1 _ rfl⟩
    | bl b => simp! [sx_, Bool.not_false, if_true]; exact ⟨S, Wk.refl S, h1 _ rfl⟩
    | non => simp! [sx_, Bool.not_false, if_true]; exact ⟨S, Wk.refl S, h1 _ rfl⟩
    | tup b => simp! [sx_, Bool.not_false, if_true]; exact ⟨S, Wk.refl S, h1 _ rfl⟩
    | lst b => simp! [sx_, Bool.not_false, if_true]; exact ⟨S, Wk.refl S, h1 _ rfl⟩
    | dct b => simp! [sx_, Bool.not_false, if_true]; exact ⟨S, Wk.refl S, h1 _ rfl⟩
    | _ => cases hv
abbrev N_law_deck : List Str := ["script", "cell"]
theorem sc_law_deck : FnScope N_law_deck ["script"] (defScope st_law_deck) := ⟨rfl, rfl, rfl, by decide +kernel, rfl, by decide +kernel, by decide +kernel⟩
def sp_law_deck : SpD := fun ds S R E => ∃ ns : List Int, ds = [.scr ns] ∧ ns.length ≤ 63 ∧ ∀ a S', S' a = some (.draw false 0) → More S S' → R (.ref a) S'
theorem cal_law_deck {f : Addr} (T : Txt FA K mg) (TX : ExT K EX) (TI : InT K IN) (TS : IsF K IN OW) (TB : ∀ c ∈ BA, bareB K c = true) (TC : conOk K CO = true) (F : FnP K "_law_deck" "_law_deck" st_law_deck f) (gm : mg "_law_deck" = some (.ref f))  : Cal P w K mg base 1 "_law_deck" ["script"] sp_law_deck := by
  refine calO (k := 0) F gm sc_law_deck ?len _ (fun cdv A outer s H E hr hgd tk =>
    have hu := hr.units
    have hp : PassesOwn (model P w) (cxOf (L2.CX P w) P w K mg base N_law_deck "_law_deck" (defScope st_law_deck) f cdv A outer s H E).A (cxOf (L2.CX P w) P w K mg base N_law_deck "_law_deck" (defScope st_law_deck) f cdv A outer s H E).env (cxOf (L2.CX P w) P w K mg base N_law_deck "_law_deck" (defScope st_law_deck) f cdv A outer s H E).xe := passes_of rfl
    have nd := sc_law_deck.nd
    (by exact (pssd_one (by exact (psd_ret (by exact (ped_new (by exact (pad_cons (by exact (ped_lcN (B := bd1 "cell" 1) rfl nd (by exact (pid_list (by exact (ped_slice (by exact (pvd 0)) pod_none (by exact (pod_some ped_int)))))) (blkOk_by (N := N_law_deck) (sc := defScope st_law_deck) (by decide +kernel)) (fun _ _ _ _ _ => pg_name (i := 1) nd rfl (Or.inl rfl)) (fun _ _ _ _ _ => ptsd_nil) (fun _ _ _ _ _ => (by exact (ped_callB cd_abs (T.free 18) boot_abs (by exact (pad_cons (by exact (pvd 1)) pad_nil))))))) (by exact (pad_cons ped_int pad_nil))))))))))) ?pure (fun _ _ _ _ _ _ us hl => match us, hl with | [_], _ => rfl)
  case len =>
    intro ds S R E h
    (unfold sp_law_deck at h; obtain ⟨_, rfl, _⟩ := h; rfl)
  case pure =>
    intro H ds S R E hS h
    obtain ⟨ns, rfl, hl, h⟩ := h
    refine ⟨S, hS, fun _ n => n, ?_⟩
    simp_all! [sx_, r_iLsN]
    have hcut : cutD ns none (some 63) = ns := by rw [show (some (63 : Int)) = some ((63 : Nat) : Int) from rfl, cutD_take, List.take_of_length_le hl]
    rw [hcut]
    refine lcN_map ns .int (fun _ => true) (fun z => .int (if z < 0 then -z else z)) rfl (Nat.le_trans hl (by decide)) (fun _ _ => trivial) (fun z _ S' _ Rt Rn ht _ => ⟨_, rfl, ?_⟩) fun q hq => ?_
    · simp_all! [sx_, true_and]
      exact ht rfl
    rw [filt_true]
    refine fun o ho => ?_
    have oq : o ≠ q := fun z => by rw [z, put_same] at ho; cases ho
    rw [put_ne oq] at ho
    have em : List.map (fun z => D.int (if z < 0 then -z else z)) ns = (ns.map fun z => if z < 0 then -z else z).map D.int := by rw [List.map_map]; rfl
    rw [em]
    obtain ⟨S4, wk, g, mo⟩ := make_deck (K := K) (S := S) (c := q) (a := o) (cells := ns.map fun z => if z < 0 then -z else z) (S3 := put (put S q (.lst ((ns.map fun z => if z < 0 then -z else z).map .int))) o (.lst [.ref q, .int 0])) (Ne.symm oq) ho hq put_same (by rw [put_ne (Ne.symm oq), put_same]) (fun x k1 k2 => by rw [put_ne k1, put_ne k2]) (fun z hz => by
      obtain ⟨y, hy, rfl⟩ := List.mem_map.mp hz
      split <;> omega) (by rw [List.length_map]; exact hl)
    exact fin_wk wk (h _ _ g mo)
abbrev N_law_draw : List Str := ["deck", "many", "cell", "place"]
theorem sc_law_draw : FnScope N_law_draw ["deck", "many"] (defScope st_law_draw) := ⟨rfl, rfl, rfl, by decide +kernel, rfl, by decide +kernel, by decide +kernel⟩
def sp_law_draw : SpD := fun ds S R E => ∃ (a : Addr) (n : Nat) (many : Int), ds = [.ref a, .int many] ∧ S a = some (.draw false n) ∧ n < 1000000 ∧ 0 < many ∧ many < 1073741824 ∧ ∀ r, 0 ≤ r → r < many → R (.int r) (put S a (.draw false (n + 1)))
theorem cal_law_draw {f : Addr} (T : Txt FA K mg) (TX : ExT K EX) (TI : InT K IN) (TS : IsF K IN OW) (TB : ∀ c ∈ BA, bareB K c = true) (TC : conOk K CO = true) (F : FnP K "_law_draw" "_law_draw" st_law_draw f) (gm : mg "_law_draw" = some (.ref f))  : Cal P w K mg base 1 "_law_draw" ["deck", "many"] sp_law_draw := by
  refine calO (k := 0) F gm sc_law_draw ?len _ (fun cdv A outer s H E hr hgd tk =>
    have hu := hr.units
    have hp : PassesOwn (model P w) (cxOf (L2.CX P w) P w K mg base N_law_draw "_law_draw" (defScope st_law_draw) f cdv A outer s H E).A (cxOf (L2.CX P w) P w K mg base N_law_draw "_law_draw" (defScope st_law_draw) f cdv A outer s H E).env (cxOf (L2.CX P w) P w K mg base N_law_draw "_law_draw" (defScope st_law_draw) f cdv A outer s H E).xe := passes_of rfl
    have nd := sc_law_draw.nd
    (by exact (pssd_cons (by exact (psd_asg (by exact (ped_op opd_add (by exact (ped_ix (by exact (pvd 0)) ped_int)) ped_int)) (by exact (pgd_sub (by exact (pvd 0)) ped_int))))
    (by exact (pssd_cons (by exact (psd_set 2 nd ped_int))
    (by exact (pssd_cons (by exact (psd_set 3 nd (by exact (ped_neg ped_int))))
    (by exact (pssd_cons (by exact (psd_if (by exact (ptd_cmp opd_gt (by exact (ped_callB cd_len (T.free 7) boot_len (by exact (pad_cons (by exact (ped_ix (by exact (pvd 0)) ped_int)) pad_nil)))) ped_int)) (by exact (pssd_cons (by exact (psd_set 3 nd (by exact (ped_op opd_mod (by exact (ped_ix (by exact (pvd 0)) ped_int)) (by exact (ped_callB cd_len (T.free 7) boot_len (by exact (pad_cons (by exact (ped_ix (by exact (pvd 0)) ped_int)) pad_nil))))))))
    (by exact (pssd_one (by exact (psd_set 2 nd (by exact (ped_ix (by exact (ped_ix (by exact (pvd 0)) ped_int)) (by exact (pvd 3)))))))))) pssd_nil))
    (by exact (pssd_cons (by exact (psd_if (by exact (ptd_cmp opd_ge (by exact (pvd 2)) (by exact (ped_op opd_pow ped_int ped_int)))) (by exact (pssd_cons (by exact (psd_asg (by exact (ped_op opd_div (by exact (pvd 2)) (by exact (pvd 1)))) (by exact (pgd_sub (by exact (ped_ix (by exact (pvd 0)) ped_int)) (by exact (pvd 3))))))
    (by exact (pssd_one (by exact (psd_ret (by exact (ped_op opd_mod (by exact (pvd 2)) (by exact (pvd 1)))))))))) pssd_nil))
    (by exact (pssd_one (by exact (psd_ret (by exact (ped_op opd_mod (by exact (ped_op opd_mod (by exact (ped_op opd_pow (by exact (ped_op opd_add (by exact (ped_op opd_add (by exact (ped_op opd_mod (by exact (pvd 2)) ped_int)) (by exact (ped_op opd_mul ped_int (by exact (ped_ix (by exact (pvd 0)) ped_int)))))) ped_int)) ped_int)) ped_int)) (by exact (pvd 1))))))))))))))))))) ?pure (fun _ _ _ _ _ _ us hl => match us, hl with | [_, _], _ => rfl)
  case len =>
    intro ds S R E h
    (unfold sp_law_draw at h; obtain ⟨_, _, _, rfl, _⟩ := h; rfl)
  case pure =>
    intro H ds S R E hS h
    obtain ⟨a, n, many, rfl, ha, h1, h2, h3, h⟩ := h
    obtain ⟨c, cells, m, e1, e2, e4, m0, m1, pc, ln⟩ := hS a _ ha
    refine open_deck hS ha e1 e2 e4 fun S2 nac g1 g2 back => ?_
    simp_all! [sx_, Dl.r_lsR g1, Dl.r_sqR g1, Dl.r_ixR g1, Dl.r_addN g1, Dl.r_addlR g1, Dl.r_lenR g1, Dl.r_slR g1, Dl.r_mR g1, Dl.r_app g1, Dl.r_joinR g1, Dl.r_ilR g1, Dl.r_pop g1]
    refine subAt_q g1 (by decide) (by simp) ?_
    have q1 : ∀ d, put S2 a d c = some (.lst (cells.map .int)) := fun d => by rw [put_ne (Ne.symm nac)]; exact g2
    simp_all! [sx_, Dl.r_lsR put_same, Dl.r_sqR put_same, Dl.r_ixR put_same, Dl.r_addN put_same, Dl.r_addlR put_same, Dl.r_lenR put_same, Dl.r_slR put_same, Dl.r_mR put_same, Dl.r_app put_same, Dl.r_joinR put_same, Dl.r_ilR put_same, Dl.r_pop put_same, Dl.r_lsR (q1 _), Dl.r_sqR (q1 _), Dl.r_ixR (q1 _), Dl.r_addN (q1 _), Dl.r_addlR (q1 _), Dl.r_lenR (q1 _), Dl.r_slR (q1 _), Dl.r_mR (q1 _), Dl.r_app (q1 _), Dl.r_joinR (q1 _), Dl.r_ilR (q1 _), Dl.r_pop (q1 _), List.length_map]
    have fin1 : ∀ (S3 : Sto) (cells' : List Int) (r : Int), S3 a = some (.lst [.ref c, .int (m + 1)]) → S3 c = some (.lst (cells'.map .int)) → (∀ x, x ≠ a → x ≠ c → S3 x = S2 x) → (∀ z ∈ cells', 0 ≤ z) → cells'.length ≤ 63 → fin K R (.int (r % many)) S3 := fun S3 cells' r k1 k2 k3 k4 k5 =>
      fin_wk (back S3 (m + 1) cells' (n + 1) k1 k2 k3 (by omega) (by omega) k4 k5) (h _ (emod_bd _ h2).1 (emod_bd _ h2).2)
    by_cases hl : 0 < (cells.length : Int)
    · have i0 : 0 ≤ (m + 1) % (cells.length : Int) := Int.emod_nonneg _ (by omega)
      have ci : ((m + 1) % (cells.length : Int)).toNat < cells.length := by have := Int.emod_lt_of_pos (m + 1) hl; omega
      obtain ⟨cell, hc⟩ : ∃ z, cells[((m + 1) % (cells.length : Int)).toNat]? = some z := ⟨_, List.getElem?_eq_getElem ci⟩
      have c0 : 0 ≤ cell := pc _ (List.mem_of_getElem? hc)
      have hC : atI (List.map D.int cells) ((m + 1) % (cells.length : Int)) = some (.int cell) := ix_at (by rw [List.getElem?_map, hc]; rfl) i0
      simp_all! [sx_, Dl.r_lsR put_same, Dl.r_sqR put_same, Dl.r_ixR put_same, Dl.r_addN put_same, Dl.r_addlR put_same, Dl.r_lenR put_same, Dl.r_slR put_same, Dl.r_mR put_same, Dl.r_app put_same, Dl.r_joinR put_same, Dl.r_ilR put_same, Dl.r_pop put_same, hl, hC, if_true]
      by_cases hz : 1000000000000000000 ≤ cell
      · simp_all! [sx_, Dl.r_lsR put_same, Dl.r_sqR put_same, Dl.r_ixR put_same, Dl.r_addN put_same, Dl.r_addlR put_same, Dl.r_lenR put_same, Dl.r_slR put_same, Dl.r_mR put_same, Dl.r_app put_same, Dl.r_joinR put_same, Dl.r_ilR put_same, Dl.r_pop put_same, hz, if_true]
        refine ⟨⟨h2, h3⟩, subAt_q (q1 _) i0 (by rw [List.length_map]; omega) ?_⟩
        refine ⟨h2, fin1 _ (cells.set ((m + 1) % (cells.length : Int)).toNat (cell / many)) cell (by rw [put_ne nac, put_same]) (by rw [put_same, List.map_set]) (fun x k1 k2 => by rw [put_ne k2, put_ne k1]) (fun z hz => ?_) (by rw [List.length_set]; exact ln)⟩
        rcases List.mem_or_eq_of_mem_set hz with k | k
        · exact pc z k
        · rw [k]; exact ediv_bd c0 h2
      · simp_all! [sx_, Dl.r_lsR put_same, Dl.r_sqR put_same, Dl.r_ixR put_same, Dl.r_addN put_same, Dl.r_addlR put_same, Dl.r_lenR put_same, Dl.r_slR put_same, Dl.r_mR put_same, Dl.r_app put_same, Dl.r_joinR put_same, Dl.r_ilR put_same, Dl.r_pop put_same, hz, if_false]
        have hc1 := emod_bd cell (b := 2147483587) (by decide)
        exact ⟨cmul_l, cpow5 (by omega) (by omega), h2, fin1 _ cells _ put_same (q1 _) (fun x k1 k2 => by rw [put_ne k1]) pc ln⟩
    · simp_all! [sx_, hl, if_false]
      exact ⟨cmul_l, cpow5 (by omega) (by omega), h2, fin1 _ cells _ put_same (q1 _) (fun x k1 k2 => by rw [put_ne k1]) pc ln⟩
abbrev N_law_weight : List Str := ["deck", "excess", "weights", "total", "some"]
theorem sc_law_weight : FnScope N_law_weight ["deck", "excess", "weights"] (defScope st_law_weight) := ⟨rfl, rfl, rfl, by decide +kernel, rfl, by decide +kernel, by decide +kernel⟩
def sp_law_weight : SpD := fun ds S R E => ∃ (a : Addr) (n : Nat) (e : Int) (ws : List Int), ds = [.ref a, .int e, .tup (ws.map .int)] ∧ S a = some (.draw false n) ∧ n < 900000 ∧ ∀ r, 1 ≤ r → r ≤ 1000000 → R (.int r) (put S a (.draw false (n + 4)))
theorem cal_law_weight {f : Addr} (T : Txt FA K mg) (TX : ExT K EX) (TI : InT K IN) (TS : IsF K IN OW) (TB : ∀ c ∈ BA, bareB K c = true) (TC : conOk K CO = true) (F : FnP K "_law_weight" "_law_weight" st_law_weight f) (gm : mg "_law_weight" = some (.ref f)) (c_law_draw : Cal P w K mg base 1 "_law_draw" ["deck", "many"] sp_law_draw) : Cal P w K mg base 2 "_law_weight" ["deck", "excess", "weights"] sp_law_weight := by
  refine cal (k := 1) F gm sc_law_weight ?len _ (fun cdv A outer s H E hr hgd tk =>
    have hu := hr.units
    have hp : PassesOwn (model P w) (cxOf (L2.CX P w) P w K mg base N_law_weight "_law_weight" (defScope st_law_weight) f cdv A outer s H E).A (cxOf (L2.CX P w) P w K mg base N_law_weight "_law_weight" (defScope st_law_weight) f cdv A outer s H E).env (cxOf (L2.CX P w) P w K mg base N_law_weight "_law_weight" (defScope st_law_weight) f cdv A outer s H E).xe := passes_of rfl
    have nd := sc_law_weight.nd
    (by exact (pssd_cons (by exact (psd_set 3 nd (by exact (ped_callB (cd_sum rfl) (T.free 21) boot_sum (by exact (pad_cons (by exact (pvd 2)) pad_nil))))))
    (by exact (pssd_cons (by exact (psd_set 4 nd (by exact (ped_lst (by exact (pad_cons (by exact (ped_op opd_add ped_int (by exact (ped_callC c_law_draw hr hgd tk (by exact (pad_cons (by exact (pvd 0)) (by exact (pad_cons ped_int pad_nil)))))))) (by exact (pad_cons (by exact (ped_op opd_add (by exact (pvd 3)) (by exact (pvd 1)))) (by exact (pad_cons (by exact (ped_op opd_add (by exact (ped_op opd_add (by exact (pvd 3)) (by exact (pvd 1)))) ped_int)) (by exact (pad_cons (by exact (ped_op opd_add ped_int (by exact (ped_callC c_law_draw hr hgd tk (by exact (pad_cons (by exact (pvd 0)) (by exact (pad_cons ped_int pad_nil)))))))) (by exact (pad_cons (by exact (ped_op opd_sub (by exact (pvd 3)) ped_int)) pad_nil))))))))))))))
    (by exact (pssd_one (by exact (psd_ret (by exact (ped_callB (cd_max2 rfl) (T.free 19) boot_max (by exact (pad_cons ped_int (by exact (pad_cons (by exact (ped_callB (cd_min2 rfl) (T.free 20) boot_min (by exact (pad_cons (by exact (ped_op opd_pow ped_int ped_int)) (by exact (pad_cons (by exact (ped_ix (by exact (ped_op opd_add (by exact (pvd 4)) (by exact (ped_lst (by exact (pad_cons (by exact (ped_op opd_add ped_int (by exact (ped_callC c_law_draw hr hgd tk (by exact (pad_cons (by exact (pvd 0)) (by exact (pad_cons (by exact (ped_op opd_pow ped_int ped_int)) pad_nil)))))))) pad_nil)))))) (by exact (ped_callC c_law_draw hr hgd tk (by exact (pad_cons (by exact (pvd 0)) (by exact (pad_cons ped_int pad_nil)))))))) pad_nil)))))) pad_nil))))))))))))))) ?pure (fun _ _ _ _ _ _ us hl => match us, hl with | [_, _, _], _ => rfl)
  case len =>
    intro ds S R E h
    (unfold sp_law_weight at h; obtain ⟨_, _, _, _, rfl, _⟩ := h; rfl)
  case pure =>
    intro ds S R E h
    obtain ⟨a, n, e, ws, rfl, ha, h1, h⟩ := h
    simp! [sx_, true_and]
    refine ⟨_, insD_map _, _, _, _, rfl, ha, by omega, by decide, by decide, fun x x0 x1 => ?_⟩
    try simp! [sx_, true_and]
    refine ⟨_, _, _, rfl, put_same, by omega, by decide, by decide, fun y y0 y1 => ?_⟩
    try simp! [sx_, true_and]
    refine ⟨_, _, _, rfl, put_same, by omega, by decide, by decide, fun z z0 z1 => ?_⟩
    try simp! [sx_, true_and]
    refine ⟨_, _, _, rfl, put_same, by omega, by decide, by decide, fun i i0 i1 => ?_⟩
    rw [put_put, put_put, put_put]
    obtain ⟨d, hd, e1⟩ := at_lt (xs := [D.int (1 + x), .int (ws.sum + e), .int (ws.sum + e + 1), .int (1 + y), .int (ws.sum - 1), .int (1 + z)]) i0 i1
    obtain ⟨v, rfl⟩ : ∃ v : Int, d = .int v := by
      simp only [List.mem_cons, List.not_mem_nil, or_false] at hd
      rcases hd with rfl | rfl | rfl | rfl | rfl | rfl <;> exact ⟨_, rfl⟩
    try simp! [sx_, e1]
    exact fin_same (h _ (by split <;> split <;> omega) (by split <;> split <;> omega))
abbrev N_law_tower : List Str := ["deck", "most", "excess", "weights", "k", "at"]
theorem sc_law_tower : FnScope N_law_tower ["deck", "most"] (defScope st_law_tower) := ⟨rfl, rfl, rfl, by decide +kernel, rfl, by decide +kernel, by decide +kernel⟩
def sp_law_tower : SpD := fun ds S R E => ∃ (a : Addr) (n : Nat) (most : Int), ds = [.ref a, .int most] ∧ S a = some (.draw false n) ∧ n < 800000 ∧ 0 ≤ most ∧ most ≤ 24 ∧ ∀ t : Twr, Tw t → t.2.length ≤ most.toNat → R (twD t) (put S a (.draw false (n + 200)))
theorem cal_law_tower {f : Addr} (T : Txt FA K mg) (TX : ExT K EX) (TI : InT K IN) (TS : IsF K IN OW) (TB : ∀ c ∈ BA, bareB K c = true) (TC : conOk K CO = true) (F : FnP K "_law_tower" "_law_tower" st_law_tower f) (gm : mg "_law_tower" = some (.ref f)) (c_law_draw : Cal P w K mg base 1 "_law_draw" ["deck", "many"] sp_law_draw) (c_law_weight : Cal P w K mg base 2 "_law_weight" ["deck", "excess", "weights"] sp_law_weight) : Cal P w K mg base 3 "_law_tower" ["deck", "most"] sp_law_tower := by
  refine cal (k := 2) F gm sc_law_tower ?len _ (fun cdv A outer s H E hr hgd tk =>
    have hu := hr.units
    have hp : PassesOwn (model P w) (cxOf (L2.CX P w) P w K mg base N_law_tower "_law_tower" (defScope st_law_tower) f cdv A outer s H E).A (cxOf (L2.CX P w) P w K mg base N_law_tower "_law_tower" (defScope st_law_tower) f cdv A outer s H E).env (cxOf (L2.CX P w) P w K mg base N_law_tower "_law_tower" (defScope st_law_tower) f cdv A outer s H E).xe := passes_of rfl
    have nd := sc_law_tower.nd
    (by exact (pssd_cons (by exact (psd_par 2 3 rfl nd (by exact (pad_cons (by exact (ped_op opd_add ped_int (by exact (ped_callC c_law_draw hr hgd tk (by exact (pad_cons (by exact (pvd 0)) (by exact (pad_cons (by exact (ped_ix (by exact (ped_lst (by exact (pad_cons ped_int (by exact (pad_cons ped_int (by exact (pad_cons (by exact (ped_op opd_pow ped_int ped_int)) pad_nil)))))))) (by exact (ped_callC c_law_draw hr hgd tk (by exact (pad_cons (by exact (pvd 0)) (by exact (pad_cons ped_int pad_nil)))))))) pad_nil)))))))) (by exact (pad_cons (by exact (ped_tup pad_nil)) pad_nil))))))
    (by exact (pssd_cons (by exact (psd_for hp rfl (by exact (pid_range1 (T.free 22) (by exact (pad_cons (by exact (ped_callC c_law_draw hr hgd tk (by exact (pad_cons (by exact (pvd 0)) (by exact (pad_cons (by exact (ped_op opd_add (by exact (pvd 1)) ped_int)) pad_nil)))))) pad_nil)))) (by exact (pgd 4 nd))
    (by exact (pssd_cons (by exact (psd_set 5 nd (by exact (ped_callC c_law_draw hr hgd tk (by exact (pad_cons (by exact (pvd 0)) (by exact (pad_cons (by exact (ped_op opd_add (by exact (ped_callB cd_len (T.free 7) boot_len (by exact (pad_cons (by exact (pvd 3)) pad_nil)))) ped_int)) pad_nil))))))))
    (by exact (pssd_one (by exact (psd_set 3 nd (by exact (ped_op opd_add (by exact (ped_op opd_add (by exact (ped_slice (by exact (pvd 3)) pod_none (by exact (pod_some (by exact (pvd 5)))))) (by exact (ped_tup (by exact (pad_cons (by exact (ped_callC c_law_weight hr hgd tk (by exact (pad_cons (by exact (pvd 0)) (by exact (pad_cons (by exact (pvd 2)) (by exact (pad_cons (by exact (pvd 3)) pad_nil)))))))) pad_nil)))))) (by exact (ped_slice (by exact (pvd 3)) (by exact (pod_some (by exact (pvd 5)))) pod_none))))))))))))
    (by exact (pssd_one (by exact (psd_ret (by exact (ped_tup (by exact (pad_cons (by exact (pvd 2)) (by exact (pad_cons (by exact (pvd 3)) pad_nil))))))))))))))) ?pure (fun _ _ _ _ _ _ us hl => match us, hl with | [_, _], _ => rfl)
  case len =>
    intro ds S R E h
    (unfold sp_law_tower at h; obtain ⟨_, _, _, rfl, _⟩ := h; rfl)
  case pure =>
    intro ds S R E h
    obtain ⟨a, n, most, rfl, ha, h1, h2, h3, h⟩ := h
    have sl : (100000 : Nat) ≤ sizeLine := by decide
    dsimp! [sx_, true_and]
    refine ⟨_, _, _, rfl, ha, by omega, by decide, by decide, fun i i0 i1 => ?_⟩
    obtain ⟨d, hd, e1⟩ := at_lt (xs := [D.int 3, .int 20, .int 1000000]) i0 i1
    obtain ⟨m, rfl, m0, m1⟩ : ∃ m : Int, d = .int m ∧ 0 < m ∧ m ≤ 1000000 := by
      simp only [List.mem_cons, List.not_mem_nil, or_false] at hd
      rcases hd with rfl | rfl | rfl <;> exact ⟨_, rfl, by decide, by decide⟩
    try dsimp! [sx_, e1]
    refine ⟨_, _, _, rfl, put_same, by omega, by omega, by omega, fun y y0 y1 => ?_⟩
    rw [put_put]
    try dsimp! [sx_, true_and]
    rw [r_sFor]
    try dsimp! [sx_, true_and]
    refine ⟨_, _, _, rfl, put_same, by omega, by omega, by omega, fun r r0 r1 => ?_⟩
    rw [put_put]
    try dsimp! [sx_, true_and]
    refine ⟨⟨by omega, by omega⟩, ?_⟩
    have ul : (upto 0 r.toNat).length = r.toNat := upto_length _ _
    refine ⟨fun k ρ' S' => k ≤ r.toNat ∧ ∃ (ws : List Int) (o4 o5 : Option D), ρ' = [some (.ref a), some (.int most), some (.int (1 + y)), some (.tup (ws.map .int)), o4, o5] ∧ S' = put S a (.draw false (n + 3 + 5 * k)) ∧ ws.length = k ∧ ∀ w ∈ ws, 1 ≤ w ∧ w ≤ 1000000, ⟨Nat.zero_le _, [], _, _, rfl, rfl, rfl, fun w hw => nomatch hw⟩, fun _ _ _ _ => trivial, ?_, ?_⟩
    · rintro k dk ρ' S' hk ⟨kl, ws, o4, o5, rfl, rfl, hl, hP⟩
      obtain ⟨kr, rfl⟩ := upto_get hk
      simp! [sx_, List.length_map]
      refine ⟨_, _, _, rfl, put_same, by omega, by omega, by omega, fun p p0 p1 => ?_⟩
      rw [put_put]
      try simp! [sx_, true_and]
      refine ⟨_, _, _, _, rfl, put_same, by omega, fun v v0 v1 => ?_⟩
      rw [put_put, cutD_take' _ p0, cutD_drop _ p0]
      try simp! [sx_, List.length_map, List.length_append, List.length_take, List.length_drop]
      have em : List.take p.toNat (ws.map D.int) ++ [D.int v] ++ List.drop p.toNat (ws.map D.int) = (ws.take p.toNat ++ v :: ws.drop p.toNat).map .int := by
        rw [List.map_append, List.map_cons, List.map_take, List.map_drop, List.append_assoc]; rfl
      rw [em]
      refine ⟨by omega, by omega, by omega, ws.take p.toNat ++ v :: ws.drop p.toNat, _, _, rfl, ?_, ?_, ?_⟩
      · rw [show n + 3 + 5 * k + 1 + 4 = n + 3 + 5 * (k + 1) by omega]
      · rw [List.length_append, List.length_cons, List.length_take, List.length_drop]; omega
      · intro w hw
        rcases List.mem_append.mp hw with z | z
        · exact hP w (List.mem_of_mem_take z)
        · rcases List.mem_cons.mp z with z | z
          · rw [z]; exact ⟨v0, v1⟩
          · exact hP w (List.mem_of_mem_drop z)
    · rintro ρ' S' ⟨kl, ws, o4, o5, rfl, rfl, hl, hP⟩
      rw [ul] at hl ⊢
      try simp! [sx_, true_and]
      have hm : r.toNat ≤ most.toNat := by omega
      have hm2 : r.toNat ≤ 24 := by omega
      exact fin_draw (N := n + 200) (by omega) (h (1 + y, ws) ⟨⟨by show (1 : Int) ≤ 1 + y; omega, by show 1 + y ≤ 1000000; omega⟩, by show ws.length ≤ 24; omega, hP⟩ (by show ws.length ≤ most.toNat; omega))
abbrev N_law_reach : List Str := ["tower", "excess", "weights", "total", "weight"]
theorem sc_law_reach : FnScope N_law_reach ["tower"] (defScope st_law_reach) := ⟨rfl, rfl, rfl, by decide +kernel, rfl, by decide +kernel, by decide +kernel⟩
def sp_law_reach : SpD := fun ds S R E => ∃ t : Twr, ds = [twD t] ∧ Tw t ∧ R (.lst [.int (reachW t), .bl (isFree t)]) S
theorem cal_law_reach {f : Addr} (T : Txt FA K mg) (TX : ExT K EX) (TI : InT K IN) (TS : IsF K IN OW) (TB : ∀ c ∈ BA, bareB K c = true) (TC : conOk K CO = true) (F : FnP K "_law_reach" "_law_reach" st_law_reach f) (gm : mg "_law_reach" = some (.ref f))  : Cal P w K mg base 1 "_law_reach" ["tower"] sp_law_reach := by
  refine cal (k := 0) F gm sc_law_reach ?len _ (fun cdv A outer s H E hr hgd tk =>
    have hu := hr.units
    have hp : PassesOwn (model P w) (cxOf (L2.CX P w) P w K mg base N_law_reach "_law_reach" (defScope st_law_reach) f cdv A outer s H E).A (cxOf (L2.CX P w) P w K mg base N_law_reach "_law_reach" (defScope st_law_reach) f cdv A outer s H E).env (cxOf (L2.CX P w) P w K mg base N_law_reach "_law_reach" (defScope st_law_reach) f cdv A outer s H E).xe := passes_of rfl
    have nd := sc_law_reach.nd
    (by exact (pssd_cons (by exact (psd_asg (by exact (pvd 0)) (by exact (pgd_tup (n := 2) rfl (pgsd_cons (by exact (pgd 1 nd)) (by exact (pgsd_cons (by exact (pgd 2 nd)) pgsd_nil)))))))
    (by exact (pssd_cons (by exact (psd_set 3 nd ped_int))
    (by exact (pssd_cons (by exact (psd_for hp rfl (by exact (pid_list (by exact (ped_callB cd_sortI (T.free 23) boot_sorted (by exact (pad_cons (by exact (pvd 2)) pad_nil)))))) (by exact (pgd 4 nd))
    (by exact (pssd_cons (by exact (psd_if (by exact (ptd_cmp opd_gt (by exact (pvd 4)) (by exact (ped_op opd_add (by exact (pvd 1)) (by exact (pvd 3)))))) (by exact (pssd_one (by exact (psd_ret (by exact (ped_lst (by exact (pad_cons (by exact (pvd 3)) (by exact (pad_cons ped_bl pad_nil)))))))))) pssd_nil))
    (by exact (pssd_one (by exact (psd_set 3 nd (by exact (ped_op opd_add (by exact (pvd 3)) (by exact (pvd 4))))))))))))
    (by exact (pssd_one (by exact (psd_ret (by exact (ped_lst (by exact (pad_cons (by exact (pvd 3)) (by exact (pad_cons ped_bl pad_nil))))))))))))))))) ?pure (fun _ _ _ _ _ _ us hl => match us, hl with | [_], _ => rfl)
  case len =>
    intro ds S R E h
    (unfold sp_law_reach at h; obtain ⟨_, rfl, _⟩ := h; rfl)
  case pure =>
    intro ds S R E h
    obtain ⟨⟨e, ws⟩, rfl, ht, h⟩ := h
    have hn : ws.length ≤ 24 := ht.n
    dsimp! [sx_, (show ∀ t : Twr, twD t = .tup [.int t.1, .tup (t.2.map .int)] from fun _ => rfl)]
    rw [r_sFor]
    try dsimp! [sx_, true_and]
    refine ⟨_, insD_map _, fun us hp hs => ?_⟩
    have hr := rch_eq (e := e) (fun w hw => by have := ht.w w hw; omega) hp hs
    have hus : us.length = ws.length := hp.length_eq
    try dsimp! [sx_, true_and]
    refine ⟨fun k ρ' S' => S' = S ∧ ∃ (t : Int) (o4 : Option D), ρ' = [some (.tup [.int e, .tup (ws.map .int)]), some (.int e), some (.tup (ws.map .int)), some (.int t), o4] ∧ rch e t (us.drop k) = (reachW (e, ws), isFree (e, ws)), ⟨rfl, 0, _, rfl, hr⟩, fun _ _ _ _ => trivial, ?_, ?_⟩
    · rintro k d ρ' S' hk ⟨rfl, t, o4, rfl, hq⟩
      rw [List.getElem?_map] at hk
      obtain ⟨w, hw, rfl⟩ := Option.map_eq_some_iff.mp hk
      obtain ⟨kl, ew⟩ := List.getElem?_eq_some_iff.mp hw
      rw [List.drop_eq_getElem_cons kl, ew, rch] at hq
      simp! [sx_, true_and]
      by_cases hlt : e + t < w
      · rw [if_pos hlt] at hq ⊢
        obtain ⟨q1, q2⟩ := Prod.mk.inj hq
        try simp! [sx_, true_and]
        rw [q1, q2]; exact fin_same h
      · rw [if_neg hlt] at hq ⊢
        exact ⟨t + w, _, rfl, hq⟩
    · rintro ρ' S' ⟨rfl, t, o4, rfl, hq⟩
      rw [List.length_map, List.drop_length, rch] at hq
      obtain ⟨q1, q2⟩ := Prod.mk.inj hq
      try simp! [sx_, true_and]
      rw [q1, q2]; exact fin_same h
abbrev Nlighter_weight : List Str := ["tower", "weight", "excess", "weights", "own"]
theorem sclighter_weight : FnScope Nlighter_weight ["tower", "weight"] (defScope stlighter_weight) := ⟨rfl, rfl, rfl, by decide +kernel, rfl, by decide +kernel, by decide +kernel⟩
def splighter_weight : SpD := fun ds S R E => ∃ (t : Twr) (x : Int), ds = [twD t, .int x] ∧ Tw t ∧ R (.int (lighter t.2 x)) S
theorem callighter_weight {f : Addr} (T : Txt FA K mg) (TX : ExT K EX) (TI : InT K IN) (TS : IsF K IN OW) (TB : ∀ c ∈ BA, bareB K c = true) (TC : conOk K CO = true) (F : FnP K "lighter_weight" "lighter_weight" stlighter_weight f) (gm : mg "lighter_weight" = some (.ref f))  : Cal P w K mg base 1 "lighter_weight" ["tower", "weight"] splighter_weight := by
  refine cal (k := 0) F gm sclighter_weight ?len _ (fun cdv A outer s H E hr hgd tk =>
    have hu := hr.units
    have hp : PassesOwn (model P w) (cxOf (L2.CX P w) P w K mg base Nlighter_weight "lighter_weight" (defScope stlighter_weight) f cdv A outer s H E).A (cxOf (L2.CX P w) P w K mg base Nlighter_weight "lighter_weight" (defScope stlighter_weight) f cdv A outer s H E).env (cxOf (L2.CX P w) P w K mg base Nlighter_weight "lighter_weight" (defScope stlighter_weight) f cdv A outer s H E).xe := passes_of rfl
    have nd := sclighter_weight.nd
    (by exact (pssd_cons (by exact (psd_asg (by exact (pvd 0)) (by exact (pgd_tup (n := 2) rfl (pgsd_cons (by exact (pgd 2 nd)) (by exact (pgsd_cons (by exact (pgd 3 nd)) pgsd_nil)))))))
    (by exact (pssd_one (by exact (psd_ret (by exact (ped_callB (cd_sum rfl) (T.free 21) boot_sum (by exact (pad_cons (by exact (ped_lc (B := bd1 "own" 4) rfl nd (by exact (pid_tup (by exact (pvd 3)))) (blkOk_by (N := Nlighter_weight) (sc := defScope stlighter_weight) (by decide +kernel)) (fun _ _ _ _ _ => pg_name (i := 4) nd rfl (Or.inl rfl)) (fun _ _ _ _ _ => by exact (ptsd_one (by exact (ptd_cmp opd_lt (by exact (pvd 4)) (by exact (pvd 1)))))) (fun _ _ _ _ _ => (by exact (pvd 4))))) pad_nil))))))))))) ?pure (fun _ _ _ _ _ _ us hl => match us, hl with | [_, _], _ => rfl)
  case len =>
    intro ds S R E h
    (unfold splighter_weight at h; obtain ⟨_, _, rfl, _⟩ := h; rfl)
  case pure =>
    intro ds S R E h
    obtain ⟨⟨e, ws⟩, x, rfl, ht, h⟩ := h
    have hn : ws.length ≤ 24 := ht.n
    have sl : (100000 : Nat) ≤ sizeLine := by decide
    simp! [sx_, (show ∀ t : Twr, twD t = .tup [.int t.1, .tup (t.2.map .int)] from fun _ => rfl)]
    refine lc_map ws .int (fun w => decide (w < x)) .int rfl (by omega) (fun _ _ => trivial) (fun w hw S' _ Rt Rn ht hn => ⟨_, rfl, ?_⟩) ?_
    · simp! [sx_, true_and]
      by_cases hlt : w < x
      · simp! [sx_, hlt, if_true, decide_true]
        exact ht (decide_eq_true hlt)
      · simp! [sx_, hlt, if_false, decide_false]
        exact hn (decide_eq_false hlt)
    try simp! [sx_, true_and]
    exact ⟨_, insD_map _, fin_same h⟩
abbrev Nstuck_person : List Str := ["tower", "excess", "weights", "stuck", "person", "own"]
theorem scstuck_person : FnScope Nstuck_person ["tower"] (defScope ststuck_person) := ⟨rfl, rfl, rfl, by decide +kernel, rfl, by decide +kernel, by decide +kernel⟩
def spstuck_person : SpD := fun ds S R E => ∃ t : Twr, ds = [twD t] ∧ Tw t ∧ R (stD t) S
theorem calstuck_person {f : Addr} (T : Txt FA K mg) (TX : ExT K EX) (TI : InT K IN) (TS : IsF K IN OW) (TB : ∀ c ∈ BA, bareB K c = true) (TC : conOk K CO = true) (F : FnP K "stuck_person" "stuck_person" ststuck_person f) (gm : mg "stuck_person" = some (.ref f)) (clighter_weight : Cal P w K mg base 1 "lighter_weight" ["tower", "weight"] splighter_weight) : Cal P w K mg base 2 "stuck_person" ["tower"] spstuck_person := by
  refine cal (k := 1) F gm scstuck_person ?len _ (fun cdv A outer s H E hr hgd tk =>
    have hu := hr.units
    have hp : PassesOwn (model P w) (cxOf (L2.CX P w) P w K mg base Nstuck_person "stuck_person" (defScope ststuck_person) f cdv A outer s H E).A (cxOf (L2.CX P w) P w K mg base Nstuck_person "stuck_person" (defScope ststuck_person) f cdv A outer s H E).env (cxOf (L2.CX P w) P w K mg base Nstuck_person "stuck_person" (defScope ststuck_person) f cdv A outer s H E).xe := passes_of rfl
    have nd := scstuck_person.nd
    (by exact (pssd_cons (by exact (psd_asg (by exact (pvd 0)) (by exact (pgd_tup (n := 2) rfl (pgsd_cons (by exact (pgd 1 nd)) (by exact (pgsd_cons (by exact (pgd 2 nd)) pgsd_nil)))))))
    (by exact (pssd_cons (by exact (psd_setLc (B := bd2 "person" "own" 4 5) 3 rfl nd (sw_true rfl rfl rfl (by decide +kernel)) (by exact (pid_enumT (T.free 6) (by exact (pad_cons (by exact (pvd 2)) pad_nil)))) (blkOk_by (N := Nstuck_person) (sc := defScope ststuck_person) (by decide +kernel)) (fun _ _ _ _ _ => pg_tup rfl (pgs_cons (pg_name (i := 4) nd rfl (Or.inl rfl)) (pgs_cons (pg_name (i := 5) nd rfl (Or.inl rfl)) pgs_nil))) (fun _ _ _ _ _ => by exact (ptsd_one (by exact (ptd_cmp opd_gt (by exact (pvd 5)) (by exact (ped_op opd_add (by exact (pvd 1)) (by exact (ped_callC clighter_weight hr hgd takes0 (by exact (pad_cons (by exact (pvd 0)) (by exact (pad_cons (by exact (pvd 5)) pad_nil)))))))))))) (fun _ _ _ _ _ => (by exact (ped_tup (by exact (pad_cons (by exact (pvd 5)) (by exact (pad_cons (by exact (pvd 4)) pad_nil)))))))))
    (by exact (pssd_one (by exact (psd_ret (by exact (ped_if (by exact (ptd_cmp (opd_ne hu) (by exact (pvd 3)) (by exact (ped_lst pad_nil)))) (by exact (ped_ix (by exact (ped_callB (cd_minP rfl hu) (T.free 20) boot_min (by exact (pad_cons (by exact (pvd 3)) pad_nil)))) ped_int)) ped_non))))))))))) ?pure (fun _ _ _ _ _ _ us hl => match us, hl with | [_], _ => rfl)
  case len =>
    intro ds S R E h
    (unfold spstuck_person at h; obtain ⟨_, rfl, _⟩ := h; rfl)
  case pure =>
    intro ds S R E h
    obtain ⟨⟨e, ws⟩, rfl, ht, h⟩ := h
    have hn : ws.length ≤ 24 := ht.n
    have sl : (100000 : Nat) ≤ sizeLine := by decide
    simp! [sx_, (show ∀ t : Twr, twD t = .tup [.int t.1, .tup (t.2.map .int)] from fun _ => rfl), enumD_zip]
    refine lc_map (ws.zipIdx) (fun q => .tup [.int (q.2 : Nat), .int q.1]) (fun q => decide (e + lighter ws q.1 < q.1)) (fun q => Dl.pairD (q.1, (q.2 : Int))) rfl (by rw [List.length_zipIdx]; omega) (fun _ _ => trivial) (fun q hq S' _ Rt Rn kt kn => ⟨_, rfl, ?_⟩) ?_
    · simp! [sx_, true_and]
      refine ⟨(e, ws), q.1, rfl, ht, ?_⟩
      try simp! [sx_, true_and]
      by_cases hlt : e + lighter ws q.1 < q.1
      · simp! [sx_, hlt, if_true, decide_true]
        exact kt (decide_eq_true hlt)
      · simp! [sx_, hlt, if_false, decide_false]
        exact kn (decide_eq_false hlt)
    have e1 : (((ws.zipIdx).filter fun q => decide (e + lighter ws q.1 < q.1)).map fun q => Dl.pairD (q.1, ((q.2 : Nat) : Int))) = (stuckL (e, ws)).map Dl.pairD := by
      unfold stuckL; rw [List.map_map]; rfl
    rw [e1]
    rw [r_neP0]
    have hst : stD (e, ws) = match stuckL (e, ws) with
      | [] => .non
      | p :: ps => .int (minP p ps).2 := by
      unfold stD stuckP; cases stuckL (e, ws) <;> rfl
    rw [hst] at h
    cases hs : stuckL (e, ws) with
    | nil =>
      rw [hs] at h
      simp! [sx_, List.isEmpty_nil, Bool.not_true, if_false]
      exact fin_same h
    | cons p ps =>
      rw [hs] at h
      simp! [sx_, List.isEmpty_cons, Bool.not_false, if_true]
      refine ⟨p, ps, rfl, ?_⟩
      simp! [sx_, show ∀ z, Dl.pairD z = .tup [.int z.1, .int z.2] from fun _ => rfl]
      exact fin_same h
abbrev Nreach_weight : List Str := ["tower", "excess", "weights", "person"]
theorem screach_weight : FnScope Nreach_weight ["tower"] (defScope streach_weight) := ⟨rfl, rfl, rfl, by decide +kernel, rfl, by decide +kernel, by decide +kernel⟩
def spreach_weight : SpD := fun ds S R E => ∃ t : Twr, ds = [twD t] ∧ Tw t ∧ R (.int (reachW t)) S
theorem calreach_weight {f : Addr} (T : Txt FA K mg) (TX : ExT K EX) (TI : InT K IN) (TS : IsF K IN OW) (TB : ∀ c ∈ BA, bareB K c = true) (TC : conOk K CO = true) (F : FnP K "reach_weight" "reach_weight" streach_weight f) (gm : mg "reach_weight" = some (.ref f)) (cstuck_person : Cal P w K mg base 2 "stuck_person" ["tower"] spstuck_person) (clighter_weight : Cal P w K mg base 1 "lighter_weight" ["tower", "weight"] splighter_weight) : Cal P w K mg base 3 "reach_weight" ["tower"] spreach_weight := by
  refine cal (k := 2) F gm screach_weight ?len _ (fun cdv A outer s H E hr hgd tk =>
    have hu := hr.units
    have hp : PassesOwn (model P w) (cxOf (L2.CX P w) P w K mg base Nreach_weight "reach_weight" (defScope streach_weight) f cdv A outer s H E).A (cxOf (L2.CX P w) P w K mg base Nreach_weight "reach_weight" (defScope streach_weight) f cdv A outer s H E).env (cxOf (L2.CX P w) P w K mg base Nreach_weight "reach_weight" (defScope streach_weight) f cdv A outer s H E).xe := passes_of rfl
    have nd := screach_weight.nd
    (by exact (pssd_cons (by exact (psd_asg (by exact (pvd 0)) (by exact (pgd_tup (n := 2) rfl (pgsd_cons (by exact (pgd 1 nd)) (by exact (pgsd_cons (by exact (pgd 2 nd)) pgsd_nil)))))))
    (by exact (pssd_cons (by exact (psd_ifN 3 nd (by exact (ped_callC cstuck_person hr hgd tk (by exact (pad_cons (by exact (pvd 0)) pad_nil)))) (by exact (pssd_one (by exact (psd_ret (by exact (ped_callB (cd_sum rfl) (T.free 21) boot_sum (by exact (pad_cons (by exact (pvd 2)) pad_nil)))))))) pssd_nil))
    (by exact (pssd_one (by exact (psd_ret (by exact (ped_callC clighter_weight hr hgd tk (by exact (pad_cons (by exact (pvd 0)) (by exact (pad_cons (by exact (ped_ix (by exact (pvd 2)) (by exact (pvd 3)))) pad_nil))))))))))))))) ?pure (fun _ _ _ _ _ _ us hl => match us, hl with | [_], _ => rfl)
  case len =>
    intro ds S R E h
    (unfold spreach_weight at h; obtain ⟨_, rfl, _⟩ := h; rfl)
  case pure =>
    intro ds S R E h
    obtain ⟨⟨e, ws⟩, rfl, ht, h⟩ := h
    have hn : ws.length ≤ 24 := ht.n
    have sl : (100000 : Nat) ≤ sizeLine := by decide
    simp! [sx_, (show ∀ t : Twr, twD t = .tup [.int t.1, .tup (t.2.map .int)] from fun _ => rfl)]
    refine ⟨(e, ws), rfl, ht, ?_⟩
    have hr : reachW (e, ws) = match stuckP (e, ws) with
      | none => ws.sum
      | some p => lighter ws (ws.getD p.toNat 0) := rfl
    have hst : stD (e, ws) = match stuckP (e, ws) with
      | none => .non
      | some p => .int p := rfl
    rw [hr] at h
    rw [hst]
    cases hs : stuckP (e, ws) with
    | none =>
      rw [hs] at h
      simp! [sx_, if_true]
      exact ⟨_, insD_map _, fin_same h⟩
    | some p =>
      rw [hs] at h
      obtain ⟨p0, p1, x, hx⟩ := stuckP_ok hs
      have e1 : ws.getD p.toNat 0 = x := by rw [List.getD_eq_getElem?_getD, show ws[p.toNat]? = some x from hx]; rfl
      simp only [e1] at h
      have hA : atI (ws.map D.int) p = some (.int x) := ix_at (by rw [List.getElem?_map, show ws[p.toNat]? = some x from hx]; rfl) p0
      simp! [sx_, if_false, hA]
      exact ⟨(e, ws), x, rfl, ht, fin_same h⟩
abbrev Nis_within : List Str := ["value", "low", "high"]
theorem scis_within : FnScope Nis_within ["value", "low", "high"] (defScope stis_within) := ⟨rfl, rfl, rfl, by decide +kernel, rfl, by decide +kernel, by decide +kernel⟩
def spis_within : SpD := fun ds S R E => ∃ (d : D) (lo hi : Int), ds = [d, .int lo, .int hi] ∧ vok d = true ∧ R (.bl (wi d lo hi)) S
theorem calis_within {f : Addr} (T : Txt FA K mg) (TX : ExT K EX) (TI : InT K IN) (TS : IsF K IN OW) (TB : ∀ c ∈ BA, bareB K c = true) (TC : conOk K CO = true) (F : FnP K "is_within" "is_within" stis_within f) (gm : mg "is_within" = some (.ref f))  : Cal P w K mg base 1 "is_within" ["value", "low", "high"] spis_within := by
  refine cal (k := 0) F gm scis_within ?len _ (fun cdv A outer s H E hr hgd tk =>
    have hu := hr.units
    have hp : PassesOwn (model P w) (cxOf (L2.CX P w) P w K mg base Nis_within "is_within" (defScope stis_within) f cdv A outer s H E).A (cxOf (L2.CX P w) P w K mg base Nis_within "is_within" (defScope stis_within) f cdv A outer s H E).env (cxOf (L2.CX P w) P w K mg base Nis_within "is_within" (defScope stis_within) f cdv A outer s H E).xe := passes_of rfl
    have nd := scis_within.nd
    (by exact (pssd_one (by exact (psd_ret (by exact (ped_and (by exact (ped_callB cd_isi (T.free 1) boot_isinstance (by exact (pad_cons (by exact (pvd 0)) (by exact (pad_cons (by exact (ped_type (T.free 3) boot_int)) pad_nil)))))) (by exact (ped_and (by exact (ped_not (by exact (ped_callB cd_isi (T.free 1) boot_isinstance (by exact (pad_cons (by exact (pvd 0)) (by exact (pad_cons (by exact (ped_type (T.free 2) boot_bool)) pad_nil)))))))) (by exact (ped_one (by exact (ped_chain opd_le opd_le (by exact (pvd 1)) (by exact (pvd 0)) (by exact (pvd 2))))))))))))))) ?pure (fun _ _ _ _ _ _ us hl => match us, hl with | [_, _, _], _ => rfl)
  case len =>
    intro ds S R E h
    (unfold spis_within at h; obtain ⟨_, _, _, rfl, _⟩ := h; rfl)
  case pure =>
    intro ds S R E h
    obtain ⟨d, lo, hi, rfl, hv, h⟩ := h
    cases d with
    | int i =>
      simp! [sx_, Bool.not_false, Bool.not_true]
      by_cases h0 : lo ≤ i
      · simp! [sx_, h0, decide_true]
        refine fin_same ?_
        have e : wi (.int i) lo hi = decide (i ≤ hi) := by simp only [wi, h0, true_and]
        rw [← e]; exact h
      · simp! [sx_, h0, decide_false]
        refine fin_same ?_
        have e : wi (.int i) lo hi = false := by simp only [wi, h0, false_and, decide_false]
        rw [← e]; exact h
    | bl b => simp! [sx_, Bool.not_false, Bool.not_true]; exact fin_same h
    | non => simp! [sx_, Bool.not_false, Bool.not_true]; exact fin_same h
    | str b => simp! [sx_, Bool.not_false, Bool.not_true]; exact fin_same h
    | tup b => simp! [sx_, Bool.not_false, Bool.not_true]; exact fin_same h
    | lst b => simp! [sx_, Bool.not_false, Bool.not_true]; exact fin_same h
    | dct b => simp! [sx_, Bool.not_false, Bool.not_true]; exact fin_same h
    | _ => cases hv
abbrev Nwith_person : List Str := ["weights", "weight"]
theorem scwith_person : FnScope Nwith_person ["weights", "weight"] (defScope stwith_person) := ⟨rfl, rfl, rfl, by decide +kernel, rfl, by decide +kernel, by decide +kernel⟩
def spwith_person : SpD := fun ds S R E => ∃ (ws : List Int) (x : Int), ds = [.tup (ws.map .int), .int x] ∧ (1 ≤ x ∧ x ≤ 1000000) ∧ ws.length < 24 ∧ R (.tup ((ws ++ [x]).map .int)) S
theorem calwith_person {f : Addr} (T : Txt FA K mg) (TX : ExT K EX) (TI : InT K IN) (TS : IsF K IN OW) (TB : ∀ c ∈ BA, bareB K c = true) (TC : conOk K CO = true) (F : FnP K "with_person" "with_person" stwith_person f) (gm : mg "with_person" = some (.ref f)) (cis_within : Cal P w K mg base 1 "is_within" ["value", "low", "high"] spis_within) : Cal P w K mg base 2 "with_person" ["weights", "weight"] spwith_person := by
  refine cal (k := 1) F gm scwith_person ?len _ (fun cdv A outer s H E hr hgd tk =>
    have hu := hr.units
    have hp : PassesOwn (model P w) (cxOf (L2.CX P w) P w K mg base Nwith_person "with_person" (defScope stwith_person) f cdv A outer s H E).A (cxOf (L2.CX P w) P w K mg base Nwith_person "with_person" (defScope stwith_person) f cdv A outer s H E).env (cxOf (L2.CX P w) P w K mg base Nwith_person "with_person" (defScope stwith_person) f cdv A outer s H E).xe := passes_of rfl
    have nd := scwith_person.nd
    (by exact (pssd_cons (by exact (psd_if (by exact (ptd_not (by exact (ptd_truth (by exact (ped_callC cis_within hr hgd tk (by exact (pad_cons (by exact (pvd 1)) (by exact (pad_cons ped_int (by exact (pad_cons (by exact (ped_gint (T.int 5))) pad_nil)))))))))))) (by exact (pssd_one psd_dead)) pssd_nil))
    (by exact (pssd_cons (by exact (psd_if (by exact (ptd_cmp opd_ge (by exact (ped_callB cd_len (T.free 7) boot_len (by exact (pad_cons (by exact (pvd 0)) pad_nil)))) (by exact (ped_gint (T.int 8))))) (by exact (pssd_one psd_dead)) pssd_nil))
    (by exact (pssd_one (by exact (psd_ret (by exact (ped_tup (by exact (pad_star (by exact (pvd 0)) (by exact (pad_cons (by exact (pvd 1)) pad_nil))))))))))))))) ?pure (fun _ _ _ _ _ _ us hl => match us, hl with | [_, _], _ => rfl)
  case len =>
    intro ds S R E h
    (unfold spwith_person at h; obtain ⟨_, _, rfl, _⟩ := h; rfl)
  case pure =>
    intro ds S R E h
    obtain ⟨ws, x, rfl, hx, hn, h⟩ := h
    have sl : (100000 : Nat) ≤ sizeLine := by decide
    simp! [sx_, true_and]
    refine ⟨.int x, _, _, rfl, rfl, ?_⟩
    have h1 : wi (.int x) 1 1000000 = true := decide_eq_true hx
    have h2 : ¬ (24 : Int) ≤ (ws.length : Int) := by omega
    simp! [sx_, h1, h2, List.length_map, Bool.not_true, if_false]
    refine ⟨by simp; omega, ?_⟩
    rw [List.map_append] at h
    exact fin_same h
abbrev Nwithout_person : List Str := ["weights", "person"]
theorem scwithout_person : FnScope Nwithout_person ["weights", "person"] (defScope stwithout_person) := ⟨rfl, rfl, rfl, by decide +kernel, rfl, by decide +kernel, by decide +kernel⟩
def spwithout_person : SpD := fun ds S R E => ∃ (ws : List Int) (p : Int), ds = [.tup (ws.map .int), .int p] ∧ (0 ≤ p ∧ p < (ws.length : Int)) ∧ ws.length ≤ 24 ∧ R (.tup ((ws.take p.toNat ++ ws.drop (p.toNat + 1)).map .int)) S
theorem calwithout_person {f : Addr} (T : Txt FA K mg) (TX : ExT K EX) (TI : InT K IN) (TS : IsF K IN OW) (TB : ∀ c ∈ BA, bareB K c = true) (TC : conOk K CO = true) (F : FnP K "without_person" "without_person" stwithout_person f) (gm : mg "without_person" = some (.ref f)) (cis_within : Cal P w K mg base 1 "is_within" ["value", "low", "high"] spis_within) : Cal P w K mg base 2 "without_person" ["weights", "person"] spwithout_person := by
  refine cal (k := 1) F gm scwithout_person ?len _ (fun cdv A outer s H E hr hgd tk =>
    have hu := hr.units
    have hp : PassesOwn (model P w) (cxOf (L2.CX P w) P w K mg base Nwithout_person "without_person" (defScope stwithout_person) f cdv A outer s H E).A (cxOf (L2.CX P w) P w K mg base Nwithout_person "without_person" (defScope stwithout_person) f cdv A outer s H E).env (cxOf (L2.CX P w) P w K mg base Nwithout_person "without_person" (defScope stwithout_person) f cdv A outer s H E).xe := passes_of rfl
    have nd := scwithout_person.nd
    (by exact (pssd_cons (by exact (psd_if (by exact (ptd_not (by exact (ptd_truth (by exact (ped_callC cis_within hr hgd tk (by exact (pad_cons (by exact (pvd 1)) (by exact (pad_cons ped_int (by exact (pad_cons (by exact (ped_op opd_sub (by exact (ped_callB cd_len (T.free 7) boot_len (by exact (pad_cons (by exact (pvd 0)) pad_nil)))) ped_int)) pad_nil)))))))))))) (by exact (pssd_one psd_dead)) pssd_nil))
    (by exact (pssd_one (by exact (psd_ret (by exact (ped_tup (by exact (pad_star (by exact (ped_slice (by exact (pvd 0)) pod_none (by exact (pod_some (by exact (pvd 1)))))) (by exact (pad_star (by exact (ped_slice (by exact (pvd 0)) (by exact (pod_some (by exact (ped_op opd_add (by exact (pvd 1)) ped_int)))) pod_none)) pad_nil))))))))))))) ?pure (fun _ _ _ _ _ _ us hl => match us, hl with | [_, _], _ => rfl)
  case len =>
    intro ds S R E h
    (unfold spwithout_person at h; obtain ⟨_, _, rfl, _⟩ := h; rfl)
  case pure =>
    intro ds S R E h
    obtain ⟨ws, p, rfl, hp, hn, h⟩ := h
    have sl : (100000 : Nat) ≤ sizeLine := by decide
    simp! [sx_, true_and]
    refine ⟨.int p, _, _, rfl, rfl, ?_⟩
    have h1 : wi (.int p) 0 ((ws.length : Int) - 1) = true := decide_eq_true ⟨hp.1, by omega⟩
    simp! [sx_, h1, List.length_map, Bool.not_true, if_false]
    rw [cutD_take' _ hp.1, cutD_drop _ (show 0 ≤ p + 1 by omega), show (p + 1).toNat = p.toNat + 1 by omega]
    try simp! [sx_, true_and]
    refine ⟨by simp; omega, ?_⟩
    rw [List.map_append, List.map_take, List.map_drop] at h
    exact fin_same (by simpa using h)
abbrev Nwith_weight : List Str := ["weights", "person", "weight"]
theorem scwith_weight : FnScope Nwith_weight ["weights", "person", "weight"] (defScope stwith_weight) := ⟨rfl, rfl, rfl, by decide +kernel, rfl, by decide +kernel, by decide +kernel⟩
def spwith_weight : SpD := fun ds S R E => ∃ (ws : List Int) (p x : Int), ds = [.tup (ws.map .int), .int p, .int x] ∧ (0 ≤ p ∧ p < (ws.length : Int)) ∧ (1 ≤ x ∧ x ≤ 1000000) ∧ ws.length ≤ 24 ∧ R (.tup ((ws.take p.toNat ++ x :: ws.drop (p.toNat + 1)).map .int)) S
theorem calwith_weight {f : Addr} (T : Txt FA K mg) (TX : ExT K EX) (TI : InT K IN) (TS : IsF K IN OW) (TB : ∀ c ∈ BA, bareB K c = true) (TC : conOk K CO = true) (F : FnP K "with_weight" "with_weight" stwith_weight f) (gm : mg "with_weight" = some (.ref f)) (cis_within : Cal P w K mg base 1 "is_within" ["value", "low", "high"] spis_within) : Cal P w K mg base 2 "with_weight" ["weights", "person", "weight"] spwith_weight := by
  refine cal (k := 1) F gm scwith_weight ?len _ (fun cdv A outer s H E hr hgd tk =>
    have hu := hr.units
    have hp : PassesOwn (model P w) (cxOf (L2.CX P w) P w K mg base Nwith_weight "with_weight" (defScope stwith_weight) f cdv A outer s H E).A (cxOf (L2.CX P w) P w K mg base Nwith_weight "with_weight" (defScope stwith_weight) f cdv A outer s H E).env (cxOf (L2.CX P w) P w K mg base Nwith_weight "with_weight" (defScope stwith_weight) f cdv A outer s H E).xe := passes_of rfl
    have nd := scwith_weight.nd
    (by exact (pssd_cons (by exact (psd_if (by exact (ptd_not (by exact (ptd_truth (by exact (ped_callC cis_within hr hgd tk (by exact (pad_cons (by exact (pvd 1)) (by exact (pad_cons ped_int (by exact (pad_cons (by exact (ped_op opd_sub (by exact (ped_callB cd_len (T.free 7) boot_len (by exact (pad_cons (by exact (pvd 0)) pad_nil)))) ped_int)) pad_nil)))))))))))) (by exact (pssd_one psd_dead)) pssd_nil))
    (by exact (pssd_cons (by exact (psd_if (by exact (ptd_not (by exact (ptd_truth (by exact (ped_callC cis_within hr hgd tk (by exact (pad_cons (by exact (pvd 2)) (by exact (pad_cons ped_int (by exact (pad_cons (by exact (ped_gint (T.int 5))) pad_nil)))))))))))) (by exact (pssd_one psd_dead)) pssd_nil))
    (by exact (pssd_one (by exact (psd_ret (by exact (ped_tup (by exact (pad_star (by exact (ped_slice (by exact (pvd 0)) pod_none (by exact (pod_some (by exact (pvd 1)))))) (by exact (pad_cons (by exact (pvd 2)) (by exact (pad_star (by exact (ped_slice (by exact (pvd 0)) (by exact (pod_some (by exact (ped_op opd_add (by exact (pvd 1)) ped_int)))) pod_none)) pad_nil))))))))))))))))) ?pure (fun _ _ _ _ _ _ us hl => match us, hl with | [_, _, _], _ => rfl)
  case len =>
    intro ds S R E h
    (unfold spwith_weight at h; obtain ⟨_, _, _, rfl, _⟩ := h; rfl)
  case pure =>
    intro ds S R E h
    obtain ⟨ws, p, x, rfl, hp, hx, hn, h⟩ := h
    have sl : (100000 : Nat) ≤ sizeLine := by decide
    simp! [sx_, true_and]
    refine ⟨.int p, _, _, rfl, rfl, ?_⟩
    have h1 : wi (.int p) 0 ((ws.length : Int) - 1) = true := decide_eq_true ⟨hp.1, by omega⟩
    have h2 : wi (.int x) 1 1000000 = true := decide_eq_true hx
    simp! [sx_, h1, List.length_map, Bool.not_true, if_false]
    refine ⟨.int x, _, _, rfl, rfl, ?_⟩
    simp! [sx_, h2, List.length_map, Bool.not_true, if_false]
    rw [cutD_take' _ hp.1, cutD_drop _ (show 0 ≤ p + 1 by omega), show (p + 1).toNat = p.toNat + 1 by omega]
    try simp! [sx_, true_and]
    refine ⟨by simp; omega, ?_⟩
    rw [List.map_append, List.map_cons, List.map_take, List.map_drop] at h
    exact fin_same (by simpa using h)
abbrev NHoist___init__ : List Str := ["self", "tower", "error"]
theorem scHoist___init__ : FnScope NHoist___init__ ["self", "tower"] (defScope stHoist___init__) := ⟨rfl, rfl, rfl, by decide +kernel, rfl, by decide +kernel, by decide +kernel⟩
def spHoist___init__ : SpD := fun ds S R E => ∃ (a : Addr) (S0 : Sto) (t : Twr), ds = [.ref a, twD t] ∧ S0 a = none ∧ S = put S0 a (.ins "Hoist" [] []) ∧ Tw t ∧ ∀ S4, S4 a = some (hob none [t] [] false) → Mor S0 S4 → R .non S4
theorem calHoist___init__ (T : Txt FA K mg) (TX : ExT K EX) (TI : InT K IN) (TS : IsF K IN OW) (TB : ∀ c ∈ BA, bareB K c = true) (TC : conOk K CO = true) (F : ∃ fd, FunD K "__init__" "Hoist.__init__" (defArgs stHoist___init__) (defBody stHoist___init__) (defScope stHoist___init__) [] [] (He.ma K (He.ga K "Hoist") "__init__") fd) (ctower_error : Cal P w K mg base 3 "tower_error" ["value"] sptower_error) (creach_weight : Cal P w K mg base 3 "reach_weight" ["tower"] spreach_weight) (cstuck_person : Cal P w K mg base 2 "stuck_person" ["tower"] spstuck_person) : CalM P w K mg base 4 "Hoist" "__init__" ["self", "tower"] spHoist___init__ := by
  refine calM (k := 3) F scHoist___init__ ?len _ (fun cdv A outer s H E hr hgd tk =>
    have hu := hr.units
    have hp : PassesOwn (model P w) (cxOf (L2.CX P w) P w K mg base NHoist___init__ "Hoist.__init__" (defScope stHoist___init__) (He.ma K (He.ga K "Hoist") "__init__") cdv A outer s H E).A (cxOf (L2.CX P w) P w K mg base NHoist___init__ "Hoist.__init__" (defScope stHoist___init__) (He.ma K (He.ga K "Hoist") "__init__") cdv A outer s H E).env (cxOf (L2.CX P w) P w K mg base NHoist___init__ "Hoist.__init__" (defScope stHoist___init__) (He.ma K (He.ga K "Hoist") "__init__") cdv A outer s H E).xe := passes_of rfl
    have nd := scHoist___init__.nd
    (by exact (pssd_cons (by exact (psd_set 2 nd (by exact (ped_callC ctower_error hr hgd tk (by exact (pad_cons (by exact (pvd 1)) pad_nil))))))
    (by exact (pssd_cons (by exact (psd_if (by exact (ptd_notN (by exact (pvd 2)))) (by exact (pssd_one psd_dead)) pssd_nil))
    (by exact (pssd_cons (by exact (psd_fld TI (by exact (pvd 0)) (by exact (ped_new (by exact (pad_cons (by exact (pvd 1)) pad_nil))))))
    (by exact (pssd_cons (by exact (psd_fld TI (by exact (pvd 0)) (by exact (ped_new pad_nil))))
    (by exact (pssd_cons (by exact (psd_fld TI (by exact (pvd 0)) ped_bl))
    (by exact (pssd_one (by exact (psd_fld TI (by exact (pvd 0)) (by exact (ped_new (by exact (pad_cons (by exact (ped_tup (by exact (pad_cons (by exact (ped_callC creach_weight hr hgd tk (by exact (pad_cons (by exact (pvd 1)) pad_nil)))) (by exact (pad_cons (by exact (ped_isN (by exact (ped_callC cstuck_person hr hgd tk (by exact (pad_cons (by exact (pvd 1)) pad_nil)))))) pad_nil)))))) pad_nil))))))))))))))))))) ?pure (fun _ _ _ _ _ _ us hl => match us, hl with | [_, _], _ => rfl)
  case len =>
    intro ds S R E h
    (unfold spHoist___init__ at h; obtain ⟨_, _, _, rfl, _⟩ := h; rfl)
  case pure =>
    intro ds S R E h
    obtain ⟨a, S0, t, rfl, n0, rfl, ht, h⟩ := h
    simp! [sx_, true_and]
    refine ⟨_, rfl, ht.okTw, ?_⟩
    simp! [sx_, ht.err, Bool.not_true, if_false]
    intro p hp
    have pa : p ≠ a := fun z => by rw [z, put_same] at hp; cases hp
    rw [put_ne pa] at hp
    rw [r_sf (C := "Hoist") (ks := []) (ds := []) (by rw [put_ne (Ne.symm pa), put_same]) if_Hoist_states (by decide)]
    generalize e1 : put (put (put S0 a (.ins "Hoist" [] [])) p (.lst [twD t])) a (.ins "Hoist" (putKs "states" []) (putVs "states" (.ref p) [] [])) = S1
    have f0 : S1 a = some (.ins "Hoist" ["states"] [.ref p]) := by rw [← e1, put_same]; rfl
    have f1 : S1 p = some (.lst [twD t]) := by rw [← e1, put_ne pa, put_same]
    have fo : ∀ x, x ≠ a → x ≠ p → S1 x = S0 x := fun x h1 h2 => by rw [← e1, put_ne h1, put_ne h2, put_ne h1]
    clear e1
    simp! [sx_, true_and]
    intro q hq
    have qa : q ≠ a := at_none_sto hq f0
    have qp : q ≠ p := at_none_sto hq f1
    rw [fo q qa qp] at hq
    rw [r_sf (C := "Hoist") (ks := ["states"]) (ds := [.ref p]) (by rw [put_ne (Ne.symm qa)]; exact f0) if_Hoist_standing (by decide)]
    generalize e1 : put (put S1 q (.lst [])) a (.ins "Hoist" (putKs "standing" ["states"]) (putVs "standing" (.ref q) ["states"] [.ref p])) = S2
    have g0 : S2 a = some (.ins "Hoist" ["states", "standing"] [.ref p, .ref q]) := by rw [← e1, put_same]; rfl
    have g1 : S2 p = some (.lst [twD t]) := by rw [← e1, put_ne pa, put_ne (Ne.symm qp)]; exact f1
    have g2 : S2 q = some (.lst []) := by rw [← e1, put_ne qa, put_same]
    have go : ∀ x, x ≠ a → x ≠ p → x ≠ q → S2 x = S0 x := fun x h1 h2 h3 => by rw [← e1, put_ne h1, put_ne h3]; exact fo x h1 h2
    clear e1 f0 f1 fo
    simp! [sx_, true_and]
    rw [r_sf g0 if_Hoist_watching (by decide)]
    generalize e1 : put S2 a (.ins "Hoist" (putKs "watching" ["states", "standing"]) (putVs "watching" (.bl false) ["states", "standing"] [.ref p, .ref q])) = S3
    have k0 : S3 a = some (.ins "Hoist" ["states", "standing", "watching"] [.ref p, .ref q, .bl false]) := by rw [← e1, put_same]; rfl
    have k1 : S3 p = some (.lst [twD t]) := by rw [← e1, put_ne pa]; exact g1
    have k2 : S3 q = some (.lst []) := by rw [← e1, put_ne qa]; exact g2
    have ko : ∀ x, x ≠ a → x ≠ p → x ≠ q → S3 x = S0 x := fun x h1 h2 h3 => by rw [← e1, put_ne h1]; exact go x h1 h2 h3
    clear e1 g0 g1 g2 go
    simp! [sx_, true_and]
    refine ⟨t, rfl, ht, ?_⟩
    try simp! [sx_, true_and]
    refine ⟨t, rfl, ht, ?_⟩
    try simp! [sx_, true_and]
    intro r hr
    have ra : r ≠ a := at_none_sto hr k0
    have rp : r ≠ p := at_none_sto hr k1
    have rq : r ≠ q := at_none_sto hr k2
    rw [ko r ra rp rq] at hr
    rw [r_sf (C := "Hoist") (ks := ["states", "standing", "watching"]) (ds := [.ref p, .ref q, .bl false]) (by rw [put_ne (Ne.symm ra)]; exact k0) if_Hoist_ends (by decide)]
    obtain ⟨S4, w4, e4, m4⟩ := make_hob (K := K) (b := none) (tws := [t]) (eds := []) (w := false) (S0 := S0) (S := put S0 a (.ins "Hoist" [] [])) (s := p) (t := q) (e := r) n0 rfl ⟨pa, qa, ra⟩ ⟨Ne.symm qp, Ne.symm rp, Ne.symm rq⟩ ⟨by rw [put_ne pa]; exact hp, by rw [put_ne qa]; exact hq, by rw [put_ne ra]; exact hr⟩ (S3 := put (put S3 r (.lst [endD t])) a (.ins "Hoist" (putKs "ends" ["states", "standing", "watching"]) (putVs "ends" (.ref r) ["states", "standing", "watching"] [.ref p, .ref q, .bl false])))
      (by rw [put_same]; rfl) (by rw [put_ne pa, put_ne (Ne.symm rp)]; exact k1) (by rw [put_ne qa, put_ne (Ne.symm rq)]; exact k2) (by rw [put_ne ra, put_same]; rfl) (fun x h1 h2 h3 h4 => by rw [put_ne h1, put_ne h4, put_ne h1]; exact ko x h1 h2 h3)
    exact fin_wk w4 (h S4 e4 m4)
abbrev NHoist_tower : List Str := ["self"]
theorem scHoist_tower : FnScope NHoist_tower ["self"] (defScope stHoist_tower) := ⟨rfl, rfl, rfl, by decide +kernel, rfl, by decide +kernel, by decide +kernel⟩
def spHoist_tower : SpD := fun ds S R E => ∃ (a : Addr) (tws : List Twr) (eds : List Edt) (w : Bool) (t : Twr), ds = [.ref a] ∧ S a = some (hob none tws eds w) ∧ tws.getLast? = some t ∧ R (twD t) S
theorem calHoist_tower (T : Txt FA K mg) (TX : ExT K EX) (TI : InT K IN) (TS : IsF K IN OW) (TB : ∀ c ∈ BA, bareB K c = true) (TC : conOk K CO = true) (F : ∃ fd, FunD K "tower" "Hoist.tower" (defArgs stHoist_tower) (defBody stHoist_tower) (defScope stHoist_tower) [] [] (pG K "Hoist" "tower") fd)  : CalP P w K mg base 1 "Hoist" "tower" spHoist_tower := by
  refine calPO (k := 0) F scHoist_tower ?len _ (fun cdv A outer s H E hr hgd tk =>
    have hu := hr.units
    have hp : PassesOwn (model P w) (cxOf (L2.CX P w) P w K mg base NHoist_tower "Hoist.tower" (defScope stHoist_tower) (pG K "Hoist" "tower") cdv A outer s H E).A (cxOf (L2.CX P w) P w K mg base NHoist_tower "Hoist.tower" (defScope stHoist_tower) (pG K "Hoist" "tower") cdv A outer s H E).env (cxOf (L2.CX P w) P w K mg base NHoist_tower "Hoist.tower" (defScope stHoist_tower) (pG K "Hoist" "tower") cdv A outer s H E).xe := passes_of rfl
    have nd := scHoist_tower.nd
    (by exact (pssd_one (by exact (psd_ret (by exact (ped_ix (by exact (ped_fld TI (by exact (pvd 0)))) (by exact (ped_neg ped_int))))))))) ?pure (fun _ _ _ _ _ _ us hl => match us, hl with | [_], _ => rfl)
  case len =>
    intro ds S R E h
    (unfold spHoist_tower at h; obtain ⟨_, _, _, _, _, rfl, _⟩ := h; rfl)
  case pure =>
    intro H ds S R E hS h
    obtain ⟨a, tws, eds, w, t, rfl, ha, hl, h⟩ := h
    have hA : atI (tws.map twD) (-1) = some (twD t) := at_lastD (by rw [List.getLast?_map, hl]; rfl)
    refine open_hob hS ha fun S2 s t0 e na ne g0 g1 g2 g3 go back => ?_
    simp! [sx_, r_fh0 g0 if_Hoist_states, r_fh1 g0 if_Hoist_standing, r_fh2 g0 if_Hoist_watching, r_fh3 g0 if_Hoist_ends, Dl.r_lsR g1, Dl.r_sqR g1, Dl.r_ixR g1, Dl.r_addN g1, Dl.r_addlR g1, Dl.r_lenR g1, Dl.r_slR g1, Dl.r_mR g1, Dl.r_app g1, Dl.r_joinR g1, Dl.r_ilR g1, Dl.r_pop g1, hA]
    exact fin_wk (back S2 tws eds w g0 g1 g2 g3 (fun _ _ _ _ _ => rfl)) (by rw [put_self ha]; exact h)
abbrev NHoist_own_key : List Str := ["self", "excess", "weights"]
theorem scHoist_own_key : FnScope NHoist_own_key ["self"] (defScope stHoist_own_key) := ⟨rfl, rfl, rfl, by decide +kernel, rfl, by decide +kernel, by decide +kernel⟩
def spHoist_own_key : SpD := fun ds S R E => ∃ (a : Addr) (tws : List Twr) (eds : List Edt) (w : Bool) (t : Twr), ds = [.ref a] ∧ S a = some (hob none tws eds w) ∧ tws.getLast? = some t ∧ ∀ ns : List Int, ns.Perm t.2 → ns.Pairwise (· ≤ ·) → R (keyD t.1 ns) S
theorem calHoist_own_key (T : Txt FA K mg) (TX : ExT K EX) (TI : InT K IN) (TS : IsF K IN OW) (TB : ∀ c ∈ BA, bareB K c = true) (TC : conOk K CO = true) (F : ∃ fd, FunD K "own_key" "Hoist.own_key" (defArgs stHoist_own_key) (defBody stHoist_own_key) (defScope stHoist_own_key) [] [] (He.ma K (He.ga K "Hoist") "own_key") fd)  : CalM P w K mg base 1 "Hoist" "own_key" ["self"] spHoist_own_key := by
  refine calMO (k := 0) F scHoist_own_key ?len _ (fun cdv A outer s H E hr hgd tk =>
    have hu := hr.units
    have hp : PassesOwn (model P w) (cxOf (L2.CX P w) P w K mg base NHoist_own_key "Hoist.own_key" (defScope stHoist_own_key) (He.ma K (He.ga K "Hoist") "own_key") cdv A outer s H E).A (cxOf (L2.CX P w) P w K mg base NHoist_own_key "Hoist.own_key" (defScope stHoist_own_key) (He.ma K (He.ga K "Hoist") "own_key") cdv A outer s H E).env (cxOf (L2.CX P w) P w K mg base NHoist_own_key "Hoist.own_key" (defScope stHoist_own_key) (He.ma K (He.ga K "Hoist") "own_key") cdv A outer s H E).xe := passes_of rfl
    have nd := scHoist_own_key.nd
    (by exact (pssd_cons (by exact (psd_asg (by exact (ped_ix (by exact (ped_fld TI (by exact (pvd 0)))) (by exact (ped_neg ped_int)))) (by exact (pgd_tup (n := 2) rfl (pgsd_cons (by exact (pgd 1 nd)) (by exact (pgsd_cons (by exact (pgd 2 nd)) pgsd_nil)))))))
    (by exact (pssd_one (by exact (psd_ret (by exact (ped_tup (by exact (pad_cons (by exact (pvd 1)) (by exact (pad_cons (by exact (ped_callB cd_sortI (T.free 23) boot_sorted (by exact (pad_cons (by exact (pvd 2)) pad_nil)))) pad_nil))))))))))))) ?pure (fun _ _ _ _ _ _ us hl => match us, hl with | [_], _ => rfl)
  case len =>
    intro ds S R E h
    (unfold spHoist_own_key at h; obtain ⟨_, _, _, _, _, rfl, _⟩ := h; rfl)
  case pure =>
    intro H ds S R E hS h
    obtain ⟨a, tws, eds, w, t, rfl, ha, hl, h⟩ := h
    have hA : atI (tws.map twD) (-1) = some (twD t) := at_lastD (by rw [List.getLast?_map, hl]; rfl)
    refine open_hob hS ha fun S2 s t0 e na ne g0 g1 g2 g3 go back => ?_
    simp! [sx_, r_fh0 g0 if_Hoist_states, r_fh1 g0 if_Hoist_standing, r_fh2 g0 if_Hoist_watching, r_fh3 g0 if_Hoist_ends, Dl.r_lsR g1, Dl.r_sqR g1, Dl.r_ixR g1, Dl.r_addN g1, Dl.r_addlR g1, Dl.r_lenR g1, Dl.r_slR g1, Dl.r_mR g1, Dl.r_app g1, Dl.r_joinR g1, Dl.r_ilR g1, Dl.r_pop g1, hA, (show ∀ t : Twr, twD t = .tup [.int t.1, .tup (t.2.map .int)] from fun _ => rfl)]
    refine ⟨_, insD_map _, fun ns hp hs => ?_⟩
    try simp! [sx_, true_and]
    exact fin_wk (back S2 tws eds w g0 g1 g2 g3 (fun _ _ _ _ _ => rfl)) (by rw [put_self ha]; exact h ns hp hs)
abbrev NHoist_accept : List Str := ["self", "number"]
theorem scHoist_accept : FnScope NHoist_accept ["self", "number"] (defScope stHoist_accept) := ⟨rfl, rfl, rfl, by decide +kernel, rfl, by decide +kernel, by decide +kernel⟩
def spHoist_accept : SpD := fun ds S R E => ∃ (x y : D), ds = [x, y] ∧ R .non S
theorem calHoist_accept (T : Txt FA K mg) (TX : ExT K EX) (TI : InT K IN) (TS : IsF K IN OW) (TB : ∀ c ∈ BA, bareB K c = true) (TC : conOk K CO = true) (F : ∃ fd, FunD K "accept" "Hoist.accept" (defArgs stHoist_accept) (defBody stHoist_accept) (defScope stHoist_accept) [] [] (He.ma K (He.ga K "Hoist") "accept") fd)  : CalM P w K mg base 1 "Hoist" "accept" ["self", "number"] spHoist_accept := by
  refine calM (k := 0) F scHoist_accept ?len _ (fun cdv A outer s H E hr hgd tk =>
    have hu := hr.units
    have hp : PassesOwn (model P w) (cxOf (L2.CX P w) P w K mg base NHoist_accept "Hoist.accept" (defScope stHoist_accept) (He.ma K (He.ga K "Hoist") "accept") cdv A outer s H E).A (cxOf (L2.CX P w) P w K mg base NHoist_accept "Hoist.accept" (defScope stHoist_accept) (He.ma K (He.ga K "Hoist") "accept") cdv A outer s H E).env (cxOf (L2.CX P w) P w K mg base NHoist_accept "Hoist.accept" (defScope stHoist_accept) (He.ma K (He.ga K "Hoist") "accept") cdv A outer s H E).xe := passes_of rfl
    have nd := scHoist_accept.nd
    (by exact (pssd_one psd_pass))) ?pure (fun _ _ _ _ _ _ us hl => match us, hl with | [_, _], _ => rfl)
  case len =>
    intro ds S R E h
    (unfold spHoist_accept at h; obtain ⟨_, _, rfl, _⟩ := h; rfl)
  case pure =>
    intro ds S R E h
    obtain ⟨x, y, rfl, h⟩ := h
    simp! [sx_, true_and]
    exact fin_same h
abbrev NHoist___len__ : List Str := ["self"]
theorem scHoist___len__ : FnScope NHoist___len__ ["self"] (defScope stHoist___len__) := ⟨rfl, rfl, rfl, by decide +kernel, rfl, by decide +kernel, by decide +kernel⟩
def spHoist___len__ : SpD := fun ds S R E => ∃ (a : Addr) (tws : List Twr) (eds : List Edt) (w : Bool), ds = [.ref a] ∧ S a = some (hob none tws eds w) ∧ R (.int (eds.length : Nat)) S
theorem calHoist___len__ (T : Txt FA K mg) (TX : ExT K EX) (TI : InT K IN) (TS : IsF K IN OW) (TB : ∀ c ∈ BA, bareB K c = true) (TC : conOk K CO = true) (F : ∃ fd, FunD K "__len__" "Hoist.__len__" (defArgs stHoist___len__) (defBody stHoist___len__) (defScope stHoist___len__) [] [] (He.ma K (He.ga K "Hoist") "__len__") fd)  : CalM P w K mg base 1 "Hoist" "__len__" ["self"] spHoist___len__ := by
  refine calMO (k := 0) F scHoist___len__ ?len _ (fun cdv A outer s H E hr hgd tk =>
    have hu := hr.units
    have hp : PassesOwn (model P w) (cxOf (L2.CX P w) P w K mg base NHoist___len__ "Hoist.__len__" (defScope stHoist___len__) (He.ma K (He.ga K "Hoist") "__len__") cdv A outer s H E).A (cxOf (L2.CX P w) P w K mg base NHoist___len__ "Hoist.__len__" (defScope stHoist___len__) (He.ma K (He.ga K "Hoist") "__len__") cdv A outer s H E).env (cxOf (L2.CX P w) P w K mg base NHoist___len__ "Hoist.__len__" (defScope stHoist___len__) (He.ma K (He.ga K "Hoist") "__len__") cdv A outer s H E).xe := passes_of rfl
    have nd := scHoist___len__.nd
    (by exact (pssd_one (by exact (psd_ret (by exact (ped_callB cd_len (T.free 7) boot_len (by exact (pad_cons (by exact (ped_fld TI (by exact (pvd 0)))) pad_nil))))))))) ?pure (fun _ _ _ _ _ _ us hl => match us, hl with | [_], _ => rfl)
  case len =>
    intro ds S R E h
    (unfold spHoist___len__ at h; obtain ⟨_, _, _, _, rfl, _⟩ := h; rfl)
  case pure =>
    intro H ds S R E hS h
    obtain ⟨a, tws, eds, w, rfl, ha, h⟩ := h
    refine open_hob hS ha fun S2 s t0 e na ne g0 g1 g2 g3 go back => ?_
    simp! [sx_, r_fh0 g0 if_Hoist_states, r_fh1 g0 if_Hoist_standing, r_fh2 g0 if_Hoist_watching, r_fh3 g0 if_Hoist_ends, Dl.r_lsR g2, Dl.r_sqR g2, Dl.r_ixR g2, Dl.r_addN g2, Dl.r_addlR g2, Dl.r_lenR g2, Dl.r_slR g2, Dl.r_mR g2, Dl.r_app g2, Dl.r_joinR g2, Dl.r_ilR g2, Dl.r_pop g2, List.length_map]
    exact fin_wk (back S2 tws eds w g0 g1 g2 g3 (fun _ _ _ _ _ => rfl)) (by rw [put_self ha]; exact h)
abbrev NHoist___eq__ : List Str := ["self", "other"]
theorem scHoist___eq__ : FnScope NHoist___eq__ ["self", "other"] (defScope stHoist___eq__) := ⟨rfl, rfl, rfl, by decide +kernel, rfl, by decide +kernel, by decide +kernel⟩
def spHoist___eq__ : SpD := fun ds S R E => ∃ (a c : Addr) (tws us : List Twr) (eds eds2 : List Edt) (w w2 : Bool) (t u : Twr), ds = [.ref a, .ref c] ∧ S a = some (hob none tws eds w) ∧ S c = some (hob none us eds2 w2) ∧ tws.getLast? = some t ∧ us.getLast? = some u ∧ R (.bl (decide (t.1 = u.1 ∧ t.2.isPerm u.2 = true))) S
theorem calHoist___eq__ (T : Txt FA K mg) (TX : ExT K EX) (TI : InT K IN) (TS : IsF K IN OW) (TB : ∀ c ∈ BA, bareB K c = true) (TC : conOk K CO = true) (F : ∃ fd, FunD K "__eq__" "Hoist.__eq__" (defArgs stHoist___eq__) (defBody stHoist___eq__) (defScope stHoist___eq__) [] [] (He.ma K (He.ga K "Hoist") "__eq__") fd) (cHoist_own_key : CalM P w K mg base 1 "Hoist" "own_key" ["self"] spHoist_own_key) : CalM P w K mg base 2 "Hoist" "__eq__" ["self", "other"] spHoist___eq__ := by
  refine calM (k := 1) F scHoist___eq__ ?len _ (fun cdv A outer s H E hr hgd tk =>
    have hu := hr.units
    have hp : PassesOwn (model P w) (cxOf (L2.CX P w) P w K mg base NHoist___eq__ "Hoist.__eq__" (defScope stHoist___eq__) (He.ma K (He.ga K "Hoist") "__eq__") cdv A outer s H E).A (cxOf (L2.CX P w) P w K mg base NHoist___eq__ "Hoist.__eq__" (defScope stHoist___eq__) (He.ma K (He.ga K "Hoist") "__eq__") cdv A outer s H E).env (cxOf (L2.CX P w) P w K mg base NHoist___eq__ "Hoist.__eq__" (defScope stHoist___eq__) (He.ma K (He.ga K "Hoist") "__eq__") cdv A outer s H E).xe := passes_of rfl
    have nd := scHoist___eq__.nd
    (by exact (pssd_one (by exact (psd_ret (by exact (ped_and (by exact (ped_callB (cd_isX TS) (T.free 1) boot_isinstance (by exact (pad_cons (by exact (pvd 1)) (by exact (pad_cons (by exact (ped_gref (T.glo 24))) pad_nil)))))) (by exact (ped_one (by exact (ped_cmp (opd_eq hu) (by exact (ped_meth0 TI (all1 cHoist_own_key) hr hgd tk (by exact (pvd 0)))) (by exact (ped_meth0 TI (all1 cHoist_own_key) hr hgd tk (by exact (pvd 1))))))))))))))) ?pure (fun _ _ _ _ _ _ us hl => match us, hl with | [_, _], _ => rfl)
  case len =>
    intro ds S R E h
    (unfold spHoist___eq__ at h; obtain ⟨_, _, _, _, _, _, _, _, _, _, rfl, _⟩ := h; rfl)
  case pure =>
    intro ds S R E h
    obtain ⟨a, c, tws, us, eds, eds2, w, w2, t, u, rfl, ha, hc, hl, hl2, h⟩ := h
    simp! [sx_, r_isXH hc (show isG IN (hC none) "Hoist" = some true by decide +kernel), r_mtH (xs := IN) (m := "own_key") ha im_Hoist_own_key, r_mtH (xs := IN) (m := "own_key") hc im_Hoist_own_key]
    refine ⟨_, _, _, _, _, rfl, ha, hl, fun ns hp hs => ?_⟩
    try simp! [sx_, r_mtH (xs := IN) (m := "own_key") ha im_Hoist_own_key, r_mtH (xs := IN) (m := "own_key") hc im_Hoist_own_key]
    refine ⟨_, _, _, _, _, rfl, hc, hl2, fun ms hp2 hs2 => ?_⟩
    have e1 : decide (t.1 = u.1 ∧ ns = ms) = decide (t.1 = u.1 ∧ t.2.isPerm u.2 = true) := decide_eq_decide.mpr (by
      rw [sorted_eq hs hs2, List.isPerm_iff]
      exact ⟨fun z => ⟨z.1, hp.symm.trans (z.2.trans hp2)⟩, fun z => ⟨z.1, hp.trans (z.2.trans hp2.symm)⟩⟩)
    try dsimp only
    rw [r_eqKey, e1]
    exact fin_same h
abbrev NHoist_require_idle : List Str := ["self"]
theorem scHoist_require_idle : FnScope NHoist_require_idle ["self"] (defScope stHoist_require_idle) := ⟨rfl, rfl, rfl, by decide +kernel, rfl, by decide +kernel, by decide +kernel⟩
def spHoist_require_idle : SpD := fun ds S R E => ∃ (a : Addr) (tws : List Twr) (eds : List Edt), ds = [.ref a] ∧ S a = some (hob none tws eds false) ∧ R .non S
theorem calHoist_require_idle (T : Txt FA K mg) (TX : ExT K EX) (TI : InT K IN) (TS : IsF K IN OW) (TB : ∀ c ∈ BA, bareB K c = true) (TC : conOk K CO = true) (F : ∃ fd, FunD K "require_idle" "Hoist.require_idle" (defArgs stHoist_require_idle) (defBody stHoist_require_idle) (defScope stHoist_require_idle) [] [] (He.ma K (He.ga K "Hoist") "require_idle") fd)  : CalM P w K mg base 1 "Hoist" "require_idle" ["self"] spHoist_require_idle := by
  refine calMO (k := 0) F scHoist_require_idle ?len _ (fun cdv A outer s H E hr hgd tk =>
    have hu := hr.units
    have hp : PassesOwn (model P w) (cxOf (L2.CX P w) P w K mg base NHoist_require_idle "Hoist.require_idle" (defScope stHoist_require_idle) (He.ma K (He.ga K "Hoist") "require_idle") cdv A outer s H E).A (cxOf (L2.CX P w) P w K mg base NHoist_require_idle "Hoist.require_idle" (defScope stHoist_require_idle) (He.ma K (He.ga K "Hoist") "require_idle") cdv A outer s H E).env (cxOf (L2.CX P w) P w K mg base NHoist_require_idle "Hoist.require_idle" (defScope stHoist_require_idle) (He.ma K (He.ga K "Hoist") "require_idle") cdv A outer s H E).xe := passes_of rfl
    have nd := scHoist_require_idle.nd
    (by exact (pssd_one (by exact (psd_if (by exact (ptd_truth (by exact (ped_fld TI (by exact (pvd 0)))))) (by exact (pssd_one psd_dead)) pssd_nil))))) ?pure (fun _ _ _ _ _ _ us hl => match us, hl with | [_], _ => rfl)
  case len =>
    intro ds S R E h
    (unfold spHoist_require_idle at h; obtain ⟨_, _, _, rfl, _⟩ := h; rfl)
  case pure =>
    intro H ds S R E hS h
    obtain ⟨a, tws, eds, rfl, ha, h⟩ := h
    refine open_hob hS ha fun S2 s t0 e na ne g0 g1 g2 g3 go back => ?_
    simp! [sx_, r_fh0 g0 if_Hoist_states, r_fh1 g0 if_Hoist_standing, r_fh2 g0 if_Hoist_watching, r_fh3 g0 if_Hoist_ends, if_false]
    exact fin_wk (back S2 tws eds false g0 g1 g2 g3 (fun _ _ _ _ _ => rfl)) (by rw [put_self ha]; exact h)
abbrev NHoist_state_after : List Str := ["self", "edit", "excess", "weights", "word", "value", "rest"]
theorem scHoist_state_after : FnScope NHoist_state_after ["self", "edit"] (defScope stHoist_state_after) := ⟨rfl, rfl, rfl, by decide +kernel, rfl, by decide +kernel, by decide +kernel⟩
def spHoist_state_after : SpD := fun ds S R E => ∃ (a : Addr) (tws : List Twr) (eds : List Edt) (w : Bool) (t : Twr) (ed : Edt), ds = [.ref a, edD ed] ∧ S a = some (hob none tws eds w) ∧ tws.getLast? = some t ∧ Tw t ∧ edOk t ed ∧ R (twD (after t ed)) S
theorem calHoist_state_after (T : Txt FA K mg) (TX : ExT K EX) (TI : InT K IN) (TS : IsF K IN OW) (TB : ∀ c ∈ BA, bareB K c = true) (TC : conOk K CO = true) (F : ∃ fd, FunD K "state_after" "Hoist.state_after" (defArgs stHoist_state_after) (defBody stHoist_state_after) (defScope stHoist_state_after) [] [] (He.ma K (He.ga K "Hoist") "state_after") fd) (cwith_person : Cal P w K mg base 2 "with_person" ["weights", "weight"] spwith_person) (cwithout_person : Cal P w K mg base 2 "without_person" ["weights", "person"] spwithout_person) (cwith_weight : Cal P w K mg base 2 "with_weight" ["weights", "person", "weight"] spwith_weight) (cis_within : Cal P w K mg base 1 "is_within" ["value", "low", "high"] spis_within) : CalM P w K mg base 3 "Hoist" "state_after" ["self", "edit"] spHoist_state_after := by
  refine calMO (k := 2) F scHoist_state_after ?len _ (fun cdv A outer s H E hr hgd tk =>
    have hu := hr.units
    have hp : PassesOwn (model P w) (cxOf (L2.CX P w) P w K mg base NHoist_state_after "Hoist.state_after" (defScope stHoist_state_after) (He.ma K (He.ga K "Hoist") "state_after") cdv A outer s H E).A (cxOf (L2.CX P w) P w K mg base NHoist_state_after "Hoist.state_after" (defScope stHoist_state_after) (He.ma K (He.ga K "Hoist") "state_after") cdv A outer s H E).env (cxOf (L2.CX P w) P w K mg base NHoist_state_after "Hoist.state_after" (defScope stHoist_state_after) (He.ma K (He.ga K "Hoist") "state_after") cdv A outer s H E).xe := passes_of rfl
    have nd := scHoist_state_after.nd
    (by exact (pssd_cons (by exact (psd_asg (by exact (ped_ix (by exact (ped_fld TI (by exact (pvd 0)))) (by exact (ped_neg ped_int)))) (by exact (pgd_tup (n := 2) rfl (pgsd_cons (by exact (pgd 2 nd)) (by exact (pgsd_cons (by exact (pgd 3 nd)) pgsd_nil)))))))
    (by exact (pssd_cons (by exact (psd_asg (by exact (pvd 1)) (by exact (pgd_star (i := 2) rfl (by exact (pgsd_cons (by exact (pgd 4 nd)) (by exact (pgsd_cons (by exact (pgd 5 nd)) (by exact (pgsd_star (by exact (pgd 6 nd))))))))))))
    (by exact (pssd_cons (by exact (psd_match (by exact (pvd 4)) (by exact (pmc_val hu ped_str (by exact (pssd_one (by exact (psd_set 3 nd (by exact (ped_callC cwith_person hr hgd tk (by exact (pad_cons (by exact (pvd 3)) (by exact (pad_cons (by exact (pvd 5)) pad_nil)))))))))) (by exact (pmc_val hu ped_str (by exact (pssd_one (by exact (psd_set 3 nd (by exact (ped_callC cwithout_person hr hgd tk (by exact (pad_cons (by exact (pvd 3)) (by exact (pad_cons (by exact (pvd 5)) pad_nil)))))))))) (by exact (pmc_val hu ped_str (by exact (pssd_one (by exact (psd_set 3 nd (by exact (ped_callC cwith_weight hr hgd tk (by exact (pad_cons (by exact (pvd 3)) (by exact (pad_cons (by exact (pvd 5)) (by exact (pad_cons (by exact (ped_ix (by exact (pvd 6)) ped_int)) pad_nil)))))))))))) (by exact (pmc_wild (by exact (pssd_cons (by exact (psd_if (by exact (ptd_not (by exact (ptd_truth (by exact (ped_callC cis_within hr hgd tk (by exact (pad_cons (by exact (pvd 5)) (by exact (pad_cons ped_int (by exact (pad_cons (by exact (ped_gint (T.int 4))) pad_nil)))))))))))) (by exact (pssd_one psd_dead)) pssd_nil))
    (by exact (pssd_one (by exact (psd_set 2 nd (by exact (pvd 5))))))))))))))))))
    (by exact (pssd_one (by exact (psd_ret (by exact (ped_tup (by exact (pad_cons (by exact (pvd 2)) (by exact (pad_cons (by exact (pvd 3)) pad_nil))))))))))))))))) ?pure (fun _ _ _ _ _ _ us hl => match us, hl with | [_, _], _ => rfl)
  case len =>
    intro ds S R E h
    (unfold spHoist_state_after at h; obtain ⟨_, _, _, _, _, _, rfl, _⟩ := h; rfl)
  case pure =>
    intro H ds S R E hS h
    obtain ⟨a, tws, eds, w, t, ed, rfl, ha, hl, ht, hk, h⟩ := h
    have hn := ht.n
    have hA : atI (tws.map twD) (-1) = some (twD t) := at_lastD (by rw [List.getLast?_map, hl]; rfl)
    refine open_hob hS ha fun S2 s t0 e na ne g0 g1 g2 g3 go back => ?_
    have fin := fin_wk (back S2 tws eds w g0 g1 g2 g3 (fun _ _ _ _ _ => rfl)) (by rw [put_self ha]; exact h)
    clear h
    cases ed with
    | come x =>
      have eD : edD (.come x) = .tup [.str "come", .int x] := rfl
      simp! [sx_, r_fh0 g0 if_Hoist_states, r_fh1 g0 if_Hoist_standing, r_fh2 g0 if_Hoist_watching, r_fh3 g0 if_Hoist_ends, Dl.r_lsR g1, Dl.r_sqR g1, Dl.r_ixR g1, Dl.r_addN g1, Dl.r_addlR g1, Dl.r_lenR g1, Dl.r_slR g1, Dl.r_mR g1, Dl.r_app g1, Dl.r_joinR g1, Dl.r_ilR g1, Dl.r_pop g1, hA, (show ∀ t : Twr, twD t = .tup [.int t.1, .tup (t.2.map .int)] from fun _ => rfl), eD, List.take_succ_cons, List.take_zero, List.drop_succ_cons, List.drop_zero, List.drop_nil, List.nil_append, r_litT (x := "come") (by decide)]
      try simp! [sx_, r_litT (x := "come") (by decide)]
      refine ⟨t.2, x, rfl, hk.1, hk.2, ?_⟩
      try simp! [sx_, true_and]
      exact fin
    | leave p =>
      have eD : edD (.leave p) = .tup [.str "leave", .int p] := rfl
      simp! [sx_, r_fh0 g0 if_Hoist_states, r_fh1 g0 if_Hoist_standing, r_fh2 g0 if_Hoist_watching, r_fh3 g0 if_Hoist_ends, Dl.r_lsR g1, Dl.r_sqR g1, Dl.r_ixR g1, Dl.r_addN g1, Dl.r_addlR g1, Dl.r_lenR g1, Dl.r_slR g1, Dl.r_mR g1, Dl.r_app g1, Dl.r_joinR g1, Dl.r_ilR g1, Dl.r_pop g1, hA, (show ∀ t : Twr, twD t = .tup [.int t.1, .tup (t.2.map .int)] from fun _ => rfl), eD, List.take_succ_cons, List.take_zero, List.drop_succ_cons, List.drop_zero, List.drop_nil, List.nil_append]
      try simp! [sx_, r_litT (x := "leave") (by decide), r_litF (x := "leave") (y := "come") (by decide) (by decide) (by decide)]
      refine ⟨t.2, p, rfl, hk, hn, ?_⟩
      try simp! [sx_, true_and]
      exact fin
    | weigh p x =>
      have eD : edD (.weigh p x) = .tup [.str "weigh", .int p, .int x] := rfl
      simp! [sx_, r_fh0 g0 if_Hoist_states, r_fh1 g0 if_Hoist_standing, r_fh2 g0 if_Hoist_watching, r_fh3 g0 if_Hoist_ends, Dl.r_lsR g1, Dl.r_sqR g1, Dl.r_ixR g1, Dl.r_addN g1, Dl.r_addlR g1, Dl.r_lenR g1, Dl.r_slR g1, Dl.r_mR g1, Dl.r_app g1, Dl.r_joinR g1, Dl.r_ilR g1, Dl.r_pop g1, hA, (show ∀ t : Twr, twD t = .tup [.int t.1, .tup (t.2.map .int)] from fun _ => rfl), eD, List.take_succ_cons, List.take_zero, List.drop_succ_cons, List.drop_zero, List.drop_nil, List.nil_append]
      try simp! [sx_, r_litT (x := "weigh") (by decide), r_litF (x := "weigh") (y := "come") (by decide) (by decide) (by decide), r_litF (x := "weigh") (y := "leave") (by decide) (by decide) (by decide)]
      refine ⟨t.2, p, x, rfl, hk.1, hk.2, hn, ?_⟩
      try simp! [sx_, true_and]
      exact fin
    | loosen x =>
      have eD : edD (.loosen x) = .tup [.str "loosen", .int x] := rfl
      have h1 : wi (.int x) 1 1000000 = true := decide_eq_true hk
      simp! [sx_, r_fh0 g0 if_Hoist_states, r_fh1 g0 if_Hoist_standing, r_fh2 g0 if_Hoist_watching, r_fh3 g0 if_Hoist_ends, Dl.r_lsR g1, Dl.r_sqR g1, Dl.r_ixR g1, Dl.r_addN g1, Dl.r_addlR g1, Dl.r_lenR g1, Dl.r_slR g1, Dl.r_mR g1, Dl.r_app g1, Dl.r_joinR g1, Dl.r_ilR g1, Dl.r_pop g1, hA, (show ∀ t : Twr, twD t = .tup [.int t.1, .tup (t.2.map .int)] from fun _ => rfl), eD, List.take_succ_cons, List.take_zero, List.drop_succ_cons, List.drop_zero, List.drop_nil, List.nil_append]
      try simp! [sx_, r_litF (x := "loosen") (y := "weigh") (by decide) (by decide) (by decide), r_litF (x := "loosen") (y := "come") (by decide) (by decide) (by decide), r_litF (x := "loosen") (y := "leave") (by decide) (by decide) (by decide)]
      refine ⟨.int x, _, _, rfl, rfl, ?_⟩
      simp! [sx_, h1, Bool.not_true, if_false]
      exact fin
abbrev NHoist_perform : List Str := ["self", "edit", "tower", "reach"]
theorem scHoist_perform : FnScope NHoist_perform ["self", "edit"] (defScope stHoist_perform) := ⟨rfl, rfl, rfl, by decide +kernel, rfl, by decide +kernel, by decide +kernel⟩
def spHoist_perform : SpD := fun ds S R E => ∃ (a : Addr) (tws : List Twr) (eds : List Edt) (w : Bool) (t : Twr) (ed : Edt), ds = [.ref a, edD ed] ∧ S a = some (hob none tws eds w) ∧ tws.length = eds.length + 1 ∧ tws.getLast? = some t ∧ Tw t ∧ edOk t ed ∧ eds.length < 60 ∧ R (.int ((eds.length + 1 : Nat) : Int)) (put S a (hob none (tws ++ [after t ed]) (eds ++ [ed]) w))
theorem calHoist_perform (T : Txt FA K mg) (TX : ExT K EX) (TI : InT K IN) (TS : IsF K IN OW) (TB : ∀ c ∈ BA, bareB K c = true) (TC : conOk K CO = true) (F : ∃ fd, FunD K "perform" "Hoist.perform" (defArgs stHoist_perform) (defBody stHoist_perform) (defScope stHoist_perform) [] [] (He.ma K (He.ga K "Hoist") "perform") fd) (cHoist_state_after : CalM P w K mg base 3 "Hoist" "state_after" ["self", "edit"] spHoist_state_after) (creach_weight : Cal P w K mg base 3 "reach_weight" ["tower"] spreach_weight) (cHoist_accept : CalM P w K mg base 1 "Hoist" "accept" ["self", "number"] spHoist_accept) (cstuck_person : Cal P w K mg base 2 "stuck_person" ["tower"] spstuck_person) : CalM P w K mg base 4 "Hoist" "perform" ["self", "edit"] spHoist_perform := by
  refine calMO (k := 3) F scHoist_perform ?len _ (fun cdv A outer s H E hr hgd tk =>
    have hu := hr.units
    have hp : PassesOwn (model P w) (cxOf (L2.CX P w) P w K mg base NHoist_perform "Hoist.perform" (defScope stHoist_perform) (He.ma K (He.ga K "Hoist") "perform") cdv A outer s H E).A (cxOf (L2.CX P w) P w K mg base NHoist_perform "Hoist.perform" (defScope stHoist_perform) (He.ma K (He.ga K "Hoist") "perform") cdv A outer s H E).env (cxOf (L2.CX P w) P w K mg base NHoist_perform "Hoist.perform" (defScope stHoist_perform) (He.ma K (He.ga K "Hoist") "perform") cdv A outer s H E).xe := passes_of rfl
    have nd := scHoist_perform.nd
    (by exact (pssd_cons (by exact (psd_if (by exact (ptd_cmp opd_ge (by exact (ped_callB cd_len (T.free 7) boot_len (by exact (pad_cons (by exact (ped_fld TI (by exact (pvd 0)))) pad_nil)))) (by exact (ped_gint (T.int 25))))) (by exact (pssd_one psd_dead)) pssd_nil))
    (by exact (pssd_cons (by exact (psd_open (Kx := K) rfl (by exact (psd_set 2 nd (by exact (ped_meth TI (all1 cHoist_state_after) hr hgd tk (by exact (pvd 0)) (by exact (pad_cons (by exact (pvd 1)) pad_nil))))))))
    (by exact (pssd_cons (by exact (psd_set 3 nd (by exact (ped_callC creach_weight hr hgd tk (by exact (pad_cons (by exact (pvd 2)) pad_nil))))))
    (by exact (pssd_cons (by exact (psd_expr (by exact (ped_meth TI (all1 cHoist_accept) hr hgd tk (by exact (pvd 0)) (by exact (pad_cons (by exact (pvd 3)) pad_nil))))))
    (by exact (pssd_cons (by exact (psd_open (Kx := K) rfl (by exact (psd_expr (by exact (ped_m PySem.F.plainAttrs_list PySem.F.slot_list_append PySem.F.type_list_append md_append (by exact (ped_fld TI (by exact (pvd 0)))) (by exact (pad_cons (by exact (pvd 2)) pad_nil))))))))
    (by exact (pssd_cons (by exact (psd_expr (by exact (ped_m PySem.F.plainAttrs_list PySem.F.slot_list_append PySem.F.type_list_append md_append (by exact (ped_fld TI (by exact (pvd 0)))) (by exact (pad_cons (by exact (ped_tup (by exact (pad_cons (by exact (pvd 3)) (by exact (pad_cons (by exact (ped_isN (by exact (ped_callC cstuck_person hr hgd tk (by exact (pad_cons (by exact (pvd 2)) pad_nil)))))) pad_nil)))))) pad_nil))))))
    (by exact (pssd_cons (by exact (psd_expr (by exact (ped_m PySem.F.plainAttrs_list PySem.F.slot_list_append PySem.F.type_list_append md_append (by exact (ped_fld TI (by exact (pvd 0)))) (by exact (pad_cons (by exact (pvd 1)) pad_nil))))))
    (by exact (pssd_one (by exact (psd_ret (by exact (ped_callB cd_len (T.free 7) boot_len (by exact (pad_cons (by exact (ped_fld TI (by exact (pvd 0)))) pad_nil))))))))))))))))))))))) ?pure (fun _ _ _ _ _ _ us hl => match us, hl with | [_, _], _ => rfl)
  case len =>
    intro ds S R E h
    (unfold spHoist_perform at h; obtain ⟨_, _, _, _, _, _, rfl, _⟩ := h; rfl)
  case pure =>
    intro H ds S R E hS h
    obtain ⟨a, tws, eds, w, t, ed, rfl, ha, hlen, hl, ht, hk, hn, h⟩ := h
    have sl : (100000 : Nat) ≤ sizeLine := by decide
    have h60 : ¬ (60 : Int) ≤ (eds.length : Int) := by omega
    refine open_hob hS ha fun S2 s t0 e na ne g0 g1 g2 g3 go back => ?_
    simp! [sx_, r_fh0 g0 if_Hoist_states, r_fh1 g0 if_Hoist_standing, r_fh2 g0 if_Hoist_watching, r_fh3 g0 if_Hoist_ends, Dl.r_lsR g2, Dl.r_sqR g2, Dl.r_ixR g2, Dl.r_addN g2, Dl.r_addlR g2, Dl.r_lenR g2, Dl.r_slR g2, Dl.r_mR g2, Dl.r_app g2, Dl.r_joinR g2, Dl.r_ilR g2, Dl.r_pop g2, List.length_map, h60, if_false]
    intro H1 h1
    refine ⟨put S a (hob none tws eds w), (back S2 tws eds w g0 g1 g2 g3 (fun _ _ _ _ _ => rfl)).1 H1 h1, (back S2 tws eds w g0 g1 g2 g3 (fun _ _ _ _ _ => rfl)).2, ?_⟩
    rw [put_self ha]
    try simp! [sx_, r_mtH (xs := IN) (m := "state_after") ha im_Hoist_state_after]
    refine ⟨_, _, _, _, t, ed, rfl, ha, hl, ht, hk, ?_⟩
    try simp! [sx_, r_mtH (xs := IN) (m := "accept") ha im_Hoist_accept]
    refine ⟨after t ed, rfl, ht.after hk, ?_⟩
    try simp! [sx_, r_mtH (xs := IN) (m := "accept") ha im_Hoist_accept]
    refine ⟨_, _, rfl, ?_⟩
    try simp! [sx_, true_and]
    intro H2 h2
    clear H1 h1 g0 g1 g2 g3 go back na ne S2 s t0 e
    refine open_hob h2 ha fun S3 s t0 e na ne k0 k1 k2 k3 ko back => ?_
    try simp! [sx_, r_fh0 k0 if_Hoist_states, r_fh1 k0 if_Hoist_standing, r_fh2 k0 if_Hoist_watching, r_fh3 k0 if_Hoist_ends, Dl.r_lsR k1, Dl.r_sqR k1, Dl.r_ixR k1, Dl.r_addN k1, Dl.r_addlR k1, Dl.r_lenR k1, Dl.r_slR k1, Dl.r_mR k1, Dl.r_app k1, Dl.r_joinR k1, Dl.r_ilR k1, Dl.r_pop k1]
    refine ⟨by rw [List.length_map]; omega, ?_⟩
    generalize e4 : put S3 s (.lst (tws.map twD ++ [twD (after t ed)])) = S4
    have k40 : S4 a = some (hin none (.ref s) (.ref t0) (.bl w) (.ref e)) := by rw [← e4, put_ne (Ne.symm na.1)]; exact k0
    have k43 : S4 e = some (.lst (tws.map endD)) := by rw [← e4, put_ne (Ne.symm ne.2.1)]; exact k3
    try simp! [sx_, r_fh0 k40 if_Hoist_states, r_fh1 k40 if_Hoist_standing, r_fh2 k40 if_Hoist_watching, r_fh3 k40 if_Hoist_ends, Dl.r_lsR k43, Dl.r_sqR k43, Dl.r_ixR k43, Dl.r_addN k43, Dl.r_addlR k43, Dl.r_lenR k43, Dl.r_slR k43, Dl.r_mR k43, Dl.r_app k43, Dl.r_joinR k43, Dl.r_ilR k43, Dl.r_pop k43]
    refine ⟨after t ed, rfl, ht.after hk, ?_⟩
    try simp! [sx_, Dl.r_lsR k43, Dl.r_sqR k43, Dl.r_ixR k43, Dl.r_addN k43, Dl.r_addlR k43, Dl.r_lenR k43, Dl.r_slR k43, Dl.r_mR k43, Dl.r_app k43, Dl.r_joinR k43, Dl.r_ilR k43, Dl.r_pop k43]
    refine ⟨by rw [List.length_map]; omega, ?_⟩
    generalize e5 : put S4 e (.lst (tws.map endD ++ [.tup [.int (reachW (after t ed)), .bl (isNon (stD (after t ed)))]])) = S5
    have k50 : S5 a = some (hin none (.ref s) (.ref t0) (.bl w) (.ref e)) := by rw [← e5, put_ne (Ne.symm na.2.2)]; exact k40
    have k52 : S5 t0 = some (.lst (eds.map edD)) := by rw [← e5, put_ne ne.2.2, ← e4, put_ne (Ne.symm ne.1)]; exact k2
    try simp! [sx_, r_fh0 k50 if_Hoist_states, r_fh1 k50 if_Hoist_standing, r_fh2 k50 if_Hoist_watching, r_fh3 k50 if_Hoist_ends, Dl.r_lsR k52, Dl.r_sqR k52, Dl.r_ixR k52, Dl.r_addN k52, Dl.r_addlR k52, Dl.r_lenR k52, Dl.r_slR k52, Dl.r_mR k52, Dl.r_app k52, Dl.r_joinR k52, Dl.r_ilR k52, Dl.r_pop k52]
    refine ⟨by rw [List.length_map]; omega, ?_⟩
    have k60 : put S5 t0 (.lst (eds.map edD ++ [edD ed])) a = some (hin none (.ref s) (.ref t0) (.bl w) (.ref e)) := by rw [put_ne (Ne.symm na.2.1)]; exact k50
    try simp! [sx_, r_fh0 k60 if_Hoist_states, r_fh1 k60 if_Hoist_standing, r_fh2 k60 if_Hoist_watching, r_fh3 k60 if_Hoist_ends, Dl.r_lsR put_same, Dl.r_sqR put_same, Dl.r_ixR put_same, Dl.r_addN put_same, Dl.r_addlR put_same, Dl.r_lenR put_same, Dl.r_slR put_same, Dl.r_mR put_same, Dl.r_app put_same, Dl.r_joinR put_same, Dl.r_ilR put_same, Dl.r_pop put_same, List.length_append, List.length_map]
    refine fin_wk (back _ (tws ++ [after t ed]) (eds ++ [ed]) w k60 ?_ ?_ ?_ ?_) h
    · rw [put_ne ne.1, ← e5, put_ne ne.2.1, ← e4, put_same, List.map_append]; rfl
    · rw [put_same, List.map_append]; rfl
    · rw [put_ne (Ne.symm ne.2.2), ← e5, put_same, List.map_append]; rfl
    · intro x h1 h2 h3 h4
      rw [put_ne h3, ← e5, put_ne h4, ← e4, put_ne h2]
abbrev NHoist_come : List Str := ["self", "weight"]
theorem scHoist_come : FnScope NHoist_come ["self", "weight"] (defScope stHoist_come) := ⟨rfl, rfl, rfl, by decide +kernel, rfl, by decide +kernel, by decide +kernel⟩
def spHoist_come : SpD := fun ds S R E => ∃ (a : Addr) (tws : List Twr) (eds : List Edt) (t : Twr) (x : Int), ds = [.ref a, .int x] ∧ S a = some (hob none tws eds false) ∧ tws.length = eds.length + 1 ∧ tws.getLast? = some t ∧ Tw t ∧ edOk t (.come x) ∧ eds.length < 60 ∧ R (.int ((eds.length + 1 : Nat) : Int)) (put S a (hob none (tws ++ [after t (.come x)]) (eds ++ [.come x]) false))
theorem calHoist_come (T : Txt FA K mg) (TX : ExT K EX) (TI : InT K IN) (TS : IsF K IN OW) (TB : ∀ c ∈ BA, bareB K c = true) (TC : conOk K CO = true) (F : ∃ fd, FunD K "come" "Hoist.come" (defArgs stHoist_come) (defBody stHoist_come) (defScope stHoist_come) [] [] (He.ma K (He.ga K "Hoist") "come") fd) (cHoist_require_idle : CalM P w K mg base 1 "Hoist" "require_idle" ["self"] spHoist_require_idle) (cHoist_perform : CalM P w K mg base 4 "Hoist" "perform" ["self", "edit"] spHoist_perform) : CalM P w K mg base 5 "Hoist" "come" ["self", "weight"] spHoist_come := by
  refine calM (k := 4) F scHoist_come ?len _ (fun cdv A outer s H E hr hgd tk =>
    have hu := hr.units
    have hp : PassesOwn (model P w) (cxOf (L2.CX P w) P w K mg base NHoist_come "Hoist.come" (defScope stHoist_come) (He.ma K (He.ga K "Hoist") "come") cdv A outer s H E).A (cxOf (L2.CX P w) P w K mg base NHoist_come "Hoist.come" (defScope stHoist_come) (He.ma K (He.ga K "Hoist") "come") cdv A outer s H E).env (cxOf (L2.CX P w) P w K mg base NHoist_come "Hoist.come" (defScope stHoist_come) (He.ma K (He.ga K "Hoist") "come") cdv A outer s H E).xe := passes_of rfl
    have nd := scHoist_come.nd
    (by exact (pssd_cons (by exact (psd_expr (by exact (ped_meth0 TI (all1 cHoist_require_idle) hr hgd tk (by exact (pvd 0))))))
    (by exact (pssd_one (by exact (psd_ret (by exact (ped_meth TI (all1 cHoist_perform) hr hgd tk (by exact (pvd 0)) (by exact (pad_cons (by exact (ped_tup (by exact (pad_cons ped_str (by exact (pad_cons (by exact (pvd 1)) pad_nil)))))) pad_nil))))))))))) ?pure (fun _ _ _ _ _ _ us hl => match us, hl with | [_, _], _ => rfl)
  case len =>
    intro ds S R E h
    (unfold spHoist_come at h; obtain ⟨_, _, _, _, _, rfl, _⟩ := h; rfl)
  case pure =>
    intro ds S R E h
    obtain ⟨a, tws, eds, t, x, rfl, ha, hlen, hl, ht, hk, hn, h⟩ := h
    simp! [sx_, r_mtH (xs := IN) (m := "require_idle") ha im_Hoist_require_idle, r_mtH (xs := IN) (m := "perform") ha im_Hoist_perform]
    refine ⟨_, _, _, rfl, ha, ?_⟩
    try simp! [sx_, r_mtH (xs := IN) (m := "require_idle") ha im_Hoist_require_idle, r_mtH (xs := IN) (m := "perform") ha im_Hoist_perform]
    refine ⟨_, _, _, _, t, .come x, rfl, ha, hlen, hl, ht, hk, hn, ?_⟩
    exact fin_same h
abbrev NHoist_leave : List Str := ["self", "person"]
theorem scHoist_leave : FnScope NHoist_leave ["self", "person"] (defScope stHoist_leave) := ⟨rfl, rfl, rfl, by decide +kernel, rfl, by decide +kernel, by decide +kernel⟩
def spHoist_leave : SpD := fun ds S R E => ∃ (a : Addr) (tws : List Twr) (eds : List Edt) (t : Twr) (p : Int), ds = [.ref a, .int p] ∧ S a = some (hob none tws eds false) ∧ tws.length = eds.length + 1 ∧ tws.getLast? = some t ∧ Tw t ∧ edOk t (.leave p) ∧ eds.length < 60 ∧ R (.int ((eds.length + 1 : Nat) : Int)) (put S a (hob none (tws ++ [after t (.leave p)]) (eds ++ [.leave p]) false))
theorem calHoist_leave (T : Txt FA K mg) (TX : ExT K EX) (TI : InT K IN) (TS : IsF K IN OW) (TB : ∀ c ∈ BA, bareB K c = true) (TC : conOk K CO = true) (F : ∃ fd, FunD K "leave" "Hoist.leave" (defArgs stHoist_leave) (defBody stHoist_leave) (defScope stHoist_leave) [] [] (He.ma K (He.ga K "Hoist") "leave") fd) (cHoist_require_idle : CalM P w K mg base 1 "Hoist" "require_idle" ["self"] spHoist_require_idle) (cHoist_perform : CalM P w K mg base 4 "Hoist" "perform" ["self", "edit"] spHoist_perform) : CalM P w K mg base 5 "Hoist" "leave" ["self", "person"] spHoist_leave := by
  refine calM (k := 4) F scHoist_leave ?len _ (fun cdv A outer s H E hr hgd tk =>
    have hu := hr.units
    have hp : PassesOwn (model P w) (cxOf (L2.CX P w) P w K mg base NHoist_leave "Hoist.leave" (defScope stHoist_leave) (He.ma K (He.ga K "Hoist") "leave") cdv A outer s H E).A (cxOf (L2.CX P w) P w K mg base NHoist_leave "Hoist.leave" (defScope stHoist_leave) (He.ma K (He.ga K "Hoist") "leave") cdv A outer s H E).env (cxOf (L2.CX P w) P w K mg base NHoist_leave "Hoist.leave" (defScope stHoist_leave) (He.ma K (He.ga K "Hoist") "leave") cdv A outer s H E).xe := passes_of rfl
    have nd := scHoist_leave.nd
    (by exact (pssd_cons (by exact (psd_expr (by exact (ped_meth0 TI (all1 cHoist_require_idle) hr hgd tk (by exact (pvd 0))))))
    (by exact (pssd_one (by exact (psd_ret (by exact (ped_meth TI (all1 cHoist_perform) hr hgd tk (by exact (pvd 0)) (by exact (pad_cons (by exact (ped_tup (by exact (pad_cons ped_str (by exact (pad_cons (by exact (pvd 1)) pad_nil)))))) pad_nil))))))))))) ?pure (fun _ _ _ _ _ _ us hl => match us, hl with | [_, _], _ => rfl)
  case len =>
    intro ds S R E h
    (unfold spHoist_leave at h; obtain ⟨_, _, _, _, _, rfl, _⟩ := h; rfl)
  case pure =>
    intro ds S R E h
    obtain ⟨a, tws, eds, t, p, rfl, ha, hlen, hl, ht, hk, hn, h⟩ := h
    simp! [sx_, r_mtH (xs := IN) (m := "require_idle") ha im_Hoist_require_idle, r_mtH (xs := IN) (m := "perform") ha im_Hoist_perform]
    refine ⟨_, _, _, rfl, ha, ?_⟩
    try simp! [sx_, r_mtH (xs := IN) (m := "require_idle") ha im_Hoist_require_idle, r_mtH (xs := IN) (m := "perform") ha im_Hoist_perform]
    refine ⟨_, _, _, _, t, .leave p, rfl, ha, hlen, hl, ht, hk, hn, ?_⟩
    exact fin_same h
abbrev NHoist_weigh : List Str := ["self", "person", "weight"]
theorem scHoist_weigh : FnScope NHoist_weigh ["self", "person", "weight"] (defScope stHoist_weigh) := ⟨rfl, rfl, rfl, by decide +kernel, rfl, by decide +kernel, by decide +kernel⟩
def spHoist_weigh : SpD := fun ds S R E => ∃ (a : Addr) (tws : List Twr) (eds : List Edt) (t : Twr) (p x : Int), ds = [.ref a, .int p, .int x] ∧ S a = some (hob none tws eds false) ∧ tws.length = eds.length + 1 ∧ tws.getLast? = some t ∧ Tw t ∧ edOk t (.weigh p x) ∧ eds.length < 60 ∧ R (.int ((eds.length + 1 : Nat) : Int)) (put S a (hob none (tws ++ [after t (.weigh p x)]) (eds ++ [.weigh p x]) false))
theorem calHoist_weigh (T : Txt FA K mg) (TX : ExT K EX) (TI : InT K IN) (TS : IsF K IN OW) (TB : ∀ c ∈ BA, bareB K c = true) (TC : conOk K CO = true) (F : ∃ fd, FunD K "weigh" "Hoist.weigh" (defArgs stHoist_weigh) (defBody stHoist_weigh) (defScope stHoist_weigh) [] [] (He.ma K (He.ga K "Hoist") "weigh") fd) (cHoist_require_idle : CalM P w K mg base 1 "Hoist" "require_idle" ["self"] spHoist_require_idle) (cHoist_perform : CalM P w K mg base 4 "Hoist" "perform" ["self", "edit"] spHoist_perform) : CalM P w K mg base 5 "Hoist" "weigh" ["self", "person", "weight"] spHoist_weigh := by
  refine calM (k := 4) F scHoist_weigh ?len _ (fun cdv A outer s H E hr hgd tk =>
    have hu := hr.units
    have hp : PassesOwn (model P w) (cxOf (L2.CX P w) P w K mg base NHoist_weigh "Hoist.weigh" (defScope stHoist_weigh) (He.ma K (He.ga K "Hoist") "weigh") cdv A outer s H E).A (cxOf (L2.CX P w) P w K mg base NHoist_weigh "Hoist.weigh" (defScope stHoist_weigh) (He.ma K (He.ga K "Hoist") "weigh") cdv A outer s H E).env (cxOf (L2.CX P w) P w K mg base NHoist_weigh "Hoist.weigh" (defScope stHoist_weigh) (He.ma K (He.ga K "Hoist") "weigh") cdv A outer s H E).xe := passes_of rfl
    have nd := scHoist_weigh.nd
    (by exact (pssd_cons (by exact (psd_expr (by exact (ped_meth0 TI (all1 cHoist_require_idle) hr hgd tk (by exact (pvd 0))))))
    (by exact (pssd_one (by exact (psd_ret (by exact (ped_meth TI (all1 cHoist_perform) hr hgd tk (by exact (pvd 0)) (by exact (pad_cons (by exact (ped_tup (by exact (pad_cons ped_str (by exact (pad_cons (by exact (pvd 1)) (by exact (pad_cons (by exact (pvd 2)) pad_nil)))))))) pad_nil))))))))))) ?pure (fun _ _ _ _ _ _ us hl => match us, hl with | [_, _, _], _ => rfl)
  case len =>
    intro ds S R E h
    (unfold spHoist_weigh at h; obtain ⟨_, _, _, _, _, _, rfl, _⟩ := h; rfl)
  case pure =>
    intro ds S R E h
    obtain ⟨a, tws, eds, t, p, x, rfl, ha, hlen, hl, ht, hk, hn, h⟩ := h
    simp! [sx_, r_mtH (xs := IN) (m := "require_idle") ha im_Hoist_require_idle, r_mtH (xs := IN) (m := "perform") ha im_Hoist_perform]
    refine ⟨_, _, _, rfl, ha, ?_⟩
    try simp! [sx_, r_mtH (xs := IN) (m := "require_idle") ha im_Hoist_require_idle, r_mtH (xs := IN) (m := "perform") ha im_Hoist_perform]
    refine ⟨_, _, _, _, t, .weigh p x, rfl, ha, hlen, hl, ht, hk, hn, ?_⟩
    exact fin_same h
abbrev NHoist_loosen : List Str := ["self", "excess"]
theorem scHoist_loosen : FnScope NHoist_loosen ["self", "excess"] (defScope stHoist_loosen) := ⟨rfl, rfl, rfl, by decide +kernel, rfl, by decide +kernel, by decide +kernel⟩
def spHoist_loosen : SpD := fun ds S R E => ∃ (a : Addr) (tws : List Twr) (eds : List Edt) (t : Twr) (x : Int), ds = [.ref a, .int x] ∧ S a = some (hob none tws eds false) ∧ tws.length = eds.length + 1 ∧ tws.getLast? = some t ∧ Tw t ∧ edOk t (.loosen x) ∧ eds.length < 60 ∧ R (.int ((eds.length + 1 : Nat) : Int)) (put S a (hob none (tws ++ [after t (.loosen x)]) (eds ++ [.loosen x]) false))
theorem calHoist_loosen (T : Txt FA K mg) (TX : ExT K EX) (TI : InT K IN) (TS : IsF K IN OW) (TB : ∀ c ∈ BA, bareB K c = true) (TC : conOk K CO = true) (F : ∃ fd, FunD K "loosen" "Hoist.loosen" (defArgs stHoist_loosen) (defBody stHoist_loosen) (defScope stHoist_loosen) [] [] (He.ma K (He.ga K "Hoist") "loosen") fd) (cHoist_require_idle : CalM P w K mg base 1 "Hoist" "require_idle" ["self"] spHoist_require_idle) (cHoist_perform : CalM P w K mg base 4 "Hoist" "perform" ["self", "edit"] spHoist_perform) : CalM P w K mg base 5 "Hoist" "loosen" ["self", "excess"] spHoist_loosen := by
  refine calM (k := 4) F scHoist_loosen ?len _ (fun cdv A outer s H E hr hgd tk =>
    have hu := hr.units
    have hp : PassesOwn (model P w) (cxOf (L2.CX P w) P w K mg base NHoist_loosen "Hoist.loosen" (defScope stHoist_loosen) (He.ma K (He.ga K "Hoist") "loosen") cdv A outer s H E).A (cxOf (L2.CX P w) P w K mg base NHoist_loosen "Hoist.loosen" (defScope stHoist_loosen) (He.ma K (He.ga K "Hoist") "loosen") cdv A outer s H E).env (cxOf (L2.CX P w) P w K mg base NHoist_loosen "Hoist.loosen" (defScope stHoist_loosen) (He.ma K (He.ga K "Hoist") "loosen") cdv A outer s H E).xe := passes_of rfl
    have nd := scHoist_loosen.nd
    (by exact (pssd_cons (by exact (psd_expr (by exact (ped_meth0 TI (all1 cHoist_require_idle) hr hgd tk (by exact (pvd 0))))))
    (by exact (pssd_one (by exact (psd_ret (by exact (ped_meth TI (all1 cHoist_perform) hr hgd tk (by exact (pvd 0)) (by exact (pad_cons (by exact (ped_tup (by exact (pad_cons ped_str (by exact (pad_cons (by exact (pvd 1)) pad_nil)))))) pad_nil))))))))))) ?pure (fun _ _ _ _ _ _ us hl => match us, hl with | [_, _], _ => rfl)
  case len =>
    intro ds S R E h
    (unfold spHoist_loosen at h; obtain ⟨_, _, _, _, _, rfl, _⟩ := h; rfl)
  case pure =>
    intro ds S R E h
    obtain ⟨a, tws, eds, t, x, rfl, ha, hlen, hl, ht, hk, hn, h⟩ := h
    simp! [sx_, r_mtH (xs := IN) (m := "require_idle") ha im_Hoist_require_idle, r_mtH (xs := IN) (m := "perform") ha im_Hoist_perform]
    refine ⟨_, _, _, rfl, ha, ?_⟩
    try simp! [sx_, r_mtH (xs := IN) (m := "require_idle") ha im_Hoist_require_idle, r_mtH (xs := IN) (m := "perform") ha im_Hoist_perform]
    refine ⟨_, _, _, _, t, .loosen x, rfl, ha, hlen, hl, ht, hk, hn, ?_⟩
    exact fin_same h
abbrev NHoist_undo : List Str := ["self"]
theorem scHoist_undo : FnScope NHoist_undo ["self"] (defScope stHoist_undo) := ⟨rfl, rfl, rfl, by decide +kernel, rfl, by decide +kernel, by decide +kernel⟩
def spHoist_undo : SpD := fun ds S R E => ∃ (a : Addr) (tws : List Twr) (eds : List Edt), ds = [.ref a] ∧ S a = some (hob none tws eds false) ∧ tws.length = eds.length + 1 ∧ (eds = [] → E ⟨"NothingToUndo", [], []⟩ S) ∧ (eds ≠ [] → R (.int ((eds.length - 1 : Nat) : Int)) (put S a (hob none tws.dropLast eds.dropLast false)))
theorem calHoist_undo (T : Txt FA K mg) (TX : ExT K EX) (TI : InT K IN) (TS : IsF K IN OW) (TB : ∀ c ∈ BA, bareB K c = true) (TC : conOk K CO = true) (F : ∃ fd, FunD K "undo" "Hoist.undo" (defArgs stHoist_undo) (defBody stHoist_undo) (defScope stHoist_undo) [] [] (He.ma K (He.ga K "Hoist") "undo") fd) (cHoist_require_idle : CalM P w K mg base 1 "Hoist" "require_idle" ["self"] spHoist_require_idle) : CalM P w K mg base 2 "Hoist" "undo" ["self"] spHoist_undo := by
  refine calM (k := 1) F scHoist_undo ?len _ (fun cdv A outer s H E hr hgd tk =>
    have hu := hr.units
    have hp : PassesOwn (model P w) (cxOf (L2.CX P w) P w K mg base NHoist_undo "Hoist.undo" (defScope stHoist_undo) (He.ma K (He.ga K "Hoist") "undo") cdv A outer s H E).A (cxOf (L2.CX P w) P w K mg base NHoist_undo "Hoist.undo" (defScope stHoist_undo) (He.ma K (He.ga K "Hoist") "undo") cdv A outer s H E).env (cxOf (L2.CX P w) P w K mg base NHoist_undo "Hoist.undo" (defScope stHoist_undo) (He.ma K (He.ga K "Hoist") "undo") cdv A outer s H E).xe := passes_of rfl
    have nd := scHoist_undo.nd
    (by exact (pssd_cons (by exact (psd_expr (by exact (ped_meth0 TI (all1 cHoist_require_idle) hr hgd tk (by exact (pvd 0))))))
    (by exact (pssd_cons (by exact (psd_open (Kx := K) rfl (by exact (psd_if (by exact (ptd_cmp (opd_eq hu) (by exact (ped_callB cd_len (T.free 7) boot_len (by exact (pad_cons (by exact (ped_fld TI (by exact (pvd 0)))) pad_nil)))) ped_int)) (by exact (pssd_one (by exact (psd_raise0 (TB "NothingToUndo" (by decide)) (T.glo 26) tk)))) pssd_nil))))
    (by exact (pssd_cons (by exact (psd_expr (by exact (ped_m0 PySem.F.plainAttrs_list PySem.F.slot_list_pop PySem.F.type_list_pop md_pop (by exact (ped_fld TI (by exact (pvd 0))))))))
    (by exact (pssd_cons (by exact (psd_expr (by exact (ped_m0 PySem.F.plainAttrs_list PySem.F.slot_list_pop PySem.F.type_list_pop md_pop (by exact (ped_fld TI (by exact (pvd 0))))))))
    (by exact (pssd_cons (by exact (psd_expr (by exact (ped_m0 PySem.F.plainAttrs_list PySem.F.slot_list_pop PySem.F.type_list_pop md_pop (by exact (ped_fld TI (by exact (pvd 0))))))))
    (by exact (pssd_one (by exact (psd_ret (by exact (ped_callB cd_len (T.free 7) boot_len (by exact (pad_cons (by exact (ped_fld TI (by exact (pvd 0)))) pad_nil))))))))))))))))))) ?pure (fun _ _ _ _ _ _ us hl => match us, hl with | [_], _ => rfl)
  case len =>
    intro ds S R E h
    (unfold spHoist_undo at h; obtain ⟨_, _, _, rfl, _⟩ := h; rfl)
  case pure =>
    intro ds S R E h
    obtain ⟨a, tws, eds, rfl, ha, hlen, h0e, h⟩ := h
    simp! [sx_, r_mtH (xs := IN) (m := "require_idle") ha im_Hoist_require_idle]
    refine ⟨_, _, _, rfl, ha, ?_⟩
    try simp! [sx_, true_and]
    intro H hS
    refine open_hob hS ha fun S2 s t0 e na ne g0 g1 g2 g3 go back => ?_
    by_cases hne : eds = []
    · subst hne
      try simp! [sx_, r_fh0 g0 if_Hoist_states, r_fh1 g0 if_Hoist_standing, r_fh2 g0 if_Hoist_watching, r_fh3 g0 if_Hoist_ends, Dl.r_lsR g2, Dl.r_sqR g2, Dl.r_ixR g2, Dl.r_addN g2, Dl.r_addlR g2, Dl.r_lenR g2, Dl.r_slR g2, Dl.r_mR g2, Dl.r_app g2, Dl.r_joinR g2, Dl.r_ilR g2, Dl.r_pop g2, List.map_nil, List.length_nil, Int.natCast_zero, eq_self, decide_true, if_true, sRaise0]
      exact ⟨_, back S2 tws [] false g0 g1 g2 g3 (fun _ _ _ _ _ => rfl), by rw [put_self ha]; exact h0e rfl⟩
    have h := h hne
    have hlp : 0 < eds.length := List.length_pos_iff.mpr hne
    have h0 : ¬ (eds.length : Int) = 0 := by omega
    try simp! [sx_, r_fh0 g0 if_Hoist_states, r_fh1 g0 if_Hoist_standing, r_fh2 g0 if_Hoist_watching, r_fh3 g0 if_Hoist_ends, Dl.r_lsR g2, Dl.r_sqR g2, Dl.r_ixR g2, Dl.r_addN g2, Dl.r_addlR g2, Dl.r_lenR g2, Dl.r_slR g2, Dl.r_mR g2, Dl.r_app g2, Dl.r_joinR g2, Dl.r_ilR g2, Dl.r_pop g2, List.length_map, h0, decide_false, if_false]
    obtain ⟨ed, e1⟩ : ∃ x, eds.getLast? = some x := ⟨_, List.getLast?_eq_some_getLast hne⟩
    obtain ⟨t, e2⟩ : ∃ x, tws.getLast? = some x := ⟨_, List.getLast?_eq_some_getLast (fun z => by rw [z] at hlen; cases hlen)⟩
    refine ⟨edD ed, by rw [List.getLast?_map, e1]; rfl, ?_⟩
    generalize e4 : put S2 t0 (.lst (eds.map edD).dropLast) = S4
    have k40 : S4 a = some (hin none (.ref s) (.ref t0) (.bl false) (.ref e)) := by rw [← e4, put_ne (Ne.symm na.2.1)]; exact g0
    have k41 : S4 s = some (.lst (tws.map twD)) := by rw [← e4, put_ne ne.1]; exact g1
    have k43 : S4 e = some (.lst (tws.map endD)) := by rw [← e4, put_ne (Ne.symm ne.2.2)]; exact g3
    try simp! [sx_, r_fh0 k40 if_Hoist_states, r_fh1 k40 if_Hoist_standing, r_fh2 k40 if_Hoist_watching, r_fh3 k40 if_Hoist_ends, Dl.r_lsR k41, Dl.r_sqR k41, Dl.r_ixR k41, Dl.r_addN k41, Dl.r_addlR k41, Dl.r_lenR k41, Dl.r_slR k41, Dl.r_mR k41, Dl.r_app k41, Dl.r_joinR k41, Dl.r_ilR k41, Dl.r_pop k41]
    refine ⟨twD t, by rw [List.getLast?_map, e2]; rfl, ?_⟩
    generalize e5 : put S4 s (.lst (tws.map twD).dropLast) = S5
    have k50 : S5 a = some (hin none (.ref s) (.ref t0) (.bl false) (.ref e)) := by rw [← e5, put_ne (Ne.symm na.1)]; exact k40
    have k53 : S5 e = some (.lst (tws.map endD)) := by rw [← e5, put_ne (Ne.symm ne.2.1)]; exact k43
    try simp! [sx_, r_fh0 k50 if_Hoist_states, r_fh1 k50 if_Hoist_standing, r_fh2 k50 if_Hoist_watching, r_fh3 k50 if_Hoist_ends, Dl.r_lsR k53, Dl.r_sqR k53, Dl.r_ixR k53, Dl.r_addN k53, Dl.r_addlR k53, Dl.r_lenR k53, Dl.r_slR k53, Dl.r_mR k53, Dl.r_app k53, Dl.r_joinR k53, Dl.r_ilR k53, Dl.r_pop k53]
    refine ⟨endD t, by rw [List.getLast?_map, e2]; rfl, ?_⟩
    generalize e6 : put S5 e (.lst (tws.map endD).dropLast) = S6
    have k60 : S6 a = some (hin none (.ref s) (.ref t0) (.bl false) (.ref e)) := by rw [← e6, put_ne (Ne.symm na.2.2)]; exact k50
    have k62 : S6 t0 = some (.lst (eds.map edD).dropLast) := by rw [← e6, put_ne ne.2.2, ← e5, put_ne (Ne.symm ne.1), ← e4, put_same]
    try simp! [sx_, r_fh0 k60 if_Hoist_states, r_fh1 k60 if_Hoist_standing, r_fh2 k60 if_Hoist_watching, r_fh3 k60 if_Hoist_ends, Dl.r_lsR k62, Dl.r_sqR k62, Dl.r_ixR k62, Dl.r_addN k62, Dl.r_addlR k62, Dl.r_lenR k62, Dl.r_slR k62, Dl.r_mR k62, Dl.r_app k62, Dl.r_joinR k62, Dl.r_ilR k62, Dl.r_pop k62, List.length_dropLast, List.length_map]
    refine fin_wk (back _ tws.dropLast eds.dropLast false k60 ?_ ?_ ?_ ?_) h
    · rw [← e6, put_ne ne.2.1, ← e5, put_same, List.map_dropLast]
    · rw [k62, List.map_dropLast]
    · rw [← e6, put_same, List.map_dropLast]
    · intro x h1 h2 h3 h4
      rw [← e6, put_ne h4, ← e5, put_ne h2, ← e4, put_ne h3]
abbrev NHoist_edits : List Str := ["self"]
theorem scHoist_edits : FnScope NHoist_edits ["self"] (defScope stHoist_edits) := ⟨rfl, rfl, rfl, by decide +kernel, rfl, by decide +kernel, by decide +kernel⟩
def spHoist_edits : SpD := fun ds S R E => ∃ (a : Addr) (tws : List Twr) (eds : List Edt) (w : Bool), ds = [.ref a] ∧ S a = some (hob none tws eds w) ∧ eds.length ≤ 1000 ∧ R (.tup (eds.map edD)) S
theorem calHoist_edits (T : Txt FA K mg) (TX : ExT K EX) (TI : InT K IN) (TS : IsF K IN OW) (TB : ∀ c ∈ BA, bareB K c = true) (TC : conOk K CO = true) (F : ∃ fd, FunD K "edits" "Hoist.edits" (defArgs stHoist_edits) (defBody stHoist_edits) (defScope stHoist_edits) [] [] (He.ma K (He.ga K "Hoist") "edits") fd)  : CalM P w K mg base 1 "Hoist" "edits" ["self"] spHoist_edits := by
  refine calMO (k := 0) F scHoist_edits ?len _ (fun cdv A outer s H E hr hgd tk =>
    have hu := hr.units
    have hp : PassesOwn (model P w) (cxOf (L2.CX P w) P w K mg base NHoist_edits "Hoist.edits" (defScope stHoist_edits) (He.ma K (He.ga K "Hoist") "edits") cdv A outer s H E).A (cxOf (L2.CX P w) P w K mg base NHoist_edits "Hoist.edits" (defScope stHoist_edits) (He.ma K (He.ga K "Hoist") "edits") cdv A outer s H E).env (cxOf (L2.CX P w) P w K mg base NHoist_edits "Hoist.edits" (defScope stHoist_edits) (He.ma K (He.ga K "Hoist") "edits") cdv A outer s H E).xe := passes_of rfl
    have nd := scHoist_edits.nd
    (by exact (pssd_one (by exact (psd_ret (by exact (ped_callTy cd_tuple (T.free 9) boot_tuple (by exact (pad_cons (by exact (ped_fld TI (by exact (pvd 0)))) pad_nil))))))))) ?pure (fun _ _ _ _ _ _ us hl => match us, hl with | [_], _ => rfl)
  case len =>
    intro ds S R E h
    (unfold spHoist_edits at h; obtain ⟨_, _, _, _, rfl, _⟩ := h; rfl)
  case pure =>
    intro H ds S R E hS h
    obtain ⟨a, tws, eds, w, rfl, ha, hn, h⟩ := h
    have sl : (100000 : Nat) ≤ sizeLine := by decide
    refine open_hob hS ha fun S2 s t0 e na ne g0 g1 g2 g3 go back => ?_
    simp! [sx_, r_fh0 g0 if_Hoist_states, r_fh1 g0 if_Hoist_standing, r_fh2 g0 if_Hoist_watching, r_fh3 g0 if_Hoist_ends, Dl.r_lsR g2, Dl.r_sqR g2, Dl.r_ixR g2, Dl.r_addN g2, Dl.r_addlR g2, Dl.r_lenR g2, Dl.r_slR g2, Dl.r_mR g2, Dl.r_app g2, Dl.r_joinR g2, Dl.r_ilR g2, Dl.r_pop g2, List.length_map]
    exact fin_wk (back S2 tws eds w g0 g1 g2 g3 (fun _ _ _ _ _ => rfl)) (by rw [put_self ha]; exact h)
abbrev NHoist_reach : List Str := ["self"]
theorem scHoist_reach : FnScope NHoist_reach ["self"] (defScope stHoist_reach) := ⟨rfl, rfl, rfl, by decide +kernel, rfl, by decide +kernel, by decide +kernel⟩
def spHoist_reach : SpD := fun ds S R E => ∃ (a : Addr) (tws : List Twr) (eds : List Edt) (w : Bool) (t : Twr), ds = [.ref a] ∧ S a = some (hob none tws eds w) ∧ tws.getLast? = some t ∧ R (.int (reachW t)) S
theorem calHoist_reach (T : Txt FA K mg) (TX : ExT K EX) (TI : InT K IN) (TS : IsF K IN OW) (TB : ∀ c ∈ BA, bareB K c = true) (TC : conOk K CO = true) (F : ∃ fd, FunD K "reach" "Hoist.reach" (defArgs stHoist_reach) (defBody stHoist_reach) (defScope stHoist_reach) [] [] (pG K "Hoist" "reach") fd)  : CalP P w K mg base 1 "Hoist" "reach" spHoist_reach := by
  refine calPO (k := 0) F scHoist_reach ?len _ (fun cdv A outer s H E hr hgd tk =>
    have hu := hr.units
    have hp : PassesOwn (model P w) (cxOf (L2.CX P w) P w K mg base NHoist_reach "Hoist.reach" (defScope stHoist_reach) (pG K "Hoist" "reach") cdv A outer s H E).A (cxOf (L2.CX P w) P w K mg base NHoist_reach "Hoist.reach" (defScope stHoist_reach) (pG K "Hoist" "reach") cdv A outer s H E).env (cxOf (L2.CX P w) P w K mg base NHoist_reach "Hoist.reach" (defScope stHoist_reach) (pG K "Hoist" "reach") cdv A outer s H E).xe := passes_of rfl
    have nd := scHoist_reach.nd
    (by exact (pssd_one (by exact (psd_ret (by exact (ped_ix (by exact (ped_ix (by exact (ped_fld TI (by exact (pvd 0)))) (by exact (ped_neg ped_int)))) ped_int))))))) ?pure (fun _ _ _ _ _ _ us hl => match us, hl with | [_], _ => rfl)
  case len =>
    intro ds S R E h
    (unfold spHoist_reach at h; obtain ⟨_, _, _, _, _, rfl, _⟩ := h; rfl)
  case pure =>
    intro H ds S R E hS h
    obtain ⟨a, tws, eds, w, t, rfl, ha, hl, h⟩ := h
    have hE : atI (tws.map endD) (-1) = some (endD t) := at_lastD (by rw [List.getLast?_map, hl]; rfl)
    have eE : endD t = .tup [.int (reachW t), .bl (isFree t)] := rfl
    refine open_hob hS ha fun S2 s t0 e na ne g0 g1 g2 g3 go back => ?_
    simp! [sx_, r_fh0 g0 if_Hoist_states, r_fh1 g0 if_Hoist_standing, r_fh2 g0 if_Hoist_watching, r_fh3 g0 if_Hoist_ends, Dl.r_lsR g3, Dl.r_sqR g3, Dl.r_ixR g3, Dl.r_addN g3, Dl.r_addlR g3, Dl.r_lenR g3, Dl.r_slR g3, Dl.r_mR g3, Dl.r_app g3, Dl.r_joinR g3, Dl.r_ilR g3, Dl.r_pop g3, hE, eE, at0, at1]
    exact fin_wk (back S2 tws eds w g0 g1 g2 g3 (fun _ _ _ _ _ => rfl)) (by rw [put_self ha]; exact h)
abbrev NHoist_is_free : List Str := ["self"]
theorem scHoist_is_free : FnScope NHoist_is_free ["self"] (defScope stHoist_is_free) := ⟨rfl, rfl, rfl, by decide +kernel, rfl, by decide +kernel, by decide +kernel⟩
def spHoist_is_free : SpD := fun ds S R E => ∃ (a : Addr) (tws : List Twr) (eds : List Edt) (w : Bool) (t : Twr), ds = [.ref a] ∧ S a = some (hob none tws eds w) ∧ tws.getLast? = some t ∧ R (.bl (isFree t)) S
theorem calHoist_is_free (T : Txt FA K mg) (TX : ExT K EX) (TI : InT K IN) (TS : IsF K IN OW) (TB : ∀ c ∈ BA, bareB K c = true) (TC : conOk K CO = true) (F : ∃ fd, FunD K "is_free" "Hoist.is_free" (defArgs stHoist_is_free) (defBody stHoist_is_free) (defScope stHoist_is_free) [] [] (pG K "Hoist" "is_free") fd)  : CalP P w K mg base 1 "Hoist" "is_free" spHoist_is_free := by
  refine calPO (k := 0) F scHoist_is_free ?len _ (fun cdv A outer s H E hr hgd tk =>
    have hu := hr.units
    have hp : PassesOwn (model P w) (cxOf (L2.CX P w) P w K mg base NHoist_is_free "Hoist.is_free" (defScope stHoist_is_free) (pG K "Hoist" "is_free") cdv A outer s H E).A (cxOf (L2.CX P w) P w K mg base NHoist_is_free "Hoist.is_free" (defScope stHoist_is_free) (pG K "Hoist" "is_free") cdv A outer s H E).env (cxOf (L2.CX P w) P w K mg base NHoist_is_free "Hoist.is_free" (defScope stHoist_is_free) (pG K "Hoist" "is_free") cdv A outer s H E).xe := passes_of rfl
    have nd := scHoist_is_free.nd
    (by exact (pssd_one (by exact (psd_ret (by exact (ped_ix (by exact (ped_ix (by exact (ped_fld TI (by exact (pvd 0)))) (by exact (ped_neg ped_int)))) ped_int))))))) ?pure (fun _ _ _ _ _ _ us hl => match us, hl with | [_], _ => rfl)
  case len =>
    intro ds S R E h
    (unfold spHoist_is_free at h; obtain ⟨_, _, _, _, _, rfl, _⟩ := h; rfl)
  case pure =>
    intro H ds S R E hS h
    obtain ⟨a, tws, eds, w, t, rfl, ha, hl, h⟩ := h
    have hE : atI (tws.map endD) (-1) = some (endD t) := at_lastD (by rw [List.getLast?_map, hl]; rfl)
    have eE : endD t = .tup [.int (reachW t), .bl (isFree t)] := rfl
    refine open_hob hS ha fun S2 s t0 e na ne g0 g1 g2 g3 go back => ?_
    simp! [sx_, r_fh0 g0 if_Hoist_states, r_fh1 g0 if_Hoist_standing, r_fh2 g0 if_Hoist_watching, r_fh3 g0 if_Hoist_ends, Dl.r_lsR g3, Dl.r_sqR g3, Dl.r_ixR g3, Dl.r_addN g3, Dl.r_addlR g3, Dl.r_lenR g3, Dl.r_slR g3, Dl.r_mR g3, Dl.r_app g3, Dl.r_joinR g3, Dl.r_ilR g3, Dl.r_pop g3, hE, eE, at0, at1]
    exact fin_wk (back S2 tws eds w g0 g1 g2 g3 (fun _ _ _ _ _ => rfl)) (by rw [put_self ha]; exact h)
abbrev NHoist___str__ : List Str := ["self", "excess", "weights"]
theorem scHoist___str__ : FnScope NHoist___str__ ["self"] (defScope stHoist___str__) := ⟨rfl, rfl, rfl, by decide +kernel, rfl, by decide +kernel, by decide +kernel⟩
def spHoist___str__ : SpD := fun ds S R E => ∃ (a : Addr) (tws : List Twr) (eds : List Edt) (w : Bool) (t : Twr), ds = [.ref a] ∧ S a = some (hob none tws eds w) ∧ tws.getLast? = some t ∧ Tw t ∧ eds.length ≤ 1000 ∧ R (.str (strH t eds.length)) S
theorem calHoist___str__ (T : Txt FA K mg) (TX : ExT K EX) (TI : InT K IN) (TS : IsF K IN OW) (TB : ∀ c ∈ BA, bareB K c = true) (TC : conOk K CO = true) (F : ∃ fd, FunD K "__str__" "Hoist.__str__" (defArgs stHoist___str__) (defBody stHoist___str__) (defScope stHoist___str__) [] [] (He.ma K (He.ga K "Hoist") "__str__") fd)  : CalM P w K mg base 1 "Hoist" "__str__" ["self"] spHoist___str__ := by
  refine calMO (k := 0) F scHoist___str__ ?len _ (fun cdv A outer s H E hr hgd tk =>
    have hu := hr.units
    have hp : PassesOwn (model P w) (cxOf (L2.CX P w) P w K mg base NHoist___str__ "Hoist.__str__" (defScope stHoist___str__) (He.ma K (He.ga K "Hoist") "__str__") cdv A outer s H E).A (cxOf (L2.CX P w) P w K mg base NHoist___str__ "Hoist.__str__" (defScope stHoist___str__) (He.ma K (He.ga K "Hoist") "__str__") cdv A outer s H E).env (cxOf (L2.CX P w) P w K mg base NHoist___str__ "Hoist.__str__" (defScope stHoist___str__) (He.ma K (He.ga K "Hoist") "__str__") cdv A outer s H E).xe := passes_of rfl
    have nd := scHoist___str__.nd
    (by exact (pssd_cons (by exact (psd_asg (by exact (ped_ix (by exact (ped_fld TI (by exact (pvd 0)))) (by exact (ped_neg ped_int)))) (by exact (pgd_tup (n := 2) rfl (pgsd_cons (by exact (pgd 1 nd)) (by exact (pgsd_cons (by exact (pgd 2 nd)) pgsd_nil)))))))
    (by exact (pssd_one (by exact (psd_ret (by exact (ped_joined (.cons (by exact (ped_fmt (by exact (ped_callB cd_len (T.free 7) boot_len (by exact (pad_cons (by exact (pvd 2)) pad_nil)))))) (by exact (.cons ped_str (by exact (.cons (by exact (ped_fmt (by exact (pvd 1)))) (by exact (.cons ped_str (by exact (.cons (by exact (ped_fmt (by exact (ped_ix (by exact (ped_ix (by exact (ped_fld TI (by exact (pvd 0)))) (by exact (ped_neg ped_int)))) ped_int)))) (by exact (.cons ped_str (by exact (.cons (by exact (ped_fmt (by exact (ped_callB cd_len (T.free 7) boot_len (by exact (pad_cons (by exact (ped_fld TI (by exact (pvd 0)))) pad_nil)))))) (by exact (.cons ped_str .nil)))))))))))))))))))))))) ?pure (fun _ _ _ _ _ _ us hl => match us, hl with | [_], _ => rfl)
  case len =>
    intro ds S R E h
    (unfold spHoist___str__ at h; obtain ⟨_, _, _, _, _, rfl, _⟩ := h; rfl)
  case pure =>
    intro H ds S R E hS h
    obtain ⟨a, tws, eds, w, t, rfl, ha, hl, ht, hk, h⟩ := h
    have sl : (1000000 : Nat) ≤ sizeLine := by decide
    have hn := ht.n
    have he := ht.e
    have hr := ht.reach
    have hA : atI (tws.map twD) (-1) = some (twD t) := at_lastD (by rw [List.getLast?_map, hl]; rfl)
    have hE : atI (tws.map endD) (-1) = some (endD t) := at_lastD (by rw [List.getLast?_map, hl]; rfl)
    have eE : endD t = .tup [.int (reachW t), .bl (isFree t)] := rfl
    refine open_hob hS ha fun S2 s t0 e na ne g0 g1 g2 g3 go back => ?_
    simp! [sx_, r_fh0 g0 if_Hoist_states, r_fh1 g0 if_Hoist_standing, r_fh2 g0 if_Hoist_watching, r_fh3 g0 if_Hoist_ends, Dl.r_lsR g1, Dl.r_sqR g1, Dl.r_ixR g1, Dl.r_addN g1, Dl.r_addlR g1, Dl.r_lenR g1, Dl.r_slR g1, Dl.r_mR g1, Dl.r_app g1, Dl.r_joinR g1, Dl.r_ilR g1, Dl.r_pop g1, Dl.r_lsR g2, Dl.r_sqR g2, Dl.r_ixR g2, Dl.r_addN g2, Dl.r_addlR g2, Dl.r_lenR g2, Dl.r_slR g2, Dl.r_mR g2, Dl.r_app g2, Dl.r_joinR g2, Dl.r_ilR g2, Dl.r_pop g2, Dl.r_lsR g3, Dl.r_sqR g3, Dl.r_ixR g3, Dl.r_addN g3, Dl.r_addlR g3, Dl.r_lenR g3, Dl.r_slR g3, Dl.r_mR g3, Dl.r_app g3, Dl.r_joinR g3, Dl.r_ilR g3, Dl.r_pop g3, hA, hE, eE, at0, at1, List.length_map, (show ∀ t : Twr, twD t = .tup [.int t.1, .tup (t.2.map .int)] from fun _ => rfl)]
    have l1 := dec_len (i := ((t.2.length : Nat) : Int)) (by omega) (by omega)
    have l2 := dec_len (i := t.1) (by omega) (by omega)
    have l3 := dec_len (i := reachW t) (by omega) (by omega)
    have l4 := dec_len (i := ((eds.length : Nat) : Int)) (by omega) (by omega)
    have k1 : " people, excess ".toList.length = 16 := rfl
    have k2 : ", reach ".toList.length = 8 := rfl
    have k3 : ", ".toList.length = 2 := rfl
    have k4 : " edits".toList.length = 6 := rfl
    simp only [len_app, lit_len, str_nil, k1, k2, k3, k4]
    refine ⟨log_ok (by omega), by omega, by omega, log_ok (by omega), by omega, by omega, log_ok (by omega), by omega, by omega, log_ok (by omega), by omega, by omega, ?_⟩
    exact fin_wk (back S2 tws eds w g0 g1 g2 g3 (fun _ _ _ _ _ => rfl)) (by rw [put_self ha]; exact h)
abbrev NHoist_tower_at : List Str := ["self", "version"]
theorem scHoist_tower_at : FnScope NHoist_tower_at ["self", "version"] (defScope stHoist_tower_at) := ⟨rfl, rfl, rfl, by decide +kernel, rfl, by decide +kernel, by decide +kernel⟩
def spHoist_tower_at : SpD := fun ds S R E => ∃ (a : Addr) (tws : List Twr) (eds : List Edt) (w : Bool) (t : Twr) (d : D), ds = [.ref a, d] ∧ S a = some (hob none tws eds w) ∧ tws.length = eds.length + 1 ∧ ((d = .non ∧ tws.getLast? = some t) ∨ ∃ v : Nat, d = .int (v : Nat) ∧ v ≤ eds.length ∧ tws[v]? = some t) ∧ R (twD t) S
theorem calHoist_tower_at (T : Txt FA K mg) (TX : ExT K EX) (TI : InT K IN) (TS : IsF K IN OW) (TB : ∀ c ∈ BA, bareB K c = true) (TC : conOk K CO = true) (F : ∃ fd, FunD K "tower_at" "Hoist.tower_at" (defArgs stHoist_tower_at) (defBody stHoist_tower_at) (defScope stHoist_tower_at) [] [] (He.ma K (He.ga K "Hoist") "tower_at") fd) (cis_within : Cal P w K mg base 1 "is_within" ["value", "low", "high"] spis_within) : CalM P w K mg base 2 "Hoist" "tower_at" ["self", "version"] spHoist_tower_at := by
  refine calMO (k := 1) F scHoist_tower_at ?len _ (fun cdv A outer s H E hr hgd tk =>
    have hu := hr.units
    have hp : PassesOwn (model P w) (cxOf (L2.CX P w) P w K mg base NHoist_tower_at "Hoist.tower_at" (defScope stHoist_tower_at) (He.ma K (He.ga K "Hoist") "tower_at") cdv A outer s H E).A (cxOf (L2.CX P w) P w K mg base NHoist_tower_at "Hoist.tower_at" (defScope stHoist_tower_at) (He.ma K (He.ga K "Hoist") "tower_at") cdv A outer s H E).env (cxOf (L2.CX P w) P w K mg base NHoist_tower_at "Hoist.tower_at" (defScope stHoist_tower_at) (He.ma K (He.ga K "Hoist") "tower_at") cdv A outer s H E).xe := passes_of rfl
    have nd := scHoist_tower_at.nd
    (by exact (pssd_cons (by exact (psd_if (by exact (ptd_isN (by exact (pvd 1)))) (by exact (pssd_one (by exact (psd_ret (by exact (ped_ix (by exact (ped_fld TI (by exact (pvd 0)))) (by exact (ped_neg ped_int)))))))) pssd_nil))
    (by exact (pssd_cons (by exact (psd_if (by exact (ptd_not (by exact (ptd_truth (by exact (ped_callC cis_within hr hgd tk (by exact (pad_cons (by exact (pvd 1)) (by exact (pad_cons ped_int (by exact (pad_cons (by exact (ped_callB cd_len (T.free 7) boot_len (by exact (pad_cons (by exact (ped_fld TI (by exact (pvd 0)))) pad_nil)))) pad_nil)))))))))))) (by exact (pssd_one psd_dead)) pssd_nil))
    (by exact (pssd_one (by exact (psd_ret (by exact (ped_ix (by exact (ped_fld TI (by exact (pvd 0)))) (by exact (pvd 1))))))))))))) ?pure (fun _ _ _ _ _ _ us hl => match us, hl with | [_, _], _ => rfl)
  case len =>
    intro ds S R E h
    (unfold spHoist_tower_at at h; obtain ⟨_, _, _, _, _, _, rfl, _⟩ := h; rfl)
  case pure =>
    intro H ds S R E hS h
    obtain ⟨a, tws, eds, w, t, d, rfl, ha, hlen, hd, h⟩ := h
    refine open_hob hS ha fun S2 s t0 e na ne g0 g1 g2 g3 go back => ?_
    have fin := fin_wk (back S2 tws eds w g0 g1 g2 g3 (fun _ _ _ _ _ => rfl)) (by rw [put_self ha]; exact h)
    rcases hd with ⟨rfl, hl⟩ | ⟨v, rfl, hv, hl⟩
    · have hA : atI (tws.map twD) (-1) = some (twD t) := at_lastD (by rw [List.getLast?_map, hl]; rfl)
      simp! [sx_, r_fh0 g0 if_Hoist_states, r_fh1 g0 if_Hoist_standing, r_fh2 g0 if_Hoist_watching, r_fh3 g0 if_Hoist_ends, Dl.r_lsR g1, Dl.r_sqR g1, Dl.r_ixR g1, Dl.r_addN g1, Dl.r_addlR g1, Dl.r_lenR g1, Dl.r_slR g1, Dl.r_mR g1, Dl.r_app g1, Dl.r_joinR g1, Dl.r_ilR g1, Dl.r_pop g1, hA, if_true]
      exact fin
    · have hA : atI (tws.map twD) (v : Int) = some (twD t) := ix_at (by rw [Int.toNat_natCast, List.getElem?_map, hl]; rfl) (by omega)
      have h1 : wi (.int (v : Nat)) 0 ((eds.length : Nat) : Int) = true := decide_eq_true ⟨by omega, by omega⟩
      simp! [sx_, r_fh0 g0 if_Hoist_states, r_fh1 g0 if_Hoist_standing, r_fh2 g0 if_Hoist_watching, r_fh3 g0 if_Hoist_ends, Dl.r_lsR g2, Dl.r_sqR g2, Dl.r_ixR g2, Dl.r_addN g2, Dl.r_addlR g2, Dl.r_lenR g2, Dl.r_slR g2, Dl.r_mR g2, Dl.r_app g2, Dl.r_joinR g2, Dl.r_ilR g2, Dl.r_pop g2, List.length_map, if_false]
      refine ⟨_, _, _, rfl, rfl, ?_⟩
      try simp! [sx_, r_fh0 g0 if_Hoist_states, r_fh1 g0 if_Hoist_standing, r_fh2 g0 if_Hoist_watching, r_fh3 g0 if_Hoist_ends, Dl.r_lsR g1, Dl.r_sqR g1, Dl.r_ixR g1, Dl.r_addN g1, Dl.r_addlR g1, Dl.r_lenR g1, Dl.r_slR g1, Dl.r_mR g1, Dl.r_app g1, Dl.r_joinR g1, Dl.r_ilR g1, Dl.r_pop g1, h1, hA, Bool.not_true, if_false]
      exact fin
abbrev NHoist_state : List Str := ["self", "version"]
theorem scHoist_state : FnScope NHoist_state ["self", "version"] (defScope stHoist_state) := ⟨rfl, rfl, rfl, by decide +kernel, rfl, by decide +kernel, by decide +kernel⟩
def spHoist_state : SpD := fun ds S R E => ∃ (a : Addr) (tws : List Twr) (eds : List Edt) (w : Bool) (t : Twr) (d : D), ds = [.ref a, d] ∧ S a = some (hob none tws eds w) ∧ tws.length = eds.length + 1 ∧ ((d = .non ∧ tws.getLast? = some t) ∨ ∃ v : Nat, d = .int (v : Nat) ∧ v ≤ eds.length ∧ tws[v]? = some t) ∧ R (twD t) S
theorem calHoist_state (T : Txt FA K mg) (TX : ExT K EX) (TI : InT K IN) (TS : IsF K IN OW) (TB : ∀ c ∈ BA, bareB K c = true) (TC : conOk K CO = true) (F : ∃ fd, FunD K "state" "Hoist.state" (defArgs stHoist_state) (defBody stHoist_state) (defScope stHoist_state) [] [("version", V.non)] (He.ma K (He.ga K "Hoist") "state") fd) (cHoist_tower_at : CalM P w K mg base 2 "Hoist" "tower_at" ["self", "version"] spHoist_tower_at) : CalK P w K mg base 3 "Hoist" "state" ["self"] "version" spHoist_state := by
  refine calKO (k := 2) F scHoist_state ?len _ (fun cdv A outer s H E hr hgd tk =>
    have hu := hr.units
    have hp : PassesOwn (model P w) (cxOf (L2.CX P w) P w K mg base NHoist_state "Hoist.state" (defScope stHoist_state) (He.ma K (He.ga K "Hoist") "state") cdv A outer s H E).A (cxOf (L2.CX P w) P w K mg base NHoist_state "Hoist.state" (defScope stHoist_state) (He.ma K (He.ga K "Hoist") "state") cdv A outer s H E).env (cxOf (L2.CX P w) P w K mg base NHoist_state "Hoist.state" (defScope stHoist_state) (He.ma K (He.ga K "Hoist") "state") cdv A outer s H E).xe := passes_of rfl
    have nd := scHoist_state.nd
    (by exact (pssd_one (by exact (psd_ret (by exact (ped_meth TI (all1 cHoist_tower_at) hr hgd tk (by exact (pvd 0)) (by exact (pad_cons (by exact (pvd 1)) pad_nil))))))))) ?pure (fun D doc pm an cdv ct us ks h1 h2 => match us, ks, h1, h2 with | [_], [_], _, _ => ⟨_, _, _, _, _, _, rfl, rfl, rfl⟩) (fun D doc pm an cdv ct us u h1 => match us, h1 with | [_], _ => rfl)
  case len =>
    intro ds S R E h
    (unfold spHoist_state at h; obtain ⟨_, _, _, _, _, _, rfl, _⟩ := h; rfl)
  case pure =>
    intro H ds S R E hS h
    obtain ⟨a, tws, eds, w, t, d, rfl, ha, hlen, hd, h⟩ := h
    refine ⟨S, hS, fun _ n => n, ?_⟩
    simp! [sx_, r_mtH (xs := IN) (m := "tower_at") ha im_Hoist_tower_at]
    exact ⟨_, _, _, _, t, d, rfl, ha, hlen, hd, fin_same h⟩
abbrev N_law_right : List Str := ["table", "tower", "edits", "reach", "is_free", "found", "words"]
theorem sc_law_right : FnScope N_law_right ["table", "tower", "edits"] (defScope st_law_right) := ⟨rfl, rfl, rfl, by decide +kernel, rfl, by decide +kernel, by decide +kernel⟩
def sp_law_right : SpD := fun ds S R E => ∃ (a : Addr) (tws : List Twr) (eds : List Edt) (w : Bool) (t : Twr), ds = [.ref a, twD t, .lst (eds.map edD)] ∧ S a = some (hob none tws eds w) ∧ tws.length = eds.length + 1 ∧ tws.getLast? = some t ∧ Tw t ∧ (∀ ed ∈ eds, edW ed) ∧ eds.length ≤ 60 ∧ R (.bl true) S
theorem cal_law_right {f : Addr} (T : Txt FA K mg) (TX : ExT K EX) (TI : InT K IN) (TS : IsF K IN OW) (TB : ∀ c ∈ BA, bareB K c = true) (TC : conOk K CO = true) (F : FnP K "_law_right" "_law_right" st_law_right f) (gm : mg "_law_right" = some (.ref f)) (c_law_reach : Cal P w K mg base 1 "_law_reach" ["tower"] sp_law_reach) (cHoist_tower : CalP P w K mg base 1 "Hoist" "tower" spHoist_tower) (cHoist_reach : CalP P w K mg base 1 "Hoist" "reach" spHoist_reach) (cHoist_is_free : CalP P w K mg base 1 "Hoist" "is_free" spHoist_is_free) (cHoist_state : CalK P w K mg base 3 "Hoist" "state" ["self"] "version" spHoist_state) (cHoist_edits : CalM P w K mg base 1 "Hoist" "edits" ["self"] spHoist_edits) (cHoist___len__ : CalM P w K mg base 1 "Hoist" "__len__" ["self"] spHoist___len__) (cHoist___str__ : CalM P w K mg base 1 "Hoist" "__str__" ["self"] spHoist___str__) : Cal P w K mg base 4 "_law_right" ["table", "tower", "edits"] sp_law_right := by
  refine cal (k := 3) F gm sc_law_right ?len _ (fun cdv A outer s H E hr hgd tk =>
    have hu := hr.units
    have hp : PassesOwn (model P w) (cxOf (L2.CX P w) P w K mg base N_law_right "_law_right" (defScope st_law_right) f cdv A outer s H E).A (cxOf (L2.CX P w) P w K mg base N_law_right "_law_right" (defScope st_law_right) f cdv A outer s H E).env (cxOf (L2.CX P w) P w K mg base N_law_right "_law_right" (defScope st_law_right) f cdv A outer s H E).xe := passes_of rfl
    have nd := sc_law_right.nd
    (by exact (pssd_cons (by exact (psd_asg (by exact (ped_callC c_law_reach hr hgd tk (by exact (pad_cons (by exact (pvd 1)) pad_nil)))) (by exact (pgd_lst (n := 2) rfl (pgsd_cons (by exact (pgd 3 nd)) (by exact (pgsd_cons (by exact (pgd 4 nd)) pgsd_nil)))))))
    (by exact (pssd_cons (by exact (psd_set 5 nd (by exact (ped_lst (by exact (pad_cons (by exact (ped_prop TI (all1 cHoist_tower) hr hgd (by exact (pvd 0)))) (by exact (pad_cons (by exact (ped_prop TI (all1 cHoist_reach) hr hgd (by exact (pvd 0)))) (by exact (pad_cons (by exact (ped_prop TI (all1 cHoist_is_free) hr hgd (by exact (pvd 0)))) (by exact (pad_cons (by exact (ped_methD0 TI (all1 cHoist_state) hr hgd tk (by exact (pvd 0)))) (by exact (pad_cons (by exact (ped_meth0 TI (all1 cHoist_edits) hr hgd tk (by exact (pvd 0)))) (by exact (pad_cons (by exact (ped_callB (cd_lenO TI (all1 cHoist___len__) hr hgd) (T.free 7) boot_len (by exact (pad_cons (by exact (pvd 0)) pad_nil)))) pad_nil))))))))))))))))
    (by exact (pssd_cons (by exact (psd_if (by exact (ptd_cmp (opd_ne hu) (by exact (ped_callB (cd_repr hgd hu) (T.free 27) boot_repr (by exact (pad_cons (by exact (pvd 5)) pad_nil)))) (by exact (ped_callB (cd_repr hgd hu) (T.free 27) boot_repr (by exact (pad_cons (by exact (ped_lst (by exact (pad_cons (by exact (pvd 1)) (by exact (pad_cons (by exact (pvd 3)) (by exact (pad_cons (by exact (pvd 4)) (by exact (pad_cons (by exact (pvd 1)) (by exact (pad_cons (by exact (ped_callTy cd_tuple (T.free 9) boot_tuple (by exact (pad_cons (by exact (pvd 2)) pad_nil)))) (by exact (pad_cons (by exact (ped_callB cd_len (T.free 7) boot_len (by exact (pad_cons (by exact (pvd 2)) pad_nil)))) pad_nil)))))))))))))) pad_nil)))))) (by exact (pssd_one (by exact (psd_ret ped_bl)))) pssd_nil))
    (by exact (pssd_cons (by exact (psd_set 6 nd (by exact (ped_lst (by exact (pad_cons (by exact (ped_callTy cd_str (T.free 17) boot_str (by exact (pad_cons (by exact (ped_callB cd_len (T.free 7) boot_len (by exact (pad_cons (by exact (ped_ix (by exact (pvd 1)) ped_int)) pad_nil)))) pad_nil)))) (by exact (pad_cons ped_str (by exact (pad_cons (by exact (ped_op opd_add (by exact (ped_callTy cd_str (T.free 17) boot_str (by exact (pad_cons (by exact (ped_ix (by exact (pvd 1)) ped_int)) pad_nil)))) ped_str)) (by exact (pad_cons (by exact (ped_op opd_add (by exact (ped_callTy cd_str (T.free 17) boot_str (by exact (pad_cons (by exact (pvd 3)) pad_nil)))) ped_str)) pad_nil))))))))))))
    (by exact (pssd_one (by exact (psd_ret (by exact (ped_cmp (opd_eq hu) (by exact (ped_callTy (cd_strO TI (all1 cHoist___str__) hr hgd) (T.free 17) boot_str (by exact (pad_cons (by exact (pvd 0)) pad_nil)))) (by exact (ped_m PySem.F.plainAttrs_str PySem.F.slot_str_join PySem.F.type_str_join md_join ped_str (by exact (pad_cons (by exact (ped_op opd_add (by exact (pvd 6)) (by exact (ped_lst (by exact (pad_cons (by exact (ped_callTy cd_str (T.free 17) boot_str (by exact (pad_cons (by exact (ped_callB cd_len (T.free 7) boot_len (by exact (pad_cons (by exact (pvd 2)) pad_nil)))) pad_nil)))) (by exact (pad_cons ped_str pad_nil)))))))) pad_nil))))))))))))))))))) ?pure (fun _ _ _ _ _ _ us hl => match us, hl with | [_, _, _], _ => rfl)
  case len =>
    intro ds S R E h
    (unfold sp_law_right at h; obtain ⟨_, _, _, _, _, rfl, _⟩ := h; rfl)
  case pure =>
    intro ds S R E h
    obtain ⟨a, tws, eds, w, t, rfl, ha, hlen, hl, ht, hW, hk, h⟩ := h
    have sl : (1000000 : Nat) ≤ sizeLine := by decide
    have hn := ht.n
    have he := ht.e
    have hr := ht.reach
    obtain ⟨p, hp⟩ := sh_pw ht hW hk
    simp! [sx_, true_and]
    refine ⟨t, rfl, ht, ?_⟩
    try simp! [sx_, r_ppH (xs := IN) (f := "tower") ha ip_Hoist_tower, r_ppH (xs := IN) (f := "reach") ha ip_Hoist_reach, r_ppH (xs := IN) (f := "is_free") ha ip_Hoist_is_free]
    refine ⟨a, _, _, _, t, rfl, ha, hl, ?_⟩
    try simp! [sx_, r_ppH (xs := IN) (f := "tower") ha ip_Hoist_tower, r_ppH (xs := IN) (f := "reach") ha ip_Hoist_reach, r_ppH (xs := IN) (f := "is_free") ha ip_Hoist_is_free]
    refine ⟨a, _, _, _, t, rfl, ha, hl, ?_⟩
    try simp! [sx_, r_ppH (xs := IN) (f := "tower") ha ip_Hoist_tower, r_ppH (xs := IN) (f := "reach") ha ip_Hoist_reach, r_ppH (xs := IN) (f := "is_free") ha ip_Hoist_is_free]
    refine ⟨a, _, _, _, t, rfl, ha, hl, ?_⟩
    try simp! [sx_, r_mtKH (xs := IN) (m := "state") ha im_Hoist_state, r_mtH (xs := IN) (m := "edits") ha im_Hoist_edits]
    refine ⟨a, _, _, _, t, .non, rfl, ha, hlen, .inl ⟨rfl, hl⟩, ?_⟩
    try simp! [sx_, r_mtKH (xs := IN) (m := "state") ha im_Hoist_state, r_mtH (xs := IN) (m := "edits") ha im_Hoist_edits]
    refine ⟨a, _, _, _, rfl, ha, by omega, ?_⟩
    try simp! [sx_, r_lenO (Cs := ["Hoist"]) (xs := IN) (ha) ⟨rfl, by decide +kernel⟩, r_ln1]
    refine ⟨a, _, _, _, rfl, ha, ?_⟩
    try simp! [sx_, r_ln1, List.length_map]
    refine ⟨⟨by omega, by omega⟩, ?_⟩
    have okp := okT_iff.mpr hp.okT
    show cRepr [shD t eds] S _
    refine hp.repr ?_
    show cRepr [shD t eds] S _
    refine hp.repr ?_
    try dsimp only
    rw [r_neS okp okp]
    have l1 := dec_len (i := ((t.2.length : Nat) : Int)) (by omega) (by omega)
    have l2 := dec_len (i := t.1) (by omega) (by omega)
    have l3 := dec_len (i := reachW t) (by omega) (by omega)
    have l4 := dec_len (i := ((eds.length : Nat) : Int)) (by omega) (by omega)
    try simp! [sx_, decide_true, Bool.not_true, Bool.not_false, if_true, if_false, eq_self, (show ∀ t : Twr, twD t = .tup [.int t.1, .tup (t.2.map .int)] from fun _ => rfl), at0, at1, List.length_map, lit_len, len_app]
    have k1 : "people, excess".toList.length = 14 := rfl
    have k2 : ", reach".toList.length = 7 := rfl
    have k3 : ",".toList.length = 1 := rfl
    have k4 : "edits".toList.length = 5 := rfl
    have k5 : " ".toList.length = 1 := rfl
    refine ⟨log_ok (by omega), log_ok (by omega), by omega, log_ok (by omega), by omega, ?_⟩
    try simp! [sx_, r_strO (Cs := ["Hoist"]) (xs := IN) (ha) ⟨rfl, by decide +kernel⟩]
    refine ⟨a, _, _, _, t, rfl, ha, hl, ht, by omega, ?_⟩
    try simp! [sx_, r_strO (Cs := ["Hoist"]) (xs := IN) (ha) ⟨rfl, by decide +kernel⟩]
    refine ⟨log_ok (by omega), _, rfl, ?_, ?_⟩
    · simp only [List.map_cons, List.map_nil, List.sum_cons, List.sum_nil, List.length_cons, List.length_nil, len_app, lit_len, k1, k2, k3, k4, k5]
      omega
    try dsimp only
    rw [strH_join, r_eqS (okT_iff.mpr (ok_strH _ _)) (okT_iff.mpr (ok_strH _ _)), decide_eq_true rfl]
    exact fin_same h
abbrev N_law_number : List Str := ["word", "one"]
theorem sc_law_number : FnScope N_law_number ["word"] (defScope st_law_number) := ⟨rfl, rfl, rfl, by decide +kernel, rfl, by decide +kernel, by decide +kernel⟩
def sp_law_number : SpD := fun ds S R E => ∃ u : Str, ds = [.str u] ∧ u.length ≤ 600 ∧ okT u ∧ R (lnum u 1000000) S
theorem cal_law_number {f : Addr} (T : Txt FA K mg) (TX : ExT K EX) (TI : InT K IN) (TS : IsF K IN OW) (TB : ∀ c ∈ BA, bareB K c = true) (TC : conOk K CO = true) (F : FnP K "_law_number" "_law_number" st_law_number f) (gm : mg "_law_number" = some (.ref f))  : Cal P w K mg base 1 "_law_number" ["word"] sp_law_number := by
  refine cal (k := 0) F gm sc_law_number ?len _ (fun cdv A outer s H E hr hgd tk =>
    have hu := hr.units
    have hp : PassesOwn (model P w) (cxOf (L2.CX P w) P w K mg base N_law_number "_law_number" (defScope st_law_number) f cdv A outer s H E).A (cxOf (L2.CX P w) P w K mg base N_law_number "_law_number" (defScope st_law_number) f cdv A outer s H E).env (cxOf (L2.CX P w) P w K mg base N_law_number "_law_number" (defScope st_law_number) f cdv A outer s H E).xe := passes_of rfl
    have nd := sc_law_number.nd
    (by exact (pssd_cons (by exact (psd_if (by exact (PWD.pt (pwd_or (by exact (ptd_cmp (opd_eq hu) (by exact (pvd 0)) ped_str)) (by exact (pwd_or (by exact (ptd_cmp (opd_ne hu) (by exact (ped_lc (B := bd1 "one" 1) rfl nd (by exact (pid_str (by exact (pvd 0)))) (blkOk_by (N := N_law_number) (sc := defScope st_law_number) (by decide +kernel)) (fun _ _ _ _ _ => pg_name (i := 1) nd rfl (Or.inl rfl)) (fun _ _ _ _ _ => by exact (ptsd_one (by exact (ptd_cmp opd_notIn (by exact (pvd 1)) ped_str)))) (fun _ _ _ _ _ => (by exact (pvd 1))))) (by exact (ped_lst pad_nil)))) (by exact (pwd_or1 (by exact (ptd_cmp (opd_eq hu) (by exact (ped_ix (by exact (pvd 0)) ped_int)) ped_str))))))))) (by exact (pssd_one (by exact (psd_ret ped_non)))) pssd_nil))
    (by exact (pssd_one (by exact (psd_ret (by exact (ped_if (by exact (ptd_cmp opd_le (by exact (ped_callTy cd_int (T.free 3) boot_int (by exact (pad_cons (by exact (pvd 0)) pad_nil)))) (by exact (ped_op opd_pow ped_int ped_int)))) (by exact (ped_callTy cd_int (T.free 3) boot_int (by exact (pad_cons (by exact (pvd 0)) pad_nil)))) ped_non))))))))) ?pure (fun _ _ _ _ _ _ us hl => match us, hl with | [_], _ => rfl)
  case len =>
    intro ds S R E h
    (unfold sp_law_number at h; obtain ⟨_, rfl, _⟩ := h; rfl)
  case pure =>
    intro ds S R E h
    obtain ⟨u, rfl, hl, hk, h⟩ := h
    have sl : (100000 : Nat) ≤ sizeLine := by decide
    have oke : PyData.strOk (Str.ofString "") = true := okT_iff.mpr (okT_lit (by decide))
    simp! [sx_, r_notInS, r_eqS (okT_iff.mpr hk) oke]
    by_cases he : u = Str.ofString ""
    · subst he
      simp! [sx_, eq_self, decide_true, if_true]
      exact fin_same h
    · have hne : tl u ≠ [] := fun z => he (ext_tl (by rw [z]; rfl))
      simp! [sx_, he, decide_false, if_false]
      refine lc_map (tl u) (fun c => .str ⟨#[c]⟩) (fun c => !decide (c ∈ (Str.ofString "0123456789").cps.toList)) (fun c => .str ⟨#[c]⟩) rfl (by rw [← len_tl]; omega) (fun _ _ => trivial) (fun c hc S' _ Rt Rn ht hn => ⟨_, rfl, ?_⟩) ?_
      · simp! [sx_, r_notInS]
        cases hm : (!decide (c ∈ (Str.ofString "0123456789").cps.toList)) with
        | true => simp! [sx_, if_true]; exact ht hm
        | false => simp! [sx_, if_false]; exact hn hm
      have ok1 : ∀ z ∈ ((tl u).filter fun c => !decide (c ∈ (Str.ofString "0123456789").cps.toList)).map (fun c => (⟨#[c]⟩ : Str)), okT z := fun z hz => by
        obtain ⟨c, hc, rfl⟩ := List.mem_map.mp hz
        intro x hx
        have : x = c := by simpa [tl] using hx
        rw [this]; exact hk c (List.mem_filter.mp hc).1
      rw [show ((tl u).filter fun c => !decide (c ∈ (Str.ofString "0123456789").cps.toList)).map (fun c => D.str ⟨#[c]⟩) = (((tl u).filter fun c => !decide (c ∈ (Str.ofString "0123456789").cps.toList)).map (fun c => (⟨#[c]⟩ : Str))).map .str by rw [List.map_map]; rfl]
      rw [r_neLS0 ok1]
      have e : decide (((tl u).filter fun c => !decide (c ∈ (Str.ofString "0123456789").cps.toList)).map (fun c => (⟨#[c]⟩ : Str)) = []) = allDig u := by
        have q := (List.map_eq_nil_iff (f := fun c => (⟨#[c]⟩ : Str))).trans (filt_nil u)
        cases hd : allDig u with
        | true => exact decide_eq_true (q.mpr hd)
        | false => exact decide_eq_false fun z => by rw [q.mp z] at hd; cases hd
      rw [e]
      cases hd : allDig u with
      | false =>
        simp! [sx_, Bool.not_false, if_true]
        have e2 : lnum u 1000000 = .non := by unfold lnum; rw [if_neg (by rw [hd]; simp)]
        rw [← e2]; exact fin_same h
      | true =>
        simp! [sx_, Bool.not_true, if_false]
        obtain ⟨c, q, hc⟩ : ∃ c q, tl u = c :: q := by
          cases e : tl u with
          | nil => exact absurd e hne
          | cons c q => exact ⟨c, q, rfl⟩
        have h1 : 1 ≤ u.length := by rw [len_tl, hc]; simp
        refine ⟨by omega, c, by show atI (tl u) 0 = some c; rw [hc]; exact at0, ?_⟩
        have ok0 : PyData.strOk (Str.ofString "0") = true := okT_iff.mpr (okT_lit (by decide))
        have okc : PyData.strOk (⟨#[c]⟩ : Str) = true := okT_iff.mpr fun x hx => by
          have : x = c := by simpa [tl] using hx
          rw [this]; exact hk c (by rw [hc]; simp)
        have hi := pnum_int (u := u) (by omega) h1 hd
        by_cases h48 : c = 48
        · subst h48
          have e1 : ((⟨#[48]⟩ : Str) = Str.ofString "0") = True := eq_true rfl
          simp! [sx_, r_eqS okc ok0, e1, decide_true, if_true]
          have e2 : lnum u 1000000 = .non := by unfold lnum; rw [if_neg (fun z => z.2.1 (by rw [hc]; rfl))]
          rw [← e2]; exact fin_same h
        · have e0 : ((⟨#[c]⟩ : Str) = Str.ofString "0") = False := eq_false fun z => h48 (List.cons.inj (show [c] = [48] from congrArg tl z)).1
          simp! [sx_, r_eqS okc ok0, e0, decide_false, if_false]
          refine ⟨_, hi, by omega, ?_⟩
          by_cases hm : ((NumText.digitsVal (tl u) : Nat) : Int) ≤ 1000000
          · rw [if_pos hm]
            have hcd : 48 ≤ c ∧ c ≤ 57 := of_decide_eq_true (List.all_eq_true.mp hd c (by rw [hc]; simp))
            have l7 : u.length ≤ 7 := by
              refine Nat.le_of_not_lt fun z => ?_
              have hlen : u.length = q.length + 1 := by rw [len_tl, hc]; rfl
              have hv : NumText.digitsVal (tl u) = q.foldl (fun acc c => acc * 10 + (c - 48)) (c - 48) := by rw [hc]; show List.foldl _ (0 * 10 + (c - 48)) q = _; rw [Nat.zero_mul, Nat.zero_add]
              have hg := dv_ge q (c - 48)
              rw [← hv] at hg
              have h2 : 10 ^ 7 ≤ 10 ^ q.length := Nat.pow_le_pow_right (by decide) (by omega)
              have h3 : 10 ^ q.length ≤ (c - 48) * 10 ^ q.length := Nat.le_mul_of_pos_left _ (by omega)
              omega
            have e2 : lnum u 1000000 = .int (NumText.digitsVal (tl u) : Nat) := by unfold lnum; rw [if_pos ⟨⟨⟨h1, l7⟩, hd⟩, (by rw [hc]; exact fun z => h48 (Option.some.inj z)), hm⟩]
            rw [e2] at h
            exact ⟨_, hi, by omega, fin_same h⟩
          · rw [if_neg hm]
            have e2 : lnum u 1000000 = .non := by unfold lnum; rw [if_neg (fun z => hm z.2.2)]
            rw [← e2]; exact fin_same h
abbrev N_law_weights_of : List Str := ["word", "found", "one"]
theorem sc_law_weights_of : FnScope N_law_weights_of ["word"] (defScope st_law_weights_of) := ⟨rfl, rfl, rfl, by decide +kernel, rfl, by decide +kernel, by decide +kernel⟩
def sp_law_weights_of : SpD := fun ds S R E => ∃ u : Str, ds = [.str u] ∧ u.length ≤ 600 ∧ okT u ∧ R (lppl u) S
theorem cal_law_weights_of {f : Addr} (T : Txt FA K mg) (TX : ExT K EX) (TI : InT K IN) (TS : IsF K IN OW) (TB : ∀ c ∈ BA, bareB K c = true) (TC : conOk K CO = true) (F : FnP K "_law_weights_of" "_law_weights_of" st_law_weights_of f) (gm : mg "_law_weights_of" = some (.ref f)) (c_law_number : Cal P w K mg base 1 "_law_number" ["word"] sp_law_number) : Cal P w K mg base 2 "_law_weights_of" ["word"] sp_law_weights_of := by
  refine cal (k := 1) F gm sc_law_weights_of ?len _ (fun cdv A outer s H E hr hgd tk =>
    have hu := hr.units
    have hp : PassesOwn (model P w) (cxOf (L2.CX P w) P w K mg base N_law_weights_of "_law_weights_of" (defScope st_law_weights_of) f cdv A outer s H E).A (cxOf (L2.CX P w) P w K mg base N_law_weights_of "_law_weights_of" (defScope st_law_weights_of) f cdv A outer s H E).env (cxOf (L2.CX P w) P w K mg base N_law_weights_of "_law_weights_of" (defScope st_law_weights_of) f cdv A outer s H E).xe := passes_of rfl
    have nd := sc_law_weights_of.nd
    (by exact (pssd_cons (by exact (psd_if (by exact (ptd_cmp (opd_eq hu) (by exact (pvd 0)) ped_str)) (by exact (pssd_one (by exact (psd_ret (by exact (ped_tup pad_nil)))))) pssd_nil))
    (by exact (pssd_cons (by exact (psd_set 1 nd (by exact (ped_callTy cd_tuple (T.free 9) boot_tuple (by exact (pad_cons (by exact (ped_lc (B := bd1 "one" 2) rfl nd (by exact (pid_list (by exact (ped_m PySem.F.plainAttrs_str PySem.F.slot_str_split PySem.F.type_str_split md_split (by exact (pvd 0)) (by exact (pad_cons ped_str pad_nil)))))) (blkOk_by (N := N_law_weights_of) (sc := defScope st_law_weights_of) (by decide +kernel)) (fun _ _ _ _ _ => pg_name (i := 2) nd rfl (Or.inl rfl)) (fun _ _ _ _ _ => ptsd_nil) (fun _ _ _ _ _ => (by exact (ped_callC c_law_number hr hgd takes0 (by exact (pad_cons (by exact (pvd 2)) pad_nil))))))) pad_nil))))))
    (by exact (pssd_one (by exact (psd_ret (by exact (ped_if (by exact (PWD.pt (pwd_or (by exact (ptd_cmp opd_in ped_non (by exact (pvd 1)))) (by exact (pwd_or1 (by exact (ptd_cmp opd_gt (by exact (ped_callB cd_len (T.free 7) boot_len (by exact (pad_cons (by exact (pvd 1)) pad_nil)))) ped_int))))))) ped_non (by exact (pvd 1))))))))))))) ?pure (fun _ _ _ _ _ _ us hl => match us, hl with | [_], _ => rfl)
  case len =>
    intro ds S R E h
    (unfold sp_law_weights_of at h; obtain ⟨_, rfl, _⟩ := h; rfl)
  case pure =>
    intro ds S R E h
    obtain ⟨u, rfl, hl, hk, h⟩ := h
    have sl : (100000 : Nat) ≤ sizeLine := by decide
    have okm : PyData.strOk (Str.ofString "-") = true := okT_iff.mpr (okT_lit (by decide))
    simp! [sx_, r_eqS (okT_iff.mpr hk) okm]
    by_cases hu : u = Str.ofString "-"
    · simp! [sx_, hu, eq_self, decide_true, if_true]
      have e : lppl u = .tup [] := if_pos hu
      rw [e] at h; exact fin_same h
    · simp! [sx_, hu, decide_false, if_false]
      have e : lppl u = lpplL (Txt.split u (Str.ofString ",")) := if_neg hu
      rw [e] at h
      refine ⟨rfl, by omega, ?_⟩
      have hn : (Txt.split u (Str.ofString ",")).length ≤ u.length + 1 := split_length (by decide) (by decide +kernel)
      refine lc_map (Txt.split u (Str.ofString ",")) .str (fun _ => true) (fun p => lnum p 1000000) rfl (by omega) (fun _ _ => trivial) (fun p hp S' _ Rt Rn ht _ => ⟨_, rfl, ?_⟩) ?_
      · obtain ⟨g1, g2⟩ := split_part (y := Str.ofString ",") (by decide) (by decide +kernel) hp
        simp! [sx_, true_and]
        exact ⟨p, rfl, by omega, fun c hc => hk c (g1 c hc), ht rfl⟩
      rw [filt_true]
      simp! [sx_, List.length_map]
      have eI : ∀ (ds : List D) (R' : QD), opIn .non (.tup ds) S R' = opIn .non (.lst ds) S R' := fun _ _ => rfl
      rw [eI, r_inNonF (lnum_nf 1000000)]
      unfold lpplL at h
      by_cases ha : ((Txt.split u (Str.ofString ",")).map fun p => lnum p 1000000).any isNon = true
      · rw [if_pos (.inl ha)] at h
        simp! [sx_, ha, if_true]
        exact fin_same h
      · have ha2 : ((Txt.split u (Str.ofString ",")).map fun p => lnum p 1000000).any isNon = false := by simpa using ha
        by_cases h24 : 24 < (Txt.split u (Str.ofString ",")).length
        · rw [if_pos (.inr h24)] at h
          have h24' : (24 : Int) < ((Txt.split u (Str.ofString ",")).length : Nat) := by omega
          simp! [sx_, ha2, h24', if_true, if_false]
          exact fin_same h
        · rw [if_neg (fun z => z.elim ha h24)] at h
          have h24' : ¬ (24 : Int) < ((Txt.split u (Str.ofString ",")).length : Nat) := by omega
          simp! [sx_, ha2, h24', if_true, if_false]
          exact fin_same h
abbrev N_law_due : List Str := ["value", "words", "found", "index", "word"]
theorem sc_law_due : FnScope N_law_due ["value"] (defScope st_law_due) := ⟨rfl, rfl, rfl, by decide +kernel, rfl, by decide +kernel, by decide +kernel⟩
def sp_law_due : SpD := fun ds S R E => ∃ d : D, ds = [d] ∧ vok d = true ∧ (∀ u, d = .str u → u.length ≤ 600 ∧ okT u) ∧ R (pdue2 (ptow d)) S
theorem cal_law_due {f : Addr} (T : Txt FA K mg) (TX : ExT K EX) (TI : InT K IN) (TS : IsF K IN OW) (TB : ∀ c ∈ BA, bareB K c = true) (TC : conOk K CO = true) (F : FnP K "_law_due" "_law_due" st_law_due f) (gm : mg "_law_due" = some (.ref f)) (c_law_number : Cal P w K mg base 1 "_law_number" ["word"] sp_law_number) (c_law_weights_of : Cal P w K mg base 2 "_law_weights_of" ["word"] sp_law_weights_of) : Cal P w K mg base 3 "_law_due" ["value"] sp_law_due := by
  refine cal (k := 2) F gm sc_law_due ?len _ (fun cdv A outer s H E hr hgd tk =>
    have hu := hr.units
    have hp : PassesOwn (model P w) (cxOf (L2.CX P w) P w K mg base N_law_due "_law_due" (defScope st_law_due) f cdv A outer s H E).A (cxOf (L2.CX P w) P w K mg base N_law_due "_law_due" (defScope st_law_due) f cdv A outer s H E).env (cxOf (L2.CX P w) P w K mg base N_law_due "_law_due" (defScope st_law_due) f cdv A outer s H E).xe := passes_of rfl
    have nd := sc_law_due.nd
    (by exact (pssd_cons (by exact (psd_if (by exact (ptd_not (by exact (ptd_truth (by exact (ped_callB cd_isi (T.free 1) boot_isinstance (by exact (pad_cons (by exact (pvd 0)) (by exact (pad_cons (by exact (ped_type (T.free 17) boot_str)) pad_nil)))))))))) (by exact (pssd_one (by exact (psd_ret (by exact (ped_lst (by exact (pad_cons ped_str (by exact (pad_cons ped_non pad_nil)))))))))) pssd_nil))
    (by exact (pssd_cons (by exact (psd_par 1 2 rfl nd (by exact (pad_cons (by exact (ped_m PySem.F.plainAttrs_str PySem.F.slot_str_split PySem.F.type_str_split md_split (by exact (pvd 0)) (by exact (pad_cons ped_str pad_nil)))) (by exact (pad_cons (by exact (ped_new pad_nil)) pad_nil))))))
    (by exact (pssd_cons (by exact (psd_for hp rfl (by exact (pid_range1 (T.free 22) (by exact (pad_cons ped_int pad_nil)))) (by exact (pgd 3 nd))
    (by exact (pssd_cons (by exact (psd_if (by exact (ptd_cmp (opd_eq hu) (by exact (pvd 3)) (by exact (ped_callB cd_len (T.free 7) boot_len (by exact (pad_cons (by exact (pvd 1)) pad_nil)))))) (by exact (pssd_one (by exact (psd_ret (by exact (ped_lst (by exact (pad_cons ped_str (by exact (pad_cons (by exact (pvd 3)) pad_nil)))))))))) pssd_nil))
    (by exact (pssd_cons (by exact (psd_set 4 nd (by exact (ped_ix (by exact (pvd 1)) (by exact (pvd 3))))))
    (by exact (pssd_cons (by exact (psd_if (by exact (ptd_cmp (opd_eq hu) (by exact (pvd 3)) ped_int)) (by exact (pssd_one (by exact (psd_expr (by exact (ped_m PySem.F.plainAttrs_list PySem.F.slot_list_append PySem.F.type_list_append md_append (by exact (pvd 2)) (by exact (pad_cons (by exact (ped_callC c_law_number hr hgd tk (by exact (pad_cons (by exact (pvd 4)) pad_nil)))) pad_nil)))))))) (by exact (pssd_one (by exact (psd_if (by exact (ptd_cmp (opd_eq hu) (by exact (pvd 3)) ped_int)) (by exact (pssd_one (by exact (psd_expr (by exact (ped_m PySem.F.plainAttrs_list PySem.F.slot_list_append PySem.F.type_list_append md_append (by exact (pvd 2)) (by exact (pad_cons (by exact (ped_if (by exact (ptd_cmp (opd_eq hu) (by exact (pvd 4)) ped_str)) ped_str ped_non)) pad_nil)))))))) (by exact (pssd_one (by exact (psd_expr (by exact (ped_m PySem.F.plainAttrs_list PySem.F.slot_list_append PySem.F.type_list_append md_append (by exact (pvd 2)) (by exact (pad_cons (by exact (ped_callC c_law_weights_of hr hgd tk (by exact (pad_cons (by exact (pvd 4)) pad_nil)))) pad_nil))))))))))))))
    (by exact (pssd_one (by exact (psd_if (by exact (ptd_isN (by exact (ped_ix (by exact (pvd 2)) (by exact (ped_neg ped_int)))))) (by exact (pssd_one (by exact (psd_ret (by exact (ped_lst (by exact (pad_cons ped_str (by exact (pad_cons (by exact (pvd 3)) pad_nil)))))))))) pssd_nil))))))))))))
    (by exact (pssd_one (by exact (psd_ret (by exact (ped_if (by exact (ptd_cmp opd_gt (by exact (ped_callB cd_len (T.free 7) boot_len (by exact (pad_cons (by exact (pvd 1)) pad_nil)))) ped_int)) (by exact (ped_lst (by exact (pad_cons ped_str (by exact (pad_cons ped_int pad_nil)))))) (by exact (ped_tup (by exact (pad_cons (by exact (ped_ix (by exact (pvd 2)) ped_int)) (by exact (pad_cons (by exact (ped_ix (by exact (pvd 2)) ped_int)) pad_nil))))))))))))))))))) ?pure (fun _ _ _ _ _ _ us hl => match us, hl with | [_], _ => rfl)
  case len =>
    intro ds S R E h
    (unfold sp_law_due at h; obtain ⟨_, rfl, _⟩ := h; rfl)
  case pure =>
    intro ds S R E h
    obtain ⟨d, rfl, hv, hs, h⟩ := h
    cases d with
    | str u =>
      obtain ⟨hl, hk⟩ := hs u rfl
      have sl : (100000 : Nat) ≤ sizeLine := by decide
      have hP : ptow (.str u) = ptwL (Txt.split u (Str.ofString " ")) := rfl
      rw [hP] at h
      dsimp! [sx_, Bool.not_true, if_false]
      refine ⟨rfl, by omega, ?_⟩
      have hpart : ∀ p ∈ Txt.split u (Str.ofString " "), p.length ≤ 600 ∧ okT p := fun p hp => by
        obtain ⟨g1, g2⟩ := split_part (y := Str.ofString " ") (by decide) (by decide +kernel) hp
        exact ⟨by omega, fun c hc => hk c (g1 c hc)⟩
      have hlen : (Txt.split u (Str.ofString " ")).length ≤ u.length + 1 := split_length (by decide) (by decide +kernel)
      have hne := split_ne (x := u) (y := Str.ofString " ") (by decide) (by decide +kernel)
      generalize Txt.split u (Str.ofString " ") = ws at h hpart hne hlen ⊢
      rw [pdue2_eq, ptw_due _ hne] at h
      have hpos : 0 < ws.length := List.length_pos_iff.mpr hne
      intro p hp
      have W0 : ∀ L, Wk K S (put S p (.lst L)) := fun L => ((Mor.refl S).put hp (fun _ z => by cases z)).wk
      have oks : PyData.strOk (Str.ofString "/") = true := okT_iff.mpr (okT_lit (by decide))
      have hg : ∀ k, (ws.getD k Str.empty).length ≤ 600 ∧ okT (ws.getD k Str.empty) := fun k => by
        rw [List.getD_eq_getElem?_getD]
        cases e : ws[k]? with
        | none => exact ⟨Nat.zero_le _, fun c hc => by cases hc⟩
        | some w => exact hpart w (List.mem_of_getElem? e)
      rw [r_sFor]
      try dsimp! [sx_, true_and]
      refine ⟨fun k ρ' S' => ∃ (o3 o4 : Option D), ρ' = [some (.str u), some (.lst (ws.map .str)), some (.ref p), o3, o4] ∧ S' = put S p (.lst ([lnum (ws.getD 0 Str.empty) 1000000, .str "/", lppl (ws.getD 2 Str.empty)].take k)) ∧ k ≤ ws.length ∧ (0 < k → lk0 ws = true) ∧ (1 < k → lk1 ws = true) ∧ (2 < k → lk2 ws = true), ⟨_, _, rfl, rfl, Nat.zero_le _, fun z => by omega, fun z => by omega, fun z => by omega⟩, fun _ _ _ _ => trivial, ?_, ?_⟩
      · rintro k dk ρ' S' hk ⟨o3, o4, rfl, rfl, kl, g0, g1, g2⟩
        obtain ⟨kr, rfl⟩ := upto_get hk
        have kr : k < 3 := kr
        by_cases hkl : (k : Int) = (ws.length : Int)
        · have e0 : ((0 : Int) + (k : Int) = (ws.length : Nat)) = True := eq_true (by omega)
          simp! [sx_, List.length_map, e0, decide_true, if_true]
          refine fin_wk (W0 _) ?_
          rw [Int.zero_add]
          have k1 : k ≠ 0 := fun z => by omega
          rw [if_pos (g0 (by omega))] at h
          rcases (show k = 1 ∨ k = 2 by omega) with rfl | rfl
          · rw [lk1_no (by omega), if_neg Bool.false_ne_true] at h; exact h
          · rw [if_pos (g1 (by omega)), lk2_no (by omega), if_neg Bool.false_ne_true] at h; exact h
        · have hlt : k < ws.length := by omega
          have e0 : ((0 : Int) + (k : Int) = (ws.length : Nat)) = False := eq_false (by omega)
          have hA := at_ws hlt
          have c0 : ((0 : Nat) : Int) = 0 := rfl
          have c1 : ((1 : Nat) : Int) = 1 := rfl
          have c2 : ((2 : Nat) : Int) = 2 := rfl
          rcases (show k = 0 ∨ k = 1 ∨ k = 2 by omega) with rfl | rfl | rfl
          · simp! [sx_, List.length_map, e0, decide_false, if_false]
            refine ⟨_, hA, ?_⟩
            try simp! [sx_, c0, c1, c2, Int.zero_add, Int.reduceEq, Int.natCast_zero, Dl.r_lsR put_same, Dl.r_sqR put_same, Dl.r_ixR put_same, Dl.r_addN put_same, Dl.r_addlR put_same, Dl.r_lenR put_same, Dl.r_slR put_same, Dl.r_mR put_same, Dl.r_app put_same, Dl.r_joinR put_same, Dl.r_ilR put_same, Dl.r_pop put_same, List.take_succ_cons, List.take_zero, List.drop_succ_cons, List.drop_zero, List.drop_nil, List.nil_append, decide_true, Bool.not_true, Bool.not_false, if_true, if_false, eq_self, decide_false, if_false]
            refine ⟨_, rfl, (hg 0).1, (hg 0).2, ?_⟩
            try simp! [sx_, c0, c1, c2, Int.zero_add, Int.reduceEq, Int.natCast_zero, Dl.r_lsR put_same, Dl.r_sqR put_same, Dl.r_ixR put_same, Dl.r_addN put_same, Dl.r_addlR put_same, Dl.r_lenR put_same, Dl.r_slR put_same, Dl.r_mR put_same, Dl.r_app put_same, Dl.r_joinR put_same, Dl.r_ilR put_same, Dl.r_pop put_same, List.take_succ_cons, List.take_zero, List.drop_succ_cons, List.drop_zero, List.drop_nil, List.nil_append, decide_true, Bool.not_true, Bool.not_false, if_true, if_false, eq_self, decide_false, if_false]
            refine ⟨by omega, _, rfl, ?_⟩
            have eb : Dl.isNon (lnum (ws.getD 0 Str.empty) 1000000) = !lk0 ws := by unfold lk0; rw [Bool.not_not]
            rw [eb, put_put]
            cases hb : lk0 ws with
            | false =>
              rw [hb, if_neg Bool.false_ne_true] at h
              simp only [Bool.not_false, if_true]
              exact fin_wk (W0 _) h
            | true =>
              simp only [Bool.not_true, Bool.false_eq_true, if_false]
              exact ⟨_, _, rfl, (by trivial), by omega, fun _ => trivial, fun z => absurd z (by decide), fun z => absurd z (by decide)⟩
          · simp! [sx_, List.length_map, e0, decide_false, if_false]
            refine ⟨_, hA, ?_⟩
            try simp! [sx_, c0, c1, c2, Int.zero_add, Int.reduceEq, Int.natCast_zero, Dl.r_lsR put_same, Dl.r_sqR put_same, Dl.r_ixR put_same, Dl.r_addN put_same, Dl.r_addlR put_same, Dl.r_lenR put_same, Dl.r_slR put_same, Dl.r_mR put_same, Dl.r_app put_same, Dl.r_joinR put_same, Dl.r_ilR put_same, Dl.r_pop put_same, List.take_succ_cons, List.take_zero, List.drop_succ_cons, List.drop_zero, List.drop_nil, List.nil_append, decide_true, Bool.not_true, Bool.not_false, if_true, if_false, eq_self, decide_false, if_false]
            rw [r_eqS (okT_iff.mpr (hg 1).2) oks]
            try simp! [sx_, c0, c1, c2, Int.zero_add, Int.reduceEq, Int.natCast_zero, Dl.r_lsR put_same, Dl.r_sqR put_same, Dl.r_ixR put_same, Dl.r_addN put_same, Dl.r_addlR put_same, Dl.r_lenR put_same, Dl.r_slR put_same, Dl.r_mR put_same, Dl.r_app put_same, Dl.r_joinR put_same, Dl.r_ilR put_same, Dl.r_pop put_same, List.take_succ_cons, List.take_zero, List.drop_succ_cons, List.drop_zero, List.drop_nil, List.nil_append, decide_true, Bool.not_true, Bool.not_false, if_true, if_false, eq_self, decide_false, if_false]
            rw [if_pos (g0 (by omega)), lk1_eq (by omega)] at h
            by_cases hw : ws.getD 1 Str.empty = Str.ofString "/"
            · rw [if_pos hw]
              refine ⟨by omega, _, rfl, ?_⟩
              rw [if_neg (show ¬ Dl.isNon (.str (Str.ofString "/")) = true from Bool.false_ne_true), put_put]
              exact ⟨_, _, rfl, rfl, by omega, fun _ => g0 (by omega), fun _ => by rw [lk1_eq (by omega)]; exact decide_eq_true hw, fun z => absurd z (by decide)⟩
            · rw [if_neg hw]
              refine ⟨by omega, _, rfl, ?_⟩
              rw [if_pos (show Dl.isNon .non = true from rfl), put_put]
              rw [decide_eq_false hw, if_neg Bool.false_ne_true] at h
              exact fin_wk (W0 _) h
          · simp! [sx_, List.length_map, e0, decide_false, if_false]
            refine ⟨_, hA, ?_⟩
            try simp! [sx_, c0, c1, c2, Int.zero_add, Int.reduceEq, Int.natCast_zero, Dl.r_lsR put_same, Dl.r_sqR put_same, Dl.r_ixR put_same, Dl.r_addN put_same, Dl.r_addlR put_same, Dl.r_lenR put_same, Dl.r_slR put_same, Dl.r_mR put_same, Dl.r_app put_same, Dl.r_joinR put_same, Dl.r_ilR put_same, Dl.r_pop put_same, List.take_succ_cons, List.take_zero, List.drop_succ_cons, List.drop_zero, List.drop_nil, List.nil_append, decide_true, Bool.not_true, Bool.not_false, if_true, if_false, eq_self, decide_false, if_false]
            refine ⟨_, rfl, (hg 2).1, (hg 2).2, ?_⟩
            try simp! [sx_, c0, c1, c2, Int.zero_add, Int.reduceEq, Int.natCast_zero, Dl.r_lsR put_same, Dl.r_sqR put_same, Dl.r_ixR put_same, Dl.r_addN put_same, Dl.r_addlR put_same, Dl.r_lenR put_same, Dl.r_slR put_same, Dl.r_mR put_same, Dl.r_app put_same, Dl.r_joinR put_same, Dl.r_ilR put_same, Dl.r_pop put_same, List.take_succ_cons, List.take_zero, List.drop_succ_cons, List.drop_zero, List.drop_nil, List.nil_append, decide_true, Bool.not_true, Bool.not_false, if_true, if_false, eq_self, decide_false, if_false]
            refine ⟨by omega, _, rfl, ?_⟩
            have eb : Dl.isNon (lppl (ws.getD 2 Str.empty)) = !lk2 ws := by unfold lk2; rw [Bool.not_not]
            rw [eb, put_put]
            rw [if_pos (g0 (by omega)), if_pos (g1 (by omega))] at h
            cases hb : lk2 ws with
            | false =>
              rw [hb, if_neg Bool.false_ne_true] at h
              simp only [Bool.not_false, if_true]
              exact fin_wk (W0 _) h
            | true =>
              simp only [Bool.not_true, Bool.false_eq_true, if_false]
              exact ⟨_, _, rfl, (by trivial), by omega, fun _ => g0 (by omega), fun _ => g1 (by omega), fun _ => trivial⟩
      · rintro ρ' S' ⟨o3, o4, rfl, rfl, kl, g0, g1, g2⟩
        have u3 : (upto 0 3).length = 3 := upto_length _ _
        rw [u3] at kl g0 g1 g2 ⊢
        rw [if_pos (g0 (by omega)), if_pos (g1 (by omega)), if_pos (g2 (by omega))] at h
        by_cases h3 : ws.length = 3
        · have h3' : ¬ (3 : Int) < (ws.length : Int) := by omega
          rw [if_pos h3] at h
          simp! [sx_, List.length_map, at0, at2, Dl.r_lsR put_same, Dl.r_sqR put_same, Dl.r_ixR put_same, Dl.r_addN put_same, Dl.r_addlR put_same, Dl.r_lenR put_same, Dl.r_slR put_same, Dl.r_mR put_same, Dl.r_app put_same, Dl.r_joinR put_same, Dl.r_ilR put_same, Dl.r_pop put_same, List.take_succ_cons, List.take_zero, List.drop_succ_cons, List.drop_zero, List.drop_nil, List.nil_append, h3', if_false]
          exact fin_wk (W0 _) h
        · have h3' : (3 : Int) < (ws.length : Int) := by omega
          rw [if_neg h3] at h
          simp! [sx_, List.length_map, Dl.r_lsR put_same, Dl.r_sqR put_same, Dl.r_ixR put_same, Dl.r_addN put_same, Dl.r_addlR put_same, Dl.r_lenR put_same, Dl.r_slR put_same, Dl.r_mR put_same, Dl.r_app put_same, Dl.r_joinR put_same, Dl.r_ilR put_same, Dl.r_pop put_same, List.take_succ_cons, List.take_zero, List.drop_succ_cons, List.drop_zero, List.drop_nil, List.nil_append, h3', if_true]
          exact fin_wk (W0 _) h
    | int b => simp! [sx_, Bool.not_false, if_true]; exact fin_same h
    | bl b => simp! [sx_, Bool.not_false, if_true]; exact fin_same h
    | non => simp! [sx_, Bool.not_false, if_true]; exact fin_same h
    | tup b => simp! [sx_, Bool.not_false, if_true]; exact fin_same h
    | lst b => simp! [sx_, Bool.not_false, if_true]; exact fin_same h
    | dct b => simp! [sx_, Bool.not_false, if_true]; exact fin_same h
    | _ => cases hv
abbrev N_law_text : List Str := ["excess", "weights", "weight"]
theorem sc_law_text : FnScope N_law_text ["excess", "weights"] (defScope st_law_text) := ⟨rfl, rfl, rfl, by decide +kernel, rfl, by decide +kernel, by decide +kernel⟩
def sp_law_text : SpD := fun ds S R E => ∃ (e : Int) (ws : List Int), ds = [.int e, .tup (ws.map .int)] ∧ 0 ≤ e ∧ e < 1000000000 ∧ ws.length ≤ 1000 ∧ nn ws ∧ R (.str (ttxt e ws)) S
theorem cal_law_text {f : Addr} (T : Txt FA K mg) (TX : ExT K EX) (TI : InT K IN) (TS : IsF K IN OW) (TB : ∀ c ∈ BA, bareB K c = true) (TC : conOk K CO = true) (F : FnP K "_law_text" "_law_text" st_law_text f) (gm : mg "_law_text" = some (.ref f))  : Cal P w K mg base 1 "_law_text" ["excess", "weights"] sp_law_text := by
  refine cal (k := 0) F gm sc_law_text ?len _ (fun cdv A outer s H E hr hgd tk =>
    have hu := hr.units
    have hp : PassesOwn (model P w) (cxOf (L2.CX P w) P w K mg base N_law_text "_law_text" (defScope st_law_text) f cdv A outer s H E).A (cxOf (L2.CX P w) P w K mg base N_law_text "_law_text" (defScope st_law_text) f cdv A outer s H E).env (cxOf (L2.CX P w) P w K mg base N_law_text "_law_text" (defScope st_law_text) f cdv A outer s H E).xe := passes_of rfl
    have nd := sc_law_text.nd
    (by exact (pssd_one (by exact (psd_ret (by exact (ped_op opd_add (by exact (ped_op opd_add (by exact (ped_callTy cd_str (T.free 17) boot_str (by exact (pad_cons (by exact (pvd 0)) pad_nil)))) ped_str)) (by exact (ped_if (by exact (ptd_cmp (opd_eq hu) (by exact (pvd 1)) (by exact (ped_tup pad_nil)))) ped_str (by exact (ped_m PySem.F.plainAttrs_str PySem.F.slot_str_join PySem.F.type_str_join md_join ped_str (by exact (pad_cons (by exact (ped_lc (B := bd1 "weight" 2) rfl nd (by exact (pid_tup (by exact (pvd 1)))) (blkOk_by (N := N_law_text) (sc := defScope st_law_text) (by decide +kernel)) (fun _ _ _ _ _ => pg_name (i := 2) nd rfl (Or.inl rfl)) (fun _ _ _ _ _ => ptsd_nil) (fun _ _ _ _ _ => (by exact (ped_callTy cd_str (T.free 17) boot_str (by exact (pad_cons (by exact (pvd 2)) pad_nil))))))) pad_nil))))))))))))) ?pure (fun _ _ _ _ _ _ us hl => match us, hl with | [_, _], _ => rfl)
  case len =>
    intro ds S R E h
    (unfold sp_law_text at h; obtain ⟨_, _, rfl, _⟩ := h; rfl)
  case pure =>
    intro ds S R E h
    obtain ⟨e, ws, rfl, e0, e1, hl, hn, h⟩ := h
    have sl : (1000000 : Nat) ≤ sizeLine := by decide
    have l1 := dec_len e0 e1
    have l2 := len_wtxt hn hl
    have k1 : " / ".toList.length = 3 := rfl
    have k2 : "-".toList.length = 1 := rfl
    simp! [sx_, r_eqT0]
    refine ⟨log_ok (by omega), by rw [lit_len, k1]; omega, ?_⟩
    by_cases hw : ws = []
    · subst hw
      simp! [sx_, decide_true, if_true, len_app, lit_len]
      exact ⟨by omega, fin_same h⟩
    · simp! [sx_, hw, decide_false, if_false]
      refine lc_map ws .int (fun _ => true) (fun w => .str (toString w : String)) rfl (by omega) (fun _ _ => trivial) (fun w hw S' _ Rt Rn ht _ => ⟨_, rfl, ?_⟩) ?_
      · simp! [sx_, true_and]
        have := hn w hw
        exact ⟨log_ok (by omega), ht rfl⟩
      rw [filt_true]
      try simp! [sx_, true_and]
      refine ⟨_, strs_dec ws, ?_, ?_⟩
      · have := sum_wtxt hn
        rw [List.length_map, show (Str.ofString ",").length = 1 from rfl]; omega
      have jn : Txt.join (Str.ofString ",") (List.map dec ws) = wtxt ws := (if_neg hw).symm
      rw [jn]
      try simp! [sx_, len_app, lit_len]
      exact ⟨by omega, fin_same h⟩
abbrev NHoist_read : List Str := ["cls", "text"]
theorem scHoist_read : FnScope NHoist_read ["cls", "text"] (defScope stHoist_read) := ⟨rfl, rfl, rfl, by decide +kernel, rfl, by decide +kernel, by decide +kernel⟩
def spHoist_read : SpD := fun ds S R E => ∃ d : D, ds = [.glo "Hoist", d] ∧ vok d = true ∧ (∀ u, d = .str u → u.length ≤ 80000 ∧ okT u) ∧ (∀ e, ptow d = .inl e → E ⟨"BadText", ["index"], [e]⟩ S) ∧ (∀ t, Tw t → ptow d = .inr (twD t) → ∀ a S4, S a = none → S4 a = some (hob none [t] [] false) → Mor S S4 → R (.ref a) S4)
theorem calHoist_read (T : Txt FA K mg) (TX : ExT K EX) (TI : InT K IN) (TS : IsF K IN OW) (TB : ∀ c ∈ BA, bareB K c = true) (TC : conOk K CO = true) (F : ∃ fd, FunD K "read" "Hoist.read" (defArgs stHoist_read) (defBody stHoist_read) (defScope stHoist_read) [] [] (cG K "Hoist" "read") fd) (cparse_tower : Cal P w K mg base 6 "parse_tower" ["value"] spparse_tower) (cHoist___init__ : CalM P w K mg base 4 "Hoist" "__init__" ["self", "tower"] spHoist___init__) : CalCm P w K mg base 7 "Hoist" "read" ["cls", "text"] spHoist_read := by
  refine calCm (k := 6) F scHoist_read ?len _ (fun cdv A outer s H E hr hgd tk =>
    have hu := hr.units
    have hp : PassesOwn (model P w) (cxOf (L2.CX P w) P w K mg base NHoist_read "Hoist.read" (defScope stHoist_read) (cG K "Hoist" "read") cdv A outer s H E).A (cxOf (L2.CX P w) P w K mg base NHoist_read "Hoist.read" (defScope stHoist_read) (cG K "Hoist" "read") cdv A outer s H E).env (cxOf (L2.CX P w) P w K mg base NHoist_read "Hoist.read" (defScope stHoist_read) (cG K "Hoist" "read") cdv A outer s H E).xe := passes_of rfl
    have nd := scHoist_read.nd
    (by exact (pssd_one (by exact (psd_ret (by exact (ped_makeE TI cHoist___init__ hr hgd tk (by exact (pvd 0)) (by exact (pad_cons (by exact (ped_callC cparse_tower hr hgd tk (by exact (pad_cons (by exact (pvd 1)) pad_nil)))) pad_nil))))))))) ?pure (fun _ _ _ _ _ _ us hl => match us, hl with | [_, _], _ => rfl)
  case len =>
    intro ds S R E h
    (unfold spHoist_read at h; obtain ⟨_, rfl, _⟩ := h; rfl)
  case pure =>
    intro ds S R E h
    obtain ⟨d, rfl, hv, hs, h1, h2⟩ := h
    simp! [sx_, true_and]
    refine ⟨d, rfl, hv, hs, fun e he => ?_, fun r hr => ?_⟩
    · exact ⟨S, Wk.refl S, h1 e he⟩
    · intro a ha
      rcases ptow_cases d (fun u e => (hs u e).1) with k | ⟨k, e, _⟩ | ⟨t, ht, e⟩
      · rw [k] at hr; cases hr
      · rw [e] at hr; cases hr
      · rw [e] at hr; cases hr
        refine ⟨a, S, t, rfl, ha, rfl, ht, fun S4 k4 m4 => ⟨rfl, fin_same (h2 t ht e a S4 ha k4 m4)⟩⟩
abbrev N_law_read : List Str := ["value", "e"]
theorem sc_law_read : FnScope N_law_read ["value"] (defScope st_law_read) := ⟨rfl, rfl, rfl, by decide +kernel, rfl, by decide +kernel, by decide +kernel⟩
def sp_law_read : SpD := fun ds S R E => ∃ d : D, ds = [d] ∧ vok d = true ∧ (∀ u, d = .str u → u.length ≤ 600 ∧ okT u) ∧ (∀ e, ptow d = .inl e → R (.lst [.str "text", e]) S) ∧ (∀ t, Tw t → ptow d = .inr (twD t) → ∀ a S4, S a = none → S4 a = some (hob none [t] [] false) → Mor S S4 → R (.ref a) S4)
theorem cal_law_read {f : Addr} (T : Txt FA K mg) (TX : ExT K EX) (TI : InT K IN) (TS : IsF K IN OW) (TB : ∀ c ∈ BA, bareB K c = true) (TC : conOk K CO = true) (F : FnP K "_law_read" "_law_read" st_law_read f) (gm : mg "_law_read" = some (.ref f)) (cHoist_read : CalCm P w K mg base 7 "Hoist" "read" ["cls", "text"] spHoist_read) : Cal P w K mg base 8 "_law_read" ["value"] sp_law_read := by
  refine cal (k := 7) F gm sc_law_read ?len _ (fun cdv A outer s H E hr hgd tk =>
    have hu := hr.units
    have hp : PassesOwn (model P w) (cxOf (L2.CX P w) P w K mg base N_law_read "_law_read" (defScope st_law_read) f cdv A outer s H E).A (cxOf (L2.CX P w) P w K mg base N_law_read "_law_read" (defScope st_law_read) f cdv A outer s H E).env (cxOf (L2.CX P w) P w K mg base N_law_read "_law_read" (defScope st_law_read) f cdv A outer s H E).xe := passes_of rfl
    have nd := sc_law_read.nd
    (by exact (pssd_cons (by exact (psd_tryAs (i := 1) TX nd tk (T.glo 32)
    (fun W' pn xe tk hp => (by exact (pssd_one (by exact (psd_ret (by exact (ped_cmeth TI cHoist_read hr hgd tk (T.glo 24) (by exact (pad_cons (by exact (pvd 0)) pad_nil)))))))))
    (fun a oe C d pn hz hd => (by exact (pssd_one (by exact (psd_if (by exact (PWD.pt (pwd_and (by exact (ptd_truth (by exact (ped_callB (cd_isE TX hz hd) (T.free 1) boot_isinstance (by exact (pad_cons (by exact (pvd 1)) (by exact (pad_cons (by exact (ped_gref (T.glo 0))) pad_nil)))))))) (by exact (pwd_and (by exact (ptd_truth (by exact (ped_callB (cd_isE TX hz hd) (T.free 1) boot_isinstance (by exact (pad_cons (by exact (pvd 1)) (by exact (pad_cons (by exact (ped_type (T.free 31) boot_ValueError)) pad_nil)))))))) (by exact (pwd_and1 (by exact (ptd_not (by exact (ptd_truth (by exact (ped_callB (cd_isE TX hz hd) (T.free 1) boot_isinstance (by exact (pad_cons (by exact (pvd 1)) (by exact (pad_cons (by exact (ped_tup (by exact (pad_cons (by exact (ped_gref (T.glo 30))) (by exact (pad_cons (by exact (ped_gref (T.glo 29))) (by exact (pad_cons (by exact (ped_gref (T.glo 28))) pad_nil)))))))) pad_nil))))))))))))))))) (by exact (pssd_one (by exact (psd_ret (by exact (ped_lst (by exact (pad_cons ped_str (by exact (pad_cons (by exact (ped_xf TX hz hd (by exact (pvd 1)))) pad_nil)))))))))) pssd_nil)))))))
    (by exact (pssd_one (by exact (psd_ret (by exact (ped_lst (by exact (pad_cons ped_str pad_nil))))))))))) ?pure (fun _ _ _ _ _ _ us hl => match us, hl with | [_], _ => rfl)
  case len =>
    intro ds S R E h
    (unfold sp_law_read at h; obtain ⟨_, rfl, _⟩ := h; rfl)
  case pure =>
    intro ds S R E h
    obtain ⟨d, rfl, hv, hs, h1, h2⟩ := h
    simp! [sx_, true_and]
    refine ⟨ic_Hoist_read, d, rfl, hv, fun u e => ⟨by have := (hs u e).1; omega, (hs u e).2⟩, fun e he => ?_, fun t ht et a S4 na k4 m4 => fin_same (h2 t ht et a S4 na k4 m4)⟩
    have h := h1 e he
    refine ⟨true, em_BadText_RopeError, fun _ x dd hx => ?_, fun z => nomatch z⟩
    simp! [sx_, em_BadText_RopeError, em_BadText_Busy, em_BadText_TooManyEdits, em_BadText_TooManyPeople, em_BadText_NothingToUndo, em_BadText_TooLarge, em_BadText_BadLoad, em_BadText_BadExcess, em_BadText_BadTower, em_BadText_BadWeight, em_BadText_BadNumber, em_BadText_TooLow, em_BadText_BadText, em_BadText_NoPerson, em_BadText_NoVersion, eg_BadText_RopeError, eg_BadText_Busy, eg_BadText_TooManyEdits, eg_BadText_TooManyPeople, eg_BadText_NothingToUndo, eg_BadText_TooLarge, eg_BadText_BadLoad, eg_BadText_BadExcess, eg_BadText_BadTower, eg_BadText_BadWeight, eg_BadText_BadNumber, eg_BadText_TooLow, eg_BadText_BadText, eg_BadText_NoPerson, eg_BadText_NoVersion, et_BadText_ValueError, et_BadText_LookupError, r_anyT eg_BadText_RopeError, r_anyF eg_BadText_Busy, r_anyF eg_BadText_TooManyEdits, r_anyF eg_BadText_TooManyPeople, r_anyF eg_BadText_NothingToUndo, r_anyF eg_BadText_TooLarge, r_anyF eg_BadText_BadLoad, r_anyF eg_BadText_BadExcess, r_anyF eg_BadText_BadTower, r_anyF eg_BadText_BadWeight, r_anyF eg_BadText_BadNumber, r_anyF eg_BadText_TooLow, r_anyT eg_BadText_BadText, r_anyF eg_BadText_NoPerson, r_anyF eg_BadText_NoVersion, r_anyTt et_BadText_ValueError, r_anyFt et_BadText_LookupError, Bool.not_true, Bool.not_false, if_true, if_false]
    rw [r_xf1 ef_BadText rfl]
    exact fin_same h
abbrev N_law_edits_right : List Str := ["table", "tower", "found", "e"]
theorem sc_law_edits_right : FnScope N_law_edits_right ["table", "tower"] (defScope st_law_edits_right) := ⟨rfl, rfl, rfl, by decide +kernel, rfl, by decide +kernel, by decide +kernel⟩
def sp_law_edits_right : SpD := fun ds S R E => ∃ (a : Addr) (t : Twr), ds = [.ref a, twD t] ∧ S a = some (hob none [t] [] false) ∧ Tw t ∧ R (.bl true) S
theorem cal_law_edits_right {f : Addr} (T : Txt FA K mg) (TX : ExT K EX) (TI : InT K IN) (TS : IsF K IN OW) (TB : ∀ c ∈ BA, bareB K c = true) (TC : conOk K CO = true) (F : FnP K "_law_edits_right" "_law_edits_right" st_law_edits_right f) (gm : mg "_law_edits_right" = some (.ref f)) (cHoist_loosen : CalM P w K mg base 5 "Hoist" "loosen" ["self", "excess"] spHoist_loosen) (cHoist_state : CalK P w K mg base 3 "Hoist" "state" ["self"] "version" spHoist_state) (cHoist_undo : CalM P w K mg base 2 "Hoist" "undo" ["self"] spHoist_undo) : Cal P w K mg base 6 "_law_edits_right" ["table", "tower"] sp_law_edits_right := by
  refine cal (k := 5) F gm sc_law_edits_right ?len _ (fun cdv A outer s H E hr hgd tk =>
    have hu := hr.units
    have hp : PassesOwn (model P w) (cxOf (L2.CX P w) P w K mg base N_law_edits_right "_law_edits_right" (defScope st_law_edits_right) f cdv A outer s H E).A (cxOf (L2.CX P w) P w K mg base N_law_edits_right "_law_edits_right" (defScope st_law_edits_right) f cdv A outer s H E).env (cxOf (L2.CX P w) P w K mg base N_law_edits_right "_law_edits_right" (defScope st_law_edits_right) f cdv A outer s H E).xe := passes_of rfl
    have nd := sc_law_edits_right.nd
    (by exact (pssd_cons (by exact (psd_set 2 nd ped_bl))
    (by exact (pssd_cons (by exact (psd_if (by exact (PWD.pt (pwd_or (by exact (ptd_cmp (opd_ne hu) (by exact (ped_meth TI (all1 cHoist_loosen) hr hgd tk (by exact (pvd 0)) (by exact (pad_cons ped_int pad_nil)))) ped_int)) (by exact (pwd_or (by exact (ptd_cmp (opd_ne hu) (by exact (ped_methK0 TI (all1 cHoist_state) hr hgd tk (by exact (pvd 0)) ped_int)) (by exact (pvd 1)))) (by exact (pwd_or1 (by exact (ptd_cmp (opd_ne hu) (by exact (ped_meth0 TI (all1 cHoist_undo) hr hgd tk (by exact (pvd 0)))) ped_int))))))))) (by exact (pssd_one (by exact (psd_ret ped_bl)))) pssd_nil))
    (by exact (pssd_cons (by exact (psd_tryAs (i := 3) TX nd tk (T.glo 26)
    (fun W' pn xe tk hp => (by exact (pssd_one (by exact (psd_set 2 nd (by exact (ped_cmp opd_lt (by exact (ped_meth0 TI (all1 cHoist_undo) hr hgd tk (by exact (pvd 0)))) ped_int)))))))
    (fun a oe C d pn hz hd => (by exact (pssd_one (by exact (psd_set 2 nd ped_bl)))))))
    (by exact (pssd_one (by exact (psd_ret (by exact (pvd 2))))))))))))) ?pure (fun _ _ _ _ _ _ us hl => match us, hl with | [_, _], _ => rfl)
  case len =>
    intro ds S R E h
    (unfold sp_law_edits_right at h; obtain ⟨_, _, rfl, _⟩ := h; rfl)
  case pure =>
    intro ds S R E h
    obtain ⟨a, t, rfl, ha, ht, h⟩ := h
    simp! [sx_, r_mtH (xs := IN) (m := "loosen") ha im_Hoist_loosen]
    refine ⟨a, _, _, t, 7, rfl, ha, rfl, rfl, ht, ⟨by decide, by decide⟩, by decide, ?_⟩
    have ha2 : put S a (hob none [t, after t (.loosen 7)] [.loosen 7] false) a = some (hob none [t, after t (.loosen 7)] [.loosen 7] false) := put_same
    have c1 : ((1 : Nat) : Int) = 1 := rfl
    try simp! [sx_, List.length_nil, c1, r_mtKH (xs := IN) (m := "state") ha2 im_Hoist_state, r_mtH (xs := IN) (m := "undo") ha2 im_Hoist_undo, decide_true, Bool.not_true, Bool.not_false, if_true, if_false, eq_self]
    refine ⟨a, _, _, _, t, .int 0, rfl, ha2, rfl, .inr ⟨0, rfl, by decide, rfl⟩, ?_⟩
    try dsimp only
    rw [r_neTw]
    try simp! [sx_, r_mtH (xs := IN) (m := "undo") ha2 im_Hoist_undo, decide_true, Bool.not_true, Bool.not_false, if_true, if_false, eq_self]
    refine ⟨a, _, _, rfl, ha2, rfl, fun z => (by cases z), fun _ => ?_⟩
    rw [put_put, show hob none [t, after t (.loosen 7)].dropLast [Edt.loosen 7].dropLast false = hob none [t] [] false from rfl, put_self ha]
    try simp! [sx_, r_mtH (xs := IN) (m := "undo") ha im_Hoist_undo, List.length_cons, List.length_nil, Nat.reduceSub, Int.natCast_zero, decide_true, Bool.not_true, Bool.not_false, if_true, if_false, eq_self]
    refine ⟨a, _, _, rfl, ha, rfl, fun _ => ⟨true, em_NothingToUndo_NothingToUndo, fun _ x dd hx => ?_, fun z => nomatch z⟩, fun z => absurd rfl z⟩
    exact fin_same h
abbrev Nlaw : List Str := ["script", "deck", "turn", "excess", "weights", "value", "at", "some", "mark", "odd", "text", "due", "found"]
theorem sclaw : FnScope Nlaw ["script"] (defScope stlaw) := ⟨rfl, rfl, rfl, by decide +kernel, rfl, by decide +kernel, by decide +kernel⟩
def splaw : SpD := spLaw
theorem callaw {f : Addr} {fd : FuncData} (T : Txt FA K mg) (TX : ExT K EX) (TI : InT K IN) (TS : IsF K IN OW) (TB : ∀ c ∈ BA, bareB K c = true) (TC : conOk K CO = true) (F : FunD K "law" "law" (defArgs stlaw) (defBody stlaw) (defScope stlaw) [] [] f fd) (c_law_deck : Cal P w K mg base 1 "_law_deck" ["script"] sp_law_deck) (c_law_draw : Cal P w K mg base 1 "_law_draw" ["deck", "many"] sp_law_draw) (c_law_tower : Cal P w K mg base 3 "_law_tower" ["deck", "most"] sp_law_tower) (c_law_text : Cal P w K mg base 1 "_law_text" ["excess", "weights"] sp_law_text) (c_law_due : Cal P w K mg base 3 "_law_due" ["value"] sp_law_due) (c_law_read : Cal P w K mg base 8 "_law_read" ["value"] sp_law_read) (c_law_right : Cal P w K mg base 4 "_law_right" ["table", "tower", "edits"] sp_law_right) (c_law_edits_right : Cal P w K mg base 6 "_law_edits_right" ["table", "tower"] sp_law_edits_right) (cHoist___eq__ : CalM P w K mg base 2 "Hoist" "__eq__" ["self", "other"] spHoist___eq__) (cHoist___init__ : CalM P w K mg base 4 "Hoist" "__init__" ["self", "tower"] spHoist___init__) : FnD P w K mg base 9 f fd ["script"] splaw := by
  refine fnD (k := 8) F sclaw ?len _ (fun cdv A outer s H E hr hgd tk =>
    have hu := hr.units
    have hp : PassesOwn (model P w) (cxOf (L2.CX P w) P w K mg base Nlaw "law" (defScope stlaw) f cdv A outer s H E).A (cxOf (L2.CX P w) P w K mg base Nlaw "law" (defScope stlaw) f cdv A outer s H E).env (cxOf (L2.CX P w) P w K mg base Nlaw "law" (defScope stlaw) f cdv A outer s H E).xe := passes_of rfl
    have nd := sclaw.nd
    (by exact (pssd_cons (by exact (psd_set 1 nd (by exact (ped_callC c_law_deck hr hgd tk (by exact (pad_cons (by exact (pvd 0)) pad_nil))))))
    (by exact (pssd_cons (by exact (psd_for hp rfl (by exact (pid_range1 (T.free 22) (by exact (pad_cons ped_int pad_nil)))) (by exact (pgd 2 nd))
    (by exact (pssd_cons (by exact (psd_asg (by exact (ped_callC c_law_tower hr hgd tk (by exact (pad_cons (by exact (pvd 1)) (by exact (pad_cons (by exact (ped_ix (by exact (ped_lst (by exact (pad_cons ped_int (by exact (pad_cons ped_int pad_nil)))))) (by exact (ped_op opd_mod (by exact (pvd 2)) ped_int)))) pad_nil)))))) (by exact (pgd_tup (n := 2) rfl (pgsd_cons (by exact (pgd 3 nd)) (by exact (pgsd_cons (by exact (pgd 4 nd)) pgsd_nil)))))))
    (by exact (pssd_cons (by exact (psd_set 5 nd (by exact (ped_callC c_law_text hr hgd tk (by exact (pad_cons (by exact (pvd 3)) (by exact (pad_cons (by exact (ped_op opd_add (by exact (pvd 4)) (by exact (ped_op opd_mulA (by exact (ped_tup (by exact (pad_cons ped_int pad_nil)))) (by exact (ped_op opd_mul ped_int (by exact (ped_callTy cd_int (T.free 3) boot_int (by exact (pad_cons (by exact (ped_cmp (opd_eq hu) (by exact (ped_callC c_law_draw hr hgd tk (by exact (pad_cons (by exact (pvd 1)) (by exact (pad_cons ped_int pad_nil)))))) ped_int)) pad_nil)))))))))) pad_nil))))))))
    (by exact (pssd_cut (by exact (psd_if (by exact (ptd_cmp (opd_eq hu) (by exact (ped_callC c_law_draw hr hgd tk (by exact (pad_cons (by exact (pvd 1)) (by exact (pad_cons ped_int pad_nil)))))) ped_int)) (by exact (pssd_cons (by exact (psd_set 6 nd (by exact (ped_callC c_law_draw hr hgd tk (by exact (pad_cons (by exact (pvd 1)) (by exact (pad_cons (by exact (ped_op opd_add (by exact (ped_callB cd_len (T.free 7) boot_len (by exact (pad_cons (by exact (pvd 5)) pad_nil)))) ped_int)) pad_nil))))))))
    (by exact (pssd_cons (by exact (psd_set 7 nd (by exact (ped_lst (by exact (pad_cons ped_str (by exact (pad_cons ped_str (by exact (pad_cons ped_str (by exact (pad_cons ped_str (by exact (pad_cons ped_str (by exact (pad_cons ped_str (by exact (pad_cons ped_str (by exact (pad_cons ped_str (by exact (pad_cons ped_str (by exact (pad_cons ped_str (by exact (pad_cons ped_str (by exact (pad_cons ped_str (by exact (pad_cons ped_str (by exact (pad_cons ped_str (by exact (pad_cons ped_str pad_nil))))))))))))))))))))))))))))))))))
    (by exact (pssd_cons (by exact (psd_set 8 nd (by exact (ped_ix (by exact (pvd 7)) (by exact (ped_callC c_law_draw hr hgd tk (by exact (pad_cons (by exact (pvd 1)) (by exact (pad_cons ped_int pad_nil))))))))))
    (by exact (pssd_one (by exact (psd_set 5 nd (by exact (ped_op opd_add (by exact (ped_op opd_add (by exact (ped_slice (by exact (pvd 5)) pod_none (by exact (pod_some (by exact (pvd 6)))))) (by exact (pvd 8)))) (by exact (ped_slice (by exact (pvd 5)) (by exact (pod_some (by exact (ped_op opd_add (by exact (pvd 6)) (by exact (ped_callC c_law_draw hr hgd tk (by exact (pad_cons (by exact (pvd 1)) (by exact (pad_cons ped_int pad_nil)))))))))) pod_none)))))))))))))) pssd_nil))
    (by exact (pssd_cons (by exact (psd_set 9 nd (by exact (ped_lst (by exact (pad_cons ped_non (by exact (pad_cons ped_int (by exact (pad_cons ped_bl (by exact (pad_cons (by exact (ped_tup pad_nil)) (by exact (pad_cons (by exact (ped_lst pad_nil)) (by exact (pad_cons ped_dict0 (by exact (pad_cons ped_str (by exact (pad_cons ped_str (by exact (pad_cons ped_str (by exact (pad_cons ped_str (by exact (pad_cons ped_str (by exact (pad_cons ped_str (by exact (pad_cons ped_str (by exact (pad_cons ped_str (by exact (pad_cons ped_str (by exact (pad_cons ped_str pad_nil))))))))))))))))))))))))))))))))))))
    (by exact (pssd_one (by exact (psd_for hp rfl (by exact (pid_list (by exact (ped_lst (by exact (pad_cons (by exact (pvd 5)) (by exact (pad_cons (by exact (ped_ix (by exact (pvd 9)) (by exact (ped_callC c_law_draw hr hgd tk (by exact (pad_cons (by exact (pvd 1)) (by exact (pad_cons ped_int pad_nil)))))))) pad_nil)))))))) (by exact (pgd 10 nd))
    (by exact (pssd_cons (by exact (psd_par 11 12 rfl nd (by exact (pad_cons (by exact (ped_callC c_law_due hr hgd tk (by exact (pad_cons (by exact (pvd 10)) pad_nil)))) (by exact (pad_cons (by exact (ped_callC c_law_read hr hgd tk (by exact (pad_cons (by exact (pvd 10)) pad_nil)))) pad_nil))))))
    (by exact (pssd_one (by exact (psd_if (by exact (ptd_truth (by exact (ped_callB cd_isi (T.free 1) boot_isinstance (by exact (pad_cons (by exact (pvd 11)) (by exact (pad_cons (by exact (ped_type (T.free 33) boot_list)) pad_nil)))))))) (by exact (pssd_one (by exact (psd_if (by exact (PWD.pt (pwd_or (by exact (ptd_not (by exact (ptd_truth (by exact (ped_callB (cd_isX TS) (T.free 1) boot_isinstance (by exact (pad_cons (by exact (pvd 12)) (by exact (pad_cons (by exact (ped_type (T.free 33) boot_list)) pad_nil)))))))))) (by exact (pwd_or1 (by exact (ptd_cmp (opd_ne hu) (by exact (ped_callB (cd_repr hgd hu) (T.free 27) boot_repr (by exact (pad_cons (by exact (pvd 12)) pad_nil)))) (by exact (ped_callB (cd_repr hgd hu) (T.free 27) boot_repr (by exact (pad_cons (by exact (pvd 11)) pad_nil))))))))))) (by exact (pssd_one (by exact (psd_ret ped_bl)))) pssd_nil)))) (by exact (pssd_one (by exact (psd_if (by exact (PWD.pt (pwd_or (by exact (ptd_truth (by exact (ped_callB (cd_isX TS) (T.free 1) boot_isinstance (by exact (pad_cons (by exact (pvd 12)) (by exact (pad_cons (by exact (ped_type (T.free 33) boot_list)) pad_nil)))))))) (by exact (pwd_or (by exact (ptd_truth (by exact (ped_callB (cd_isX TS) (T.free 1) boot_isinstance (by exact (pad_cons (by exact (pvd 12)) (by exact (pad_cons (by exact (ped_gref (T.glo 34))) pad_nil)))))))) (by exact (pwd_or1 (by exact (ptd_cmp (opd_ne hu) (by exact (ped_con TI TC (by exact (pvd 12)))) ped_int))))))))) (by exact (pssd_one (by exact (psd_ret ped_bl)))) (by exact (pssd_one (by exact (psd_if (by exact (PWD.pt (pwd_or (by exact (ptd_not (by exact (ptd_truth (by exact (ped_callC c_law_right hr hgd tk (by exact (pad_cons (by exact (pvd 12)) (by exact (pad_cons (by exact (pvd 11)) (by exact (pad_cons (by exact (ped_lst pad_nil)) pad_nil)))))))))))) (by exact (pwd_or1 (by exact (ptd_not (by exact (ptd_cmp (opd_eqO TI (all1 cHoist___eq__) hr hgd) (by exact (pvd 12)) (by exact (ped_make TI cHoist___init__ hr hgd tk (T.glo 24) (by exact (pad_cons (by exact (pvd 11)) pad_nil))))))))))))) (by exact (pssd_one (by exact (psd_ret ped_bl)))) (by exact (pssd_one (by exact (psd_if (by exact (PWD.pt (pwd_or (by exact (ptd_not (by exact (ptd_truth (by exact (ped_callC c_law_edits_right hr hgd tk (by exact (pad_cons (by exact (pvd 12)) (by exact (pad_cons (by exact (pvd 11)) pad_nil)))))))))) (by exact (pwd_or1 (by exact (ptd_not (by exact (ptd_truth (by exact (ped_callC c_law_right hr hgd tk (by exact (pad_cons (by exact (pvd 12)) (by exact (pad_cons (by exact (pvd 11)) (by exact (pad_cons (by exact (ped_lst pad_nil)) pad_nil))))))))))))))))) (by exact (pssd_one (by exact (psd_ret ped_bl)))) pssd_nil))))))))))))))))))))))))))))))))
    (by exact (pssd_one (by exact (psd_ret ped_bl))))))))) ?pure 
  case len =>
    intro ds S R E h
    (obtain ⟨_, rfl, _⟩ := h; rfl)
  case pure =>
    intro ds S R E h
    obtain ⟨ns, rfl, hl, hS0, h⟩ := h
    have sl : (100000 : Nat) ≤ sizeLine := by decide
    dsimp! [sx_, true_and]
    refine ⟨ns, rfl, hl, fun a S1 ha hm => ?_⟩
    try dsimp only
    rw [r_sFor]
    try dsimp! [sx_, true_and]
    refine ⟨fun k ρ' S' => (∃ (o2 o3 o4 o5 o6 o7 o8 o9 o10 o11 o12 : Option D), ρ' = [some (.scr ns), some (.ref a), o2, o3, o4, o5, o6, o7, o8, o9, o10, o11, o12]) ∧ ∃ n : Nat, n ≤ 300 * k ∧ S' a = some (.draw false n), ⟨⟨_, _, _, _, _, _, _, _, _, _, _, rfl⟩, 0, Nat.zero_le _, ha⟩, fun _ _ _ _ => trivial, ?_, ?_⟩
    · rintro k dk ρ' S' hk ⟨⟨o2, o3, o4, o5, o6, o7, o8, o9, o10, o11, o12, rfl⟩, n, hn, ha⟩
      obtain ⟨kr, rfl⟩ := upto_get hk
      have kr : k < 6 := kr
      dsimp! [sx_, true_and]
      have k2 := emod_bd (0 + (k : Int)) (b := 2) (by decide)
      obtain ⟨d, hd, e1⟩ := at_lt (xs := [D.int 4, .int 24]) k2.1 k2.2
      obtain ⟨m, rfl, m0, m1⟩ : ∃ m : Int, d = .int m ∧ 0 ≤ m ∧ m ≤ 24 := by
        simp only [List.mem_cons, List.not_mem_nil, or_false] at hd
        rcases hd with rfl | rfl <;> exact ⟨_, rfl, by decide, by decide⟩
      try dsimp! [sx_, e1]
      refine ⟨_, _, _, rfl, ha, by omega, m0, m1, fun t ht htl => ?_⟩
      have hn24 := ht.n
      try dsimp! [sx_, (show ∀ t : Twr, twD t = .tup [.int t.1, .tup (t.2.map .int)] from fun _ => rfl)]
      refine ⟨_, _, _, rfl, put_same, by omega, by decide, by decide, fun x x0 x1 => ?_⟩
      rw [put_put]
      generalize eb : (if x = 0 then (1 : Int) else 0) = bx
      have hb : bx = 0 ∨ bx = 1 := by rw [← eb]; split <;> simp
      try dsimp! [sx_, eb, r_mulA]
      rw [repl_ints, ← List.map_append]
      have hN : (25 * bx).toNat ≤ 25 := by omega
      have hw2 : (t.2 ++ List.replicate (25 * bx).toNat (7 : Int)).length ≤ 49 := by rw [List.length_append, List.length_replicate]; omega
      have hnn : nn (t.2 ++ List.replicate (25 * bx).toNat (7 : Int)) := fun w hw => by
        rcases List.mem_append.mp hw with z | z
        · exact ht.nn w z
        · rw [(List.mem_replicate.mp z).2]; exact ⟨by decide, by decide⟩
      have he := ht.e
      refine ⟨cmul_l, by simp, by omega, by rw [List.length_map, List.length_map, List.length_replicate]; omega, t.1, _, rfl, by omega, by omega, by omega, hnn, ?_⟩
      have hv1 := len_ttxt (e := t.1) ⟨by omega, by omega⟩ hnn
      have hv2 := ok_ttxt t.1 (t.2 ++ List.replicate (25 * bx).toNat (7 : Int))
      generalize ttxt t.1 (t.2 ++ List.replicate (25 * bx).toNat (7 : Int)) = v at hv1 hv2 ⊢
      have hv1 : v.length ≤ 503 := by omega
      clear hnn hw2 hN eb hb
      refine ⟨fun ρ' S2 => ∃ (v' : Str) (o3 o4 o6 o7 o8 o9 o10 o11 o12 : Option D) (n' : Nat), ρ' = [some (.scr ns), some (.ref a), some (.int (0 + (k : Int))), o3, o4, some (.str v'), o6, o7, o8, o9, o10, o11, o12] ∧ S2 a = some (.draw false n') ∧ n' ≤ n + 210 ∧ v'.length ≤ 520 ∧ okT v', ?_, ?_⟩
      · try dsimp! [sx_, true_and]
        refine ⟨_, _, _, rfl, put_same, by omega, by decide, by decide, fun y y0 y1 => ?_⟩
        rw [put_put]
        try dsimp! [sx_, true_and]
        by_cases hy : y = 0
        · dsimp! [sx_, hy, eq_self, decide_true, if_true]
          refine ⟨by omega, _, _, _, rfl, put_same, by omega, by omega, by omega, fun p p0 p1 => ?_⟩
          rw [put_put]
          try dsimp! [sx_, true_and]
          refine ⟨by decide, _, _, _, rfl, put_same, by omega, by decide, by decide, fun q q0 q1 => ?_⟩
          rw [put_put]
          obtain ⟨d, hd, e2⟩ := at_lt (xs := ["0", "7", " ", ",", "/", ":", "-", "+", "_", "x", "", "  ", "\n", " / ", "1000001"].map fun z => D.str (Str.ofString z)) q0 q1
          have hz0 : ∀ z ∈ ["0", "7", " ", ",", "/", ":", "-", "+", "_", "x", "", "  ", "\n", " / ", "1000001"], (Str.ofString z).length ≤ 7 ∧ z.toList.all (fun c => decide (c.toNat < 0x110000)) = true := by decide
          obtain ⟨z, rfl, z0, z1⟩ : ∃ z : Str, d = .str z ∧ z.length ≤ 7 ∧ okT z := by
            obtain ⟨z, hz, rfl⟩ := List.mem_map.mp hd
            exact ⟨_, rfl, (hz0 z hz).1, okT_lit (hz0 z hz).2⟩
          simp only [List.map_cons, List.map_nil] at e2
          try dsimp! [sx_, e2]
          have l1 := cutS_len v none (some p)
          refine ⟨by omega, by omega, _, _, _, rfl, put_same, by omega, by decide, by decide, fun r r0 r1 => ?_⟩
          rw [put_put]
          try dsimp! [sx_, true_and]
          have l2 := cutS_len v (some (p + r)) none
          simp only [len_app]
          have l3 := cutS_both v (p := p) (q := p + r) p0 (by omega)
          refine ⟨by omega, by omega, _, _, _, _, _, _, _, _, _, _, _, rfl, put_same, by omega, ?_, okT_app (okT_app (okT_cutS hv2 _ _) z1) (okT_cutS hv2 _ _)⟩
          simp only [len_app]; omega
        · dsimp! [sx_, hy, decide_false, if_false]
          exact ⟨_, _, _, _, _, _, _, _, _, _, _, rfl, put_same, by omega, by omega, hv2⟩
      clear htl hn24
      rintro ρ' S2 ⟨v, o3, o4, o6, o7, o8, o9, o10, o11, o12, n2, rfl, ha, hn2, hv1, hv2⟩
      try dsimp! [sx_, true_and]
      rw [r_sFor]
      try dsimp! [sx_, true_and]
      refine ⟨by decide, _, _, _, rfl, ha, by omega, by decide, by decide, fun q q0 q1 => ?_⟩
      obtain ⟨d, hd, e2⟩ := at_lt (xs := odd45) q0 q1
      unfold odd45 at e2
      have hd := odd45_ok d hd
      try dsimp! [sx_, e2]
      refine ⟨fun j ρ' S3 => ∃ (o9 o10 o11 o12 : Option D) (n3 : Nat), ρ' = [some (.scr ns), some (.ref a), some (.int (0 + (k : Int))), o3, o4, some (.str v), o6, o7, o8, o9, o10, o11, o12] ∧ S3 a = some (.draw false n3) ∧ n3 ≤ n + 211, ⟨_, _, _, _, _, rfl, put_same, by omega⟩, fun _ _ _ _ => trivial, ?_, ?_⟩
      · rintro j dj ρ' S3 hj ⟨o9, o10, o11, o12, n3, rfl, ha3, hn3⟩
        have hdj : vok dj = true ∧ ∀ u, dj = .str u → u.length ≤ 600 ∧ okT u := by
          have := List.mem_of_getElem? hj
          simp only [List.mem_cons, List.not_mem_nil, or_false] at this
          rcases this with rfl | rfl
          · exact ⟨rfl, fun u e => by cases e; exact ⟨by omega, hv2⟩⟩
          · exact hd
        dsimp! [sx_, true_and]
        refine ⟨dj, rfl, hdj.1, hdj.2, ?_⟩
        try dsimp! [sx_, true_and]
        refine ⟨dj, rfl, hdj.1, hdj.2, fun e he => ?_, fun t ht he b S4 nb kb mb => ?_⟩
        · have ed : pdue2 (ptow dj) = .lst [.str "text", e] := by rw [he]; rfl
          obtain ⟨p, hp⟩ := pw_text (e := e) (by
            rcases ptow_cases dj (fun u e => by have := (hdj.2 u e).1; omega) with z | ⟨k, z, kl⟩ | ⟨t, _, z⟩
            · rw [he] at z; cases z; exact .inl rfl
            · rw [he] at z; cases z; exact .inr ⟨k, rfl, kl⟩
            · rw [he] at z; cases z)
          have okp := okT_iff.mpr hp.okT
          try dsimp! [sx_, ed, decide_true, Bool.not_true, Bool.not_false, if_true, if_false, eq_self]
          refine hp.repr ?_
          refine hp.repr ?_
          try dsimp only
          rw [r_neS okp okp]
          try dsimp! [sx_, ed, decide_true, Bool.not_true, Bool.not_false, if_true, if_false, eq_self]
          exact ⟨_, _, _, _, n3, rfl, ha3, hn3⟩
        · have ed : pdue2 (ptow dj) = twD t := by rw [he]; rfl
          try dsimp! [sx_, ed, (show ∀ t : Twr, twD t = .tup [.int t.1, .tup (t.2.map .int)] from fun _ => rfl), r_isXHt kb (show isT IN (hC none) "list" = some false by decide +kernel), r_isXH kb (show isG IN (hC none) "PromisedHoist" = some false by decide +kernel), r_dCon, decide_true, Bool.not_true, Bool.not_false, if_true, if_false, eq_self]
          refine r_cn (v := .int 60) kb ⟨rfl, by decide +kernel⟩ (List.mem_singleton.mpr rfl) ?_
          show opNe (.int 60) (.int 60) S4 _
          try dsimp! [sx_, r_neI, decide_true, Bool.not_true, Bool.not_false, if_true, if_false, eq_self]
          refine ⟨b, _, _, _, t, rfl, kb, rfl, rfl, ht, fun ed hh => (nomatch hh), by decide, ?_⟩
          try dsimp! [sx_, decide_true, Bool.not_true, Bool.not_false, if_true, if_false, eq_self]
          intro c hc
          refine ⟨c, S4, t, rfl, hc, rfl, ht, fun S5 k5 m5 => ⟨rfl, ?_⟩⟩
          have kb5 := m5.1 b _ kb
          have ha5 := m5.1 a _ (mb.1 a _ ha3)
          rw [r_eqO kb5 k5 ⟨rfl, by decide +kernel, rfl⟩]
          refine ⟨b, c, _, _, _, _, _, _, t, t, rfl, kb5, k5, rfl, rfl, ?_⟩
          rw [perm_self]
          try dsimp! [sx_, decide_true, Bool.not_true, Bool.not_false, if_true, if_false, eq_self]
          refine ⟨b, t, rfl, kb5, ht, ?_⟩
          try dsimp! [sx_, decide_true, Bool.not_true, Bool.not_false, if_true, if_false, eq_self]
          refine ⟨b, _, _, _, t, rfl, kb5, rfl, rfl, ht, fun ed hh => (nomatch hh), by decide, ?_⟩
          try dsimp! [sx_, decide_true, Bool.not_true, Bool.not_false, if_true, if_false, eq_self]
          exact ⟨_, _, _, _, n3, rfl, ha5, hn3⟩
      · rintro ρ' S3 ⟨o9, o10, o11, o12, n3, rfl, ha3, hn3⟩
        exact ⟨⟨_, _, _, _, _, _, _, _, _, _, _, rfl⟩, n3, by omega, ha3⟩
    · rintro ρ' S' ⟨⟨o2, o3, o4, o5, o6, o7, o8, o9, o10, o11, o12, rfl⟩, n, hn, ha⟩
      try simp! [sx_, true_and]
      exact fin_wk ⟨fun H _ => fun a o e => (nomatch (show (none : Option OB) = some o from e)), fun _ _ => rfl⟩ (h (fun _ => none))
end
theorem facts {P : Program} {w : World} {K : PySem.W.Frag} {h : Heap} {mg : Str → Option Value} {f : Addr} (X : K.In h) (G : h.Ns mainGlobals mg) (hfa : mg ("law" : Str) = some (.ref f)) (c0 : SaysY FA fnA (chkZ EX IN OW BA CO) K) :
    ∃ fd : FuncData, (∀ (s : Shared) (v : Value), BindsTo s fd ⟨[v], []⟩ [("script", v)]) ∧ ∀ base : Heap, K.In base → base.Ns mainGlobals mg → FnD P w K mg base 9 f fd ["script"] spLaw := by
  have T : Txt FA K mg := ⟨c0.all, ⟨h, X, G⟩⟩
  obtain ⟨TX, TI, TS, TB, TC⟩ := chkZ_ok c0.chk
  obtain ⟨fd, F⟩ := c0.def_ 49 (d := dlaw) rfl
  have gL := T.glo 63 (x := "law")
  have e := hfa.symm.trans gL
  cases e
  have b := FunD.bindsA (ps := ["script"]) F fun _ _ _ _ _ _ us hl => match us, hl with | [_], _ => rfl
  refine ⟨fd, fun s v => b s [v] rfl, fun base _ _ => ?_⟩
  have xBadText : ExI P w K mg base "BadText" "index" := exBadText T TX TI TS TB TC (c0.def_ 50 (d := dBadText___init__) rfl)
  have cis_number : Cal P w K mg base 1 "is_number" ["value", "low", "high"] spis_number := calis_number T TX TI TS TB TC (c0.def_ 0 (d := dis_number) rfl) (T.glo 35 (x := "is_number"))
  have cis_excess : Cal P w K mg base 2 "is_excess" ["value"] spis_excess := calis_excess T TX TI TS TB TC (c0.def_ 1 (d := dis_excess) rfl) (T.glo 36 (x := "is_excess")) cis_number
  have cis_weight : Cal P w K mg base 2 "is_weight" ["value"] spis_weight := calis_weight T TX TI TS TB TC (c0.def_ 2 (d := dis_weight) rfl) (T.glo 37 (x := "is_weight")) cis_number
  have ctower_error : Cal P w K mg base 3 "tower_error" ["value"] sptower_error := caltower_error T TX TI TS TB TC (c0.def_ 3 (d := dtower_error) rfl) (T.glo 38 (x := "tower_error")) cis_excess cis_weight
  have cis_tower : Cal P w K mg base 4 "is_tower" ["value"] spis_tower := calis_tower T TX TI TS TB TC (c0.def_ 4 (d := dis_tower) rfl) (T.glo 39 (x := "is_tower")) ctower_error
  have cparse_number : Cal P w K mg base 1 "parse_number" ["word"] spparse_number := calparse_number T TX TI TS TB TC (c0.def_ 5 (d := dparse_number) rfl) (T.glo 40 (x := "parse_number"))
  have cparse_weights : Cal P w K mg base 2 "parse_weights" ["word"] spparse_weights := calparse_weights T TX TI TS TB TC (c0.def_ 6 (d := dparse_weights) rfl) (T.glo 41 (x := "parse_weights")) cparse_number
  have cis_right_word : Cal P w K mg base 5 "is_right_word" ["index", "word"] spis_right_word := calis_right_word T TX TI TS TB TC (c0.def_ 7 (d := dis_right_word) rfl) (T.glo 42 (x := "is_right_word")) cis_number cparse_number cis_tower cparse_weights
  have cparse_tower : Cal P w K mg base 6 "parse_tower" ["value"] spparse_tower := calparse_tower T TX TI TS TB TC (c0.def_ 8 (d := dparse_tower) rfl) (T.glo 43 (x := "parse_tower")) cis_right_word cparse_number cparse_weights xBadText
  have c_law_deck : Cal P w K mg base 1 "_law_deck" ["script"] sp_law_deck := cal_law_deck T TX TI TS TB TC (c0.def_ 9 (d := d_law_deck) rfl) (T.glo 44 (x := "_law_deck"))
  have c_law_draw : Cal P w K mg base 1 "_law_draw" ["deck", "many"] sp_law_draw := cal_law_draw T TX TI TS TB TC (c0.def_ 10 (d := d_law_draw) rfl) (T.glo 45 (x := "_law_draw"))
  have c_law_weight : Cal P w K mg base 2 "_law_weight" ["deck", "excess", "weights"] sp_law_weight := cal_law_weight T TX TI TS TB TC (c0.def_ 11 (d := d_law_weight) rfl) (T.glo 46 (x := "_law_weight")) c_law_draw
  have c_law_tower : Cal P w K mg base 3 "_law_tower" ["deck", "most"] sp_law_tower := cal_law_tower T TX TI TS TB TC (c0.def_ 12 (d := d_law_tower) rfl) (T.glo 47 (x := "_law_tower")) c_law_draw c_law_weight
  have c_law_reach : Cal P w K mg base 1 "_law_reach" ["tower"] sp_law_reach := cal_law_reach T TX TI TS TB TC (c0.def_ 13 (d := d_law_reach) rfl) (T.glo 48 (x := "_law_reach"))
  have clighter_weight : Cal P w K mg base 1 "lighter_weight" ["tower", "weight"] splighter_weight := callighter_weight T TX TI TS TB TC (c0.def_ 14 (d := dlighter_weight) rfl) (T.glo 49 (x := "lighter_weight"))
  have cstuck_person : Cal P w K mg base 2 "stuck_person" ["tower"] spstuck_person := calstuck_person T TX TI TS TB TC (c0.def_ 15 (d := dstuck_person) rfl) (T.glo 50 (x := "stuck_person")) clighter_weight
  have creach_weight : Cal P w K mg base 3 "reach_weight" ["tower"] spreach_weight := calreach_weight T TX TI TS TB TC (c0.def_ 16 (d := dreach_weight) rfl) (T.glo 51 (x := "reach_weight")) cstuck_person clighter_weight
  have cis_within : Cal P w K mg base 1 "is_within" ["value", "low", "high"] spis_within := calis_within T TX TI TS TB TC (c0.def_ 17 (d := dis_within) rfl) (T.glo 52 (x := "is_within"))
  have cwith_person : Cal P w K mg base 2 "with_person" ["weights", "weight"] spwith_person := calwith_person T TX TI TS TB TC (c0.def_ 18 (d := dwith_person) rfl) (T.glo 53 (x := "with_person")) cis_within
  have cwithout_person : Cal P w K mg base 2 "without_person" ["weights", "person"] spwithout_person := calwithout_person T TX TI TS TB TC (c0.def_ 19 (d := dwithout_person) rfl) (T.glo 54 (x := "without_person")) cis_within
  have cwith_weight : Cal P w K mg base 2 "with_weight" ["weights", "person", "weight"] spwith_weight := calwith_weight T TX TI TS TB TC (c0.def_ 20 (d := dwith_weight) rfl) (T.glo 55 (x := "with_weight")) cis_within
  have cHoist___init__ : CalM P w K mg base 4 "Hoist" "__init__" ["self", "tower"] spHoist___init__ := calHoist___init__ T TX TI TS TB TC (c0.def_ 21 (d := dHoist___init__) rfl) ctower_error creach_weight cstuck_person
  have cHoist_tower : CalP P w K mg base 1 "Hoist" "tower" spHoist_tower := calHoist_tower T TX TI TS TB TC (c0.def_ 22 (d := dHoist_tower) rfl)
  have cHoist_own_key : CalM P w K mg base 1 "Hoist" "own_key" ["self"] spHoist_own_key := calHoist_own_key T TX TI TS TB TC (c0.def_ 23 (d := dHoist_own_key) rfl)
  have cHoist_accept : CalM P w K mg base 1 "Hoist" "accept" ["self", "number"] spHoist_accept := calHoist_accept T TX TI TS TB TC (c0.def_ 24 (d := dHoist_accept) rfl)
  have cHoist___len__ : CalM P w K mg base 1 "Hoist" "__len__" ["self"] spHoist___len__ := calHoist___len__ T TX TI TS TB TC (c0.def_ 25 (d := dHoist___len__) rfl)
  have cHoist___eq__ : CalM P w K mg base 2 "Hoist" "__eq__" ["self", "other"] spHoist___eq__ := calHoist___eq__ T TX TI TS TB TC (c0.def_ 26 (d := dHoist___eq__) rfl) cHoist_own_key
  have cHoist_require_idle : CalM P w K mg base 1 "Hoist" "require_idle" ["self"] spHoist_require_idle := calHoist_require_idle T TX TI TS TB TC (c0.def_ 27 (d := dHoist_require_idle) rfl)
  have cHoist_state_after : CalM P w K mg base 3 "Hoist" "state_after" ["self", "edit"] spHoist_state_after := calHoist_state_after T TX TI TS TB TC (c0.def_ 28 (d := dHoist_state_after) rfl) cwith_person cwithout_person cwith_weight cis_within
  have cHoist_perform : CalM P w K mg base 4 "Hoist" "perform" ["self", "edit"] spHoist_perform := calHoist_perform T TX TI TS TB TC (c0.def_ 29 (d := dHoist_perform) rfl) cHoist_state_after creach_weight cHoist_accept cstuck_person
  have cHoist_come : CalM P w K mg base 5 "Hoist" "come" ["self", "weight"] spHoist_come := calHoist_come T TX TI TS TB TC (c0.def_ 30 (d := dHoist_come) rfl) cHoist_require_idle cHoist_perform
  have cHoist_leave : CalM P w K mg base 5 "Hoist" "leave" ["self", "person"] spHoist_leave := calHoist_leave T TX TI TS TB TC (c0.def_ 31 (d := dHoist_leave) rfl) cHoist_require_idle cHoist_perform
  have cHoist_weigh : CalM P w K mg base 5 "Hoist" "weigh" ["self", "person", "weight"] spHoist_weigh := calHoist_weigh T TX TI TS TB TC (c0.def_ 32 (d := dHoist_weigh) rfl) cHoist_require_idle cHoist_perform
  have cHoist_loosen : CalM P w K mg base 5 "Hoist" "loosen" ["self", "excess"] spHoist_loosen := calHoist_loosen T TX TI TS TB TC (c0.def_ 33 (d := dHoist_loosen) rfl) cHoist_require_idle cHoist_perform
  have cHoist_undo : CalM P w K mg base 2 "Hoist" "undo" ["self"] spHoist_undo := calHoist_undo T TX TI TS TB TC (c0.def_ 34 (d := dHoist_undo) rfl) cHoist_require_idle
  have cHoist_edits : CalM P w K mg base 1 "Hoist" "edits" ["self"] spHoist_edits := calHoist_edits T TX TI TS TB TC (c0.def_ 35 (d := dHoist_edits) rfl)
  have cHoist_reach : CalP P w K mg base 1 "Hoist" "reach" spHoist_reach := calHoist_reach T TX TI TS TB TC (c0.def_ 36 (d := dHoist_reach) rfl)
  have cHoist_is_free : CalP P w K mg base 1 "Hoist" "is_free" spHoist_is_free := calHoist_is_free T TX TI TS TB TC (c0.def_ 37 (d := dHoist_is_free) rfl)
  have cHoist___str__ : CalM P w K mg base 1 "Hoist" "__str__" ["self"] spHoist___str__ := calHoist___str__ T TX TI TS TB TC (c0.def_ 38 (d := dHoist___str__) rfl)
  have cHoist_tower_at : CalM P w K mg base 2 "Hoist" "tower_at" ["self", "version"] spHoist_tower_at := calHoist_tower_at T TX TI TS TB TC (c0.def_ 39 (d := dHoist_tower_at) rfl) cis_within
  have cHoist_state : CalK P w K mg base 3 "Hoist" "state" ["self"] "version" spHoist_state := calHoist_state T TX TI TS TB TC (c0.def_ 40 (d := dHoist_state) rfl) cHoist_tower_at
  have c_law_right : Cal P w K mg base 4 "_law_right" ["table", "tower", "edits"] sp_law_right := cal_law_right T TX TI TS TB TC (c0.def_ 41 (d := d_law_right) rfl) (T.glo 56 (x := "_law_right")) c_law_reach cHoist_tower cHoist_reach cHoist_is_free cHoist_state cHoist_edits cHoist___len__ cHoist___str__
  have c_law_number : Cal P w K mg base 1 "_law_number" ["word"] sp_law_number := cal_law_number T TX TI TS TB TC (c0.def_ 42 (d := d_law_number) rfl) (T.glo 57 (x := "_law_number"))
  have c_law_weights_of : Cal P w K mg base 2 "_law_weights_of" ["word"] sp_law_weights_of := cal_law_weights_of T TX TI TS TB TC (c0.def_ 43 (d := d_law_weights_of) rfl) (T.glo 58 (x := "_law_weights_of")) c_law_number
  have c_law_due : Cal P w K mg base 3 "_law_due" ["value"] sp_law_due := cal_law_due T TX TI TS TB TC (c0.def_ 44 (d := d_law_due) rfl) (T.glo 59 (x := "_law_due")) c_law_number c_law_weights_of
  have c_law_text : Cal P w K mg base 1 "_law_text" ["excess", "weights"] sp_law_text := cal_law_text T TX TI TS TB TC (c0.def_ 45 (d := d_law_text) rfl) (T.glo 60 (x := "_law_text"))
  have cHoist_read : CalCm P w K mg base 7 "Hoist" "read" ["cls", "text"] spHoist_read := calHoist_read T TX TI TS TB TC (c0.def_ 46 (d := dHoist_read) rfl) cparse_tower cHoist___init__
  have c_law_read : Cal P w K mg base 8 "_law_read" ["value"] sp_law_read := cal_law_read T TX TI TS TB TC (c0.def_ 47 (d := d_law_read) rfl) (T.glo 61 (x := "_law_read")) cHoist_read
  have c_law_edits_right : Cal P w K mg base 6 "_law_edits_right" ["table", "tower"] sp_law_edits_right := cal_law_edits_right T TX TI TS TB TC (c0.def_ 48 (d := d_law_edits_right) rfl) (T.glo 62 (x := "_law_edits_right")) cHoist_loosen cHoist_state cHoist_undo
  exact callaw T TX TI TS TB TC F c_law_deck c_law_draw c_law_tower c_law_text c_law_due c_law_read c_law_right c_law_edits_right cHoist___eq__ cHoist___init__

end Lw
open PySem PySem.W PySem.Calls PyProof.Rows
theorem PySem.Challenge.cw_basketrope_k45_whole_hoists_read_holds : PySem.Challenge.rw_basketrope_k45_whole_hoists_read.Holds := by
  w_on; o_law
  refine HandSHeadRun.head_any (r := OpenLaw.row PySem.Challenge.rw_basketrope_k45_whole_hoists_read) (q := view (OpenLaw.row PySem.Challenge.rw_basketrope_k45_whole_hoists_read).prog [66]) (H := Lw.hk) (ob := Lw.ob) (M := 8000) (loose := Lw.loose) (d := HandSHeadRun.topDef (OpenLaw.row PySem.Challenge.rw_basketrope_k45_whole_hoists_read).prog 66) (kwd := []) Lw.ob_eq
    (by kernel_rfl) (fun s => by kernel_rfl) Lw.run (by kernel_rfl) (by kernel_rfl) (by kernel_rfl) (by rfl) (by first | assumption | decide +kernel) (by decide +kernel) ⟨rfl, rfl, rfl, rfl, rfl, by decide +kernel⟩ ?hw ?hc
  case hw => w_witness2
  case hc =>
    refine Dl.walk_D (l := PySem.Challenge.rw_basketrope_k45_whole_hoists_read) (k := 9) rfl (by kernel_rfl) ⟨rfl, by decide, by decide⟩ ?F
    intro w mg fa h Y G hmg0
    obtain ⟨K, KX, c⟩ := Y
    have hmg : mg ("law" : PySem.Str) = some (.ref fa) := by
      have e : (HandSHeadRun.topDef (OpenLaw.row PySem.Challenge.rw_basketrope_k45_whole_hoists_read).prog 66).name = ("law" : PySem.Str) := by kernel_rfl
      rw [← e]
      exact hmg0
    obtain ⟨fd, hb, hF⟩ := Lw.facts (P := (PySem.Challenge.rw_basketrope_k45_whole_hoists_read).prog) (w := w) KX G hmg c
    exact ⟨K, fd, KX, hb, hF⟩
