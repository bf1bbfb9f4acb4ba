import PyProof.Rows.All
import HandS.ForMost
import HandS.Gcd
import HandS.Wide
import HandS.WideBits
import HandS.IsInst
import HandS.Flow
import HandS.Defaults
import HandS.Zip
import HandS.Walk
import HandS.More
import KE.IntBitsLaws
import KE.SortData
import HandS.Deep
import HandS.Text
import HandS.TupLe
import HandS.Style
import HandS.Dict
import HandS.Ends
import PyProof.Rows.NestShow
import PyProof.StrOps
import KE.GoesEnum
import HandS.Conv
import HandS.TupAny
import HandS.DictComp
import HandS.Sort
import HandS.Set
import HandS.SetTxt0
import HandS.Exc
import HandS.ExcOwn
import HandS.WordsExc
import HandS.ExcIs
import KE.KExcIs
import KE.KEqNest
import PySem.Challenge.RW_neversurewin_k02_sayings_judged
set_option Elab.async false
set_option linter.all false
set_option maxRecDepth 100000
set_option maxHeartbeats 4000000
/-! DL1: pure data (D) that stands for values of the machine; worlds (what is frozen, which cells change); how a state bears an environment of data. -/
namespace DL
open PySem PySem.Spec L2

abbrev Frag := PySem.W.Frag
/-- pure data: what a value is worth, without addresses; top: nothing is said of it; cel n: the n-th cell (a list of ints that callees change) -/
inductive D where
  | non | bl (b : Bool) | int (i : Int) | str (x : Str) | ty (n : String) | ref (a : Addr) | top | cel (n : Nat)
  | scr (ns : List Int) | lst (xs : List D) | tup (xs : List D) | dK (ks : List Key) (xs : List D) | dT (ks : List (List Key)) (xs : List D)
instance : Inhabited D := ⟨.non⟩
/-- a world: the cells' addresses, the frozen heap -/
structure Wd where
  cl : List Addr
  Z : Hp

theorem Same.seqT {K : Frag} {H H' : Hp} {a : Addr} {xs : List V} (e : Same H H') (h : SqT K H a xs) : SqT K H' a xs := by
  rcases h with (h | ⟨o, h⟩) | h
  · exact .inl (.inl (e _ _ h))
  · exact .inl (.inr ⟨o, e _ _ h⟩)
  · exact .inr h

theorem Same.rd {H H' : Hp} {a : Addr} {u : HO} (e : Same H H') (h : Rd H a u) : Rd H' a u := by
  rcases h with h | ⟨o, h⟩
  · exact .inl (e _ _ h)
  · exact .inr ⟨o, e _ _ h⟩
mutual
/-- the value v is worth d, all of its objects frozen -/
def Rep (K : Frag) (cl : List Addr) (Z : Hp) : D → V → Prop
  | .non, v => v = .non
  | .bl b, v => v = .bl b
  | .int i, v => v = .int i
  | .str x, v => v = .str x
  | .ty n, v => v = .ty n
  | .ref a, v => v = .ref a
  | .top, _ => True
  | .cel n, v => ∃ a, cl[n]? = some a ∧ v = .ref a
  | .scr ns, v => ∃ a, v = .ref a ∧ SqL K Z a (ns.map V.int)
  | .lst ds, v => ∃ a vs, v = .ref a ∧ Z a = some (.lst vs) ∧ Reps K cl Z ds vs
  | .tup ds, v => ∃ a vs, v = .ref a ∧ SqT K Z a vs ∧ Reps K cl Z ds vs
  | .dK ks ds, v => ∃ a vs, v = .ref a ∧ vs.length = ks.length ∧ Rd Z a (.dK (ks.zip vs)) ∧ Reps K cl Z ds vs
  | .dT ks ds, v => ∃ a vs, v = .ref a ∧ vs.length = ks.length ∧ Z a = some (.dT (ks.zip vs)) ∧ Reps K cl Z ds vs
def Reps (K : Frag) (cl : List Addr) (Z : Hp) : List D → List V → Prop
  | [], vs => vs = []
  | d :: ds, vs => ∃ v r, vs = v :: r ∧ Rep K cl Z d v ∧ Reps K cl Z ds r
end

section
variable {K : Frag} {cl cl' : List Addr} {Z Z' : Hp}
/-- cells are only added -/
def Pre (cl cl' : List Addr) : Prop := ∃ m, cl' = cl ++ m
theorem Pre.refl (cl : List Addr) : Pre cl cl := ⟨[], (List.append_nil _).symm⟩
theorem Pre.trans {a b c : List Addr} (h : Pre a b) (g : Pre b c) : Pre a c := by
  obtain ⟨m, rfl⟩ := h
  obtain ⟨n, rfl⟩ := g
  exact ⟨m ++ n, List.append_assoc ..⟩
theorem Pre.get {n : Nat} {a : Addr} (h : Pre cl cl') (e : cl[n]? = some a) : cl'[n]? = some a := by
  obtain ⟨m, rfl⟩ := h
  rw [List.getElem?_append_left (List.getElem?_eq_some_iff.mp e).1]
  exact e
mutual
theorem Rep.mono (hz : Same Z Z') (hc : Pre cl cl') : ∀ (d : D) (v : V), Rep K cl Z d v → Rep K cl' Z' d v
  | .non, v, h => h
  | .bl _, v, h => h
  | .int _, v, h => h
  | .str _, v, h => h
  | .ty _, v, h => h
  | .ref _, v, h => h
  | .top, v, h => h
  | .cel n, v, h => by
    obtain ⟨a, e, r⟩ := (show ∃ a, cl[n]? = some a ∧ v = .ref a from h)
    exact ⟨a, hc.get e, r⟩
  | .scr ns, v, h => by
    obtain ⟨a, e, s⟩ := (show ∃ a, v = .ref a ∧ SqL K Z a (ns.map V.int) from h)
    exact ⟨a, e, hz.seq s⟩
  | .lst ds, v, h => by
    obtain ⟨a, vs, e, s, r⟩ := (show ∃ a vs, v = .ref a ∧ Z a = some (.lst vs) ∧ Reps K cl Z ds vs from h)
    exact ⟨a, vs, e, hz _ _ s, Reps.mono hz hc ds vs r⟩
  | .tup ds, v, h => by
    obtain ⟨a, vs, e, s, r⟩ := (show ∃ a vs, v = .ref a ∧ SqT K Z a vs ∧ Reps K cl Z ds vs from h)
    exact ⟨a, vs, e, Same.seqT hz s, Reps.mono hz hc ds vs r⟩
  | .dK ks ds, v, h => by
    obtain ⟨a, vs, e, l, s, r⟩ := (show ∃ a vs, v = .ref a ∧ vs.length = ks.length ∧ Rd Z a (.dK (ks.zip vs)) ∧ Reps K cl Z ds vs from h)
    exact ⟨a, vs, e, l, Same.rd hz s, Reps.mono hz hc ds vs r⟩
  | .dT ks ds, v, h => by
    obtain ⟨a, vs, e, l, s, r⟩ := (show ∃ a vs, v = .ref a ∧ vs.length = ks.length ∧ Z a = some (.dT (ks.zip vs)) ∧ Reps K cl Z ds vs from h)
    exact ⟨a, vs, e, l, hz _ _ s, Reps.mono hz hc ds vs r⟩
theorem Reps.mono (hz : Same Z Z') (hc : Pre cl cl') : ∀ (ds : List D) (vs : List V), Reps K cl Z ds vs → Reps K cl' Z' ds vs
  | [], vs, h => h
  | d :: ds, vs, h => by
    obtain ⟨v, r, e, h1, h2⟩ := (show ∃ v r, vs = v :: r ∧ Rep K cl Z d v ∧ Reps K cl Z ds r from h)
    exact ⟨v, r, e, Rep.mono hz hc d v h1, Reps.mono hz hc ds r h2⟩
end
theorem Reps.length : ∀ {ds : List D} {vs : List V}, Reps K cl Z ds vs → ds.length = vs.length
  | [], vs, h => by rw [show vs = [] from h]; rfl
  | d :: ds, vs, h => by
    obtain ⟨v, r, e, h1, h2⟩ := (show ∃ v r, vs = v :: r ∧ Rep K cl Z d v ∧ Reps K cl Z ds r from h)
    rw [e, List.length_cons, List.length_cons, Reps.length h2]
theorem Reps.get : ∀ {ds : List D} {vs : List V} {i : Nat} {d : D}, Reps K cl Z ds vs → ds[i]? = some d → ∃ v, vs[i]? = some v ∧ Rep K cl Z d v
  | [], vs, i, d, h, e => by simp at e
  | d' :: ds, vs, i, d, h, e => by
    obtain ⟨v, r, rfl, h1, h2⟩ := (show ∃ v r, vs = v :: r ∧ Rep K cl Z d' v ∧ Reps K cl Z ds r from h)
    cases i with
    | zero => simp at e; subst e; exact ⟨v, rfl, h1⟩
    | succ i => simpa using Reps.get (i := i) h2 (by simpa using e)
theorem Reps.getV : ∀ {ds : List D} {vs : List V} {i : Nat} {v : V}, Reps K cl Z ds vs → vs[i]? = some v → ∃ d, ds[i]? = some d ∧ Rep K cl Z d v
  | [], vs, i, v, h, e => by rw [show vs = [] from h] at e; simp at e
  | d' :: ds, vs, i, v, h, e => by
    obtain ⟨v', r, rfl, h1, h2⟩ := (show ∃ v r, vs = v :: r ∧ Rep K cl Z d' v ∧ Reps K cl Z ds r from h)
    cases i with
    | zero => simp at e; subst e; exact ⟨d', rfl, h1⟩
    | succ i => simpa using Reps.getV (i := i) h2 (by simpa using e)
theorem Reps.append : ∀ {ds es : List D} {vs us : List V}, Reps K cl Z ds vs → Reps K cl Z es us → Reps K cl Z (ds ++ es) (vs ++ us)
  | [], es, vs, us, h, g => by rw [show vs = [] from h]; exact g
  | d :: ds, es, vs, us, h, g => by
    obtain ⟨v, r, rfl, h1, h2⟩ := (show ∃ v r, vs = v :: r ∧ Rep K cl Z d v ∧ Reps K cl Z ds r from h)
    exact ⟨v, r ++ us, rfl, h1, Reps.append h2 g⟩
theorem Reps.set : ∀ {ds : List D} {vs : List V} {d : D} {v : V} (i : Nat), Reps K cl Z ds vs → Rep K cl Z d v → Reps K cl Z (ds.set i d) (vs.set i v)
  | [], vs, d, v, i, h, g => by rw [show vs = [] from h]; rfl
  | d' :: ds, vs, d, v, i, h, g => by
    obtain ⟨v', r, rfl, h1, h2⟩ := (show ∃ v r, vs = v :: r ∧ Rep K cl Z d' v ∧ Reps K cl Z ds r from h)
    cases i with
    | zero => exact ⟨v, r, rfl, g, h2⟩
    | succ i => exact ⟨v', r.set i v, rfl, h1, Reps.set i h2 g⟩
theorem Reps.drop : ∀ {ds : List D} {vs : List V} (n : Nat), Reps K cl Z ds vs → Reps K cl Z (ds.drop n) (vs.drop n)
  | ds, vs, 0, h => by simpa using h
  | [], vs, n + 1, h => by rw [show vs = [] from h]; rfl
  | d :: ds, vs, n + 1, h => by
    obtain ⟨v, r, rfl, h1, h2⟩ := (show ∃ v r, vs = v :: r ∧ Rep K cl Z d v ∧ Reps K cl Z ds r from h)
    exact Reps.drop n h2
theorem Reps.take : ∀ {ds : List D} {vs : List V} (n : Nat), Reps K cl Z ds vs → Reps K cl Z (ds.take n) (vs.take n)
  | ds, vs, 0, h => rfl
  | [], vs, n + 1, h => by rw [show vs = [] from h]; rfl
  | d :: ds, vs, n + 1, h => by
    obtain ⟨v, r, rfl, h1, h2⟩ := (show ∃ v r, vs = v :: r ∧ Rep K cl Z d v ∧ Reps K cl Z ds r from h)
    exact ⟨v, r.take n, rfl, h1, Reps.take n h2⟩
theorem Reps.nil : Reps K cl Z [] [] := rfl
theorem Reps.cons {d : D} {v : V} {ds : List D} {vs : List V} (h : Rep K cl Z d v) (g : Reps K cl Z ds vs) : Reps K cl Z (d :: ds) (v :: vs) := ⟨v, vs, rfl, h, g⟩
theorem Reps.ints : ∀ (ns : List Int), Reps K cl Z (ns.map D.int) (ns.map V.int)
  | [] => rfl
  | n :: ns => ⟨.int n, _, rfl, rfl, Reps.ints ns⟩
theorem Reps.bls : ∀ (ns : List Bool), Reps K cl Z (ns.map D.bl) (ns.map V.bl)
  | [] => rfl
  | n :: ns => ⟨.bl n, _, rfl, rfl, Reps.bls ns⟩
theorem Reps.strs : ∀ (ns : List Str), Reps K cl Z (ns.map D.str) (ns.map V.str)
  | [] => rfl
  | n :: ns => ⟨.str n, _, rfl, rfl, Reps.strs ns⟩
theorem Reps.ints_of : ∀ {ns : List Int} {vs : List V}, Reps K cl Z (ns.map D.int) vs → vs = ns.map V.int
  | [], vs, h => h
  | n :: ns, vs, h => by
    obtain ⟨v, r, rfl, h1, h2⟩ := (show ∃ v r, vs = v :: r ∧ Rep K cl Z (.int n) v ∧ Reps K cl Z (ns.map D.int) r from h)
    rw [show v = V.int n from h1, Reps.ints_of h2]; rfl
theorem Reps.bls_of : ∀ {ns : List Bool} {vs : List V}, Reps K cl Z (ns.map D.bl) vs → vs = ns.map V.bl
  | [], vs, h => h
  | n :: ns, vs, h => by
    obtain ⟨v, r, rfl, h1, h2⟩ := (show ∃ v r, vs = v :: r ∧ Rep K cl Z (.bl n) v ∧ Reps K cl Z (ns.map D.bl) r from h)
    rw [show v = V.bl n from h1, Reps.bls_of h2]; rfl
theorem Reps.strs_of : ∀ {ns : List Str} {vs : List V}, Reps K cl Z (ns.map D.str) vs → vs = ns.map V.str
  | [], vs, h => h
  | n :: ns, vs, h => by
    obtain ⟨v, r, rfl, h1, h2⟩ := (show ∃ v r, vs = v :: r ∧ Rep K cl Z (.str n) v ∧ Reps K cl Z (ns.map D.str) r from h)
    rw [show v = V.str n from h1, Reps.strs_of h2]; rfl
end

/-! ### data without lists and dicts -/
mutual
def D.flat : D → Bool
  | .scr _ => false
  | .lst _ => false
  | .dK _ _ => false
  | .dT _ _ => false
  | .tup ds => D.flats ds
  | _ => true
def D.flats : List D → Bool
  | [] => true
  | d :: ds => d.flat && D.flats ds
end
/-! ### environments, stores -/
/-- what a name holds: frozen data; a list (a dict) of one's own, that nobody else holds, its items frozen; a list of one's own all of whose inner lists are one's own, too -/
inductive EV where
  | dat (d : D) | own (d : D) | deep (d : D) | lkd (d : D)
def EV.d : EV → D
  | .dat d => d
  | .own d => d
  | .deep d => d
  | .lkd d => d
abbrev Store := List (List Int)
abbrev DEnv := List (Option EV)

/-- p holds d: an object of one's own, its items frozen -/
def Holds (K : Frag) (w : Wd) (H : Hp) (p : Addr) : D → Prop
  | .lst ds => ∃ vs, H p = some (.lst vs) ∧ Reps K w.cl w.Z ds vs
  | .dK ks ds => ∃ vs, vs.length = ks.length ∧ H p = some (.dK (ks.zip vs)) ∧ Reps K w.cl w.Z ds vs
  | .dT ks ds => ∃ vs, vs.length = ks.length ∧ H p = some (.dT (ks.zip vs)) ∧ Reps K w.cl w.Z ds vs
  | _ => False
mutual
/-- v is worth d; its lists (at L) are one's own -/
def OwnT (K : Frag) (w : Wd) (H : Hp) : D → V → List Addr → Prop
  | .lst ds, v, L => ∃ p vs L', v = .ref p ∧ L = p :: L' ∧ p ∉ L' ∧ H p = some (.lst vs) ∧ OwnTs K w H ds vs L'
  | .tup ds, v, L => ∃ a vs, v = .ref a ∧ SqT K w.Z a vs ∧ OwnTs K w H ds vs L
  | .dK ks ds, v, L => ∃ p vs L', v = .ref p ∧ L = p :: L' ∧ p ∉ L' ∧ vs.length = ks.length ∧ H p = some (.dK (ks.zip vs)) ∧ OwnTs K w H ds vs L'
  | d, v, L => L = [] ∧ d.flat = true ∧ Rep K w.cl w.Z d v
def OwnTs (K : Frag) (w : Wd) (H : Hp) : List D → List V → List Addr → Prop
  | [], vs, L => vs = [] ∧ L = []
  | d :: ds, vs, L => ∃ v r L1 L2, vs = v :: r ∧ L = L1 ++ L2 ∧ (∀ p ∈ L1, p ∉ L2) ∧ OwnT K w H d v L1 ∧ OwnTs K w H ds r L2
end
/-- a frozen dict that is locked (it may be walked over) -/
def RepL (K : Frag) (cl : List Addr) (Z : Hp) (d : D) (v : V) : Prop := ∃ ks ds a vs od, d = .dK ks ds ∧ v = .ref a ∧ vs.length = ks.length ∧ Z a = some (.frz od (.dK (ks.zip vs))) ∧ Reps K cl Z ds vs
theorem RepL.rep {K : Frag} {cl : List Addr} {Z : Hp} {d : D} {v : V} (h : RepL K cl Z d v) : Rep K cl Z d v := by
  obtain ⟨ks, ds, a, vs, od, rfl, rfl, l, e, r⟩ := h
  exact ⟨a, vs, rfl, l, .inr ⟨od, e⟩, r⟩
theorem RepL.mono {K : Frag} {cl cl' : List Addr} {Z Z' : Hp} {d : D} {v : V} (hz : Same Z Z') (hc : Pre cl cl') (h : RepL K cl Z d v) : RepL K cl' Z' d v := by
  obtain ⟨ks, ds, a, vs, od, rfl, rfl, l, e, r⟩ := h
  exact ⟨ks, ds, a, vs, od, rfl, rfl, l, hz _ _ e, Reps.mono hz hc _ _ r⟩
def EvOk (K : Frag) (w : Wd) (H : Hp) (v : V) (L : List Addr) : EV → Prop
  | .lkd d => L = [] ∧ RepL K w.cl w.Z d v
  | .dat d => L = [] ∧ Rep K w.cl w.Z d v
  | .own d => ∃ p, v = .ref p ∧ L = [p] ∧ Holds K w H p d
  | .deep d => OwnT K w H d v L
/-- addresses of one's own: younger than H0, tracked, neither frozen nor a cell -/
def LOk (w : Wd) (H0 H : Hp) (L : List Addr) : Prop := ∀ p ∈ L, H0 p = none ∧ H p ≠ none ∧ w.Z p = none ∧ p ∉ w.cl

/-- what an expression (a call) may do: new objects, new frozen ones, cells -/
structure Ext (w : Wd) (H : Hp) (w' : Wd) (H' : Hp) : Prop where
  z : Same w.Z w'.Z
  fr : ∀ a, w'.Z a ≠ none → w.Z a ≠ none ∨ H a = none
  kp : ∀ a o, H a = some o → a ∉ w.cl → H' a = some o
  tr : ∀ a, H' a = none → H a = none
  cl : ∃ m, w'.cl = w.cl ++ m ∧ ∀ a ∈ m, H a = none
/-- the store's cells, the frozen heap -/
structure Sto (w : Wd) (H : Hp) (st : Store) : Prop where
  sub : Same w.Z H
  zc : ∀ a ∈ w.cl, w.Z a = none
  nd : w.cl.Nodup
  ln : st.length = w.cl.length
  at_ : ∀ (n : Nat) (ns : List Int), st[n]? = some ns → ∃ a, w.cl[n]? = some a ∧ H a = some (.lst (ns.map V.int))
/-- the slots bear the environment -/
structure Slots (K : Frag) (H0 : Hp) (w : Wd) (σ : St) (H : Hp) (env : DEnv) : Prop where
  len : env.length = σ.length
  ok : ∃ Ls : Nat → List Addr, (∀ i ev, env[i]? = some (some ev) → ∃ v, σ[i]? = some (some v) ∧ EvOk K w H v (Ls i) ev ∧ LOk w H0 H (Ls i)) ∧ ∀ i j p, i ≠ j → p ∈ Ls i → p ∉ Ls j

section
variable {K : Frag} {w w1 w2 : Wd} {H H0 H1 H2 : Hp} {st st1 : Store} {σ : St} {env : DEnv} {p : Addr} {o : HO}
theorem Ext.pre (e : Ext w H w1 H1) : Pre w.cl w1.cl := let ⟨m, h, _⟩ := e.cl; ⟨m, h⟩
theorem Ext.refl (w : Wd) (H : Hp) : Ext w H w H := ⟨Same.refl _, fun a h => .inl h, fun a o h _ => h, fun a h => h, [], (List.append_nil _).symm, fun a h => by simp at h⟩
theorem Ext.cln (e : Ext w H w1 H1) {a : Addr} (h : H a ≠ none) (hn : a ∉ w.cl) : a ∉ w1.cl := by
  obtain ⟨m, e1, e2⟩ := e.cl
  rw [e1, List.mem_append]
  rintro (z | z)
  · exact hn z
  · exact h (e2 a z)
theorem some_ne {α : Type} {x : Option α} {o : α} (h : x = some o) : x ≠ none := by rw [h]; exact fun z => nomatch z
theorem Ext.trans (a : Ext w H w1 H1) (b : Ext w1 H1 w2 H2) : Ext w H w2 H2 where
  z := a.z.trans b.z
  fr := fun x h => by
    rcases b.fr x h with h | h
    · exact a.fr x h
    · exact .inr (a.tr x h)
  kp := fun x o h hn => b.kp x o (a.kp x o h hn) (a.cln (some_ne h) hn)
  tr := fun x h => a.tr x (b.tr x h)
  cl := by
    obtain ⟨m, e1, e2⟩ := a.cl
    obtain ⟨n, e3, e4⟩ := b.cl
    refine ⟨m ++ n, by rw [e3, e1, List.append_assoc], fun x hx => ?_⟩
    rcases List.mem_append.mp hx with h | h
    · exact e2 x h
    · exact a.tr x (e4 x h)
theorem Ext.znone (e : Ext w H w1 H1) {a : Addr} (h : H a ≠ none) (hz : w.Z a = none) : w1.Z a = none := by
  cases q : w1.Z a with
  | none => rfl
  | some o =>
    rcases e.fr a (some_ne q) with z | z
    · exact absurd hz z
    · exact absurd z h
theorem Ext.rep {d : D} {v : V} (e : Ext w H w1 H1) (h : Rep K w.cl w.Z d v) : Rep K w1.cl w1.Z d v := Rep.mono e.z e.pre d v h
theorem Ext.reps {ds : List D} {vs : List V} (e : Ext w H w1 H1) (h : Reps K w.cl w.Z ds vs) : Reps K w1.cl w1.Z ds vs := Reps.mono e.z e.pre ds vs h
theorem Ext.holds {d : D} (e : Ext w H w1 H1) (hn : p ∉ w.cl) (h : Holds K w H p d) : Holds K w1 H1 p d := by
  cases d with
  | lst ds => obtain ⟨vs, a, b⟩ := h; exact ⟨vs, e.kp _ _ a hn, e.reps b⟩
  | dK ks ds => obtain ⟨vs, l, a, b⟩ := h; exact ⟨vs, l, e.kp _ _ a hn, e.reps b⟩
  | dT ks ds => obtain ⟨vs, l, a, b⟩ := h; exact ⟨vs, l, e.kp _ _ a hn, e.reps b⟩
  | _ => exact h.elim
theorem Ext.live (e : Ext w H w1 H1) {a : Addr} (h : H a ≠ none) : H1 a ≠ none := fun z => h (e.tr a z)
mutual
theorem OwnT.ext (e : Ext w H w1 H1) : ∀ (d : D) (v : V) (L : List Addr), (∀ p ∈ L, p ∉ w.cl) → OwnT K w H d v L → OwnT K w1 H1 d v L
  | .lst ds, v, L, hn, h => by
    obtain ⟨p, vs, L', rfl, rfl, h1, h2, h3⟩ := (show ∃ p vs L', v = .ref p ∧ L = p :: L' ∧ p ∉ L' ∧ H p = some (.lst vs) ∧ OwnTs K w H ds vs L' from h)
    exact ⟨p, vs, L', rfl, rfl, h1, e.kp _ _ h2 (hn p List.mem_cons_self), OwnTs.ext e ds vs L' (fun q hq => hn q (List.mem_cons_of_mem _ hq)) h3⟩
  | .non, v, L, _, h => ⟨h.1, h.2.1, e.rep h.2.2⟩
  | .bl _, v, L, _, h => ⟨h.1, h.2.1, e.rep h.2.2⟩
  | .int _, v, L, _, h => ⟨h.1, h.2.1, e.rep h.2.2⟩
  | .str _, v, L, _, h => ⟨h.1, h.2.1, e.rep h.2.2⟩
  | .ty _, v, L, _, h => ⟨h.1, h.2.1, e.rep h.2.2⟩
  | .ref _, v, L, _, h => ⟨h.1, h.2.1, e.rep h.2.2⟩
  | .top, v, L, _, h => ⟨h.1, h.2.1, e.rep h.2.2⟩
  | .cel _, v, L, _, h => ⟨h.1, h.2.1, e.rep h.2.2⟩
  | .scr _, v, L, _, h => ⟨h.1, h.2.1, e.rep h.2.2⟩
  | .tup ds, v, L, hn, h => by
    obtain ⟨a, vs, rfl, h1, h2⟩ := (show ∃ a vs, v = .ref a ∧ SqT K w.Z a vs ∧ OwnTs K w H ds vs L from h)
    exact ⟨a, vs, rfl, Same.seqT e.z h1, OwnTs.ext e ds vs L hn h2⟩
  | .dK ks ds, v, L, hn, h => by
    obtain ⟨p, vs, L', rfl, rfl, h1, hl, h2, h3⟩ := (show ∃ p vs L', v = .ref p ∧ L = p :: L' ∧ p ∉ L' ∧ vs.length = ks.length ∧ H p = some (.dK (ks.zip vs)) ∧ OwnTs K w H ds vs L' from h)
    exact ⟨p, vs, L', rfl, rfl, h1, hl, e.kp _ _ h2 (hn p List.mem_cons_self), OwnTs.ext e ds vs L' (fun q hq => hn q (List.mem_cons_of_mem _ hq)) h3⟩
  | .dT _ _, v, L, _, h => ⟨h.1, h.2.1, e.rep h.2.2⟩
theorem OwnTs.ext (e : Ext w H w1 H1) : ∀ (ds : List D) (vs : List V) (L : List Addr), (∀ p ∈ L, p ∉ w.cl) → OwnTs K w H ds vs L → OwnTs K w1 H1 ds vs L
  | [], vs, L, _, h => h
  | d :: ds, vs, L, hn, h => by
    obtain ⟨v, r, L1, L2, rfl, rfl, h1, h2, h3⟩ := (show ∃ v r L1 L2, vs = v :: r ∧ L = L1 ++ L2 ∧ (∀ p ∈ L1, p ∉ L2) ∧ OwnT K w H d v L1 ∧ OwnTs K w H ds r L2 from h)
    exact ⟨v, r, L1, L2, rfl, rfl, h1, OwnT.ext e d v L1 (fun q hq => hn q (List.mem_append_left _ hq)) h2, OwnTs.ext e ds r L2 (fun q hq => hn q (List.mem_append_right _ hq)) h3⟩
end
theorem LOk.ext {L : List Addr} (h : LOk w H0 H L) (e : Ext w H w1 H1) : LOk w1 H0 H1 L := fun p hp =>
  let ⟨a, b, c, d⟩ := h p hp
  ⟨a, e.live b, e.znone b c, e.cln b d⟩
theorem EvOk.ext {v : V} {L : List Addr} {ev : EV} (h : EvOk K w H v L ev) (l : LOk w H0 H L) (e : Ext w H w1 H1) : EvOk K w1 H1 v L ev := by
  cases ev with
  | lkd d => exact ⟨h.1, h.2.mono e.z e.pre⟩
  | dat d => exact ⟨h.1, e.rep h.2⟩
  | own d =>
    obtain ⟨p, rfl, rfl, h⟩ := h
    exact ⟨p, rfl, rfl, e.holds (l p (by simp)).2.2.2 h⟩
  | deep d => exact OwnT.ext e d v L (fun p hp => (l p hp).2.2.2) h
theorem Slots.ext (s : Slots K H0 w σ H env) (e : Ext w H w1 H1) : Slots K H0 w1 σ H1 env := by
  obtain ⟨Ls, h, dj⟩ := s.ok
  refine ⟨s.len, Ls, fun i ev he => ?_, dj⟩
  obtain ⟨v, hv, hok, hl⟩ := h i ev he
  exact ⟨v, hv, hok.ext hl e, hl.ext e⟩
/-- a new object, frozen -/
theorem ext_frozen (s : Sto w H st) (hp : H p = none) : Ext w H ⟨w.cl, upd w.Z p o⟩ (upd H p o) ∧ Sto ⟨w.cl, upd w.Z p o⟩ (upd H p o) st := by
  have hz : w.Z p = none := by
    cases q : w.Z p with
    | none => rfl
    | some u => rw [s.sub p u q] at hp; cases hp
  refine ⟨⟨fun a u h => ?_, fun a h => ?_, fun a u h _ => ?_, fun a h => ?_, [], (List.append_nil _).symm, fun a h => by simp at h⟩, ⟨fun a u h => ?_, fun a h => ?_, s.nd, s.ln, fun n ns h => ?_⟩⟩
  · show upd w.Z p o a = some u
    rw [upd_ne (ne_of_none h hz)]; exact h
  · by_cases e : a = p
    · subst e; exact .inr hp
    · rw [show (Wd.mk w.cl (upd w.Z p o)).Z a = upd w.Z p o a from rfl, upd_ne e] at h
      exact .inl h
  · rw [upd_ne (ne_of_none h hp)]; exact h
  · by_cases e : a = p
    · subst e; exact hp
    · rw [upd_ne e] at h; exact h
  · by_cases e : a = p
    · subst e
      rw [show (Wd.mk w.cl (upd w.Z a o)).Z a = upd w.Z a o a from rfl, upd_same] at h
      rw [upd_same]; exact h
    · rw [show (Wd.mk w.cl (upd w.Z p o)).Z a = upd w.Z p o a from rfl, upd_ne e] at h
      rw [upd_ne e]; exact s.sub a u h
  · show upd w.Z p o a = none
    obtain ⟨n, hn, e⟩ := List.getElem_of_mem h
    have hs : n < st.length := by rw [s.ln]; exact hn
    obtain ⟨a', e1, e2⟩ := s.at_ n st[n] (List.getElem?_eq_getElem hs)
    have e3 : a' = a := by rw [List.getElem?_eq_getElem hn] at e1; rw [← e]; exact (Option.some.inj e1).symm
    subst e3
    rw [upd_ne (ne_of_none e2 hp)]; exact s.zc _ h
  · obtain ⟨a, e1, e2⟩ := s.at_ n ns h
    exact ⟨a, e1, by rw [upd_ne (ne_of_none e2 hp)]; exact e2⟩
/-- a new object, of one's own -/
theorem ext_laid (s : Sto w H st) (hp : H p = none) : Ext w H w (upd H p o) ∧ Sto w (upd H p o) st := by
  have hz : w.Z p = none := by
    cases q : w.Z p with
    | none => rfl
    | some u => rw [s.sub p u q] at hp; cases hp
  refine ⟨⟨Same.refl _, fun a h => .inl h, fun a u h _ => ?_, fun a h => ?_, [], (List.append_nil _).symm, fun a h => by simp at h⟩, ⟨fun a u h => ?_, s.zc, s.nd, s.ln, fun n ns h => ?_⟩⟩
  · rw [upd_ne (ne_of_none h hp)]; exact h
  · by_cases e : a = p
    · subst e; exact hp
    · rw [upd_ne e] at h; exact h
  · rw [upd_ne (ne_of_none h hz)]; exact s.sub a u h
  · obtain ⟨a, e1, e2⟩ := s.at_ n ns h
    exact ⟨a, e1, by rw [upd_ne (ne_of_none e2 hp)]; exact e2⟩
theorem Sto.celln (s : Sto w H st) {a : Addr} (h : a ∈ w.cl) : H a ≠ none := by
  obtain ⟨n, hn, e⟩ := List.getElem_of_mem h
  have hs : n < st.length := by rw [s.ln]; exact hn
  obtain ⟨a', e1, e2⟩ := s.at_ n st[n] (List.getElem?_eq_getElem hs)
  rw [List.getElem?_eq_getElem hn] at e1
  rw [← e, Option.some.inj e1]
  exact some_ne e2
theorem Sto.notcell (s : Sto w H st) {a : Addr} (h : H a = none) : a ∉ w.cl := fun z => s.celln z h
theorem Sto.zfree (s : Sto w H st) {a : Addr} (h : H a = none) : w.Z a = none := by
  cases q : w.Z a with
  | none => rfl
  | some u => rw [s.sub a u q] at h; cases h
end
/-- the objects at L are frozen, too -/
def plus (Z : Hp) (L : List Addr) (H : Hp) : Hp := fun a => if a ∈ L then H a else Z a
def minus (Z : Hp) (L : List Addr) : Hp := fun a => if a ∈ L then none else Z a
theorem plus_in {Z H : Hp} {L : List Addr} {a : Addr} (h : a ∈ L) : plus Z L H a = H a := by unfold plus; rw [if_pos h]
theorem plus_out {Z H : Hp} {L : List Addr} {a : Addr} (h : a ∉ L) : plus Z L H a = Z a := by unfold plus; rw [if_neg h]
theorem minus_in {Z : Hp} {L : List Addr} {a : Addr} (h : a ∈ L) : minus Z L a = none := by unfold minus; rw [if_pos h]
theorem minus_out {Z : Hp} {L : List Addr} {a : Addr} (h : a ∉ L) : minus Z L a = Z a := by unfold minus; rw [if_neg h]
theorem SqT.less {K : Frag} {Z : Hp} {L : List Addr} {a : Addr} {xs : List V} (hp : ∀ p ∈ L, ∀ ys, ¬ Rd Z p (.tup ys)) (h : SqT K Z a xs) : SqT K (minus Z L) a xs := by
  rcases h with h | h
  · by_cases e : a ∈ L
    · exact absurd h (hp a e _)
    · rcases h with h | ⟨o, h⟩
      · exact .inl (.inl (by rw [minus_out e]; exact h))
      · exact .inl (.inr ⟨o, by rw [minus_out e]; exact h⟩)
  · exact .inr h
section
variable {K : Frag} {cl : List Addr} {Z : Hp} {L : List Addr}
mutual
theorem Rep.less (hp : ∀ p ∈ L, ∀ ys, ¬ Rd Z p (.tup ys)) : ∀ (d : D) (v : V), d.flat = true → Rep K cl Z d v → Rep K cl (minus Z L) d v
  | .non, v, _, h => h
  | .bl _, v, _, h => h
  | .int _, v, _, h => h
  | .str _, v, _, h => h
  | .ty _, v, _, h => h
  | .ref _, v, _, h => h
  | .top, v, _, h => h
  | .cel n, v, _, h => h
  | .scr ns, v, f, h => by simp [D.flat] at f
  | .lst ds, v, f, h => by simp [D.flat] at f
  | .tup ds, v, f, h => by
    obtain ⟨a, vs, e, s, r⟩ := (show ∃ a vs, v = .ref a ∧ SqT K Z a vs ∧ Reps K cl Z ds vs from h)
    exact ⟨a, vs, e, SqT.less hp s, Reps.less hp ds vs (by simpa [D.flat] using f) r⟩
  | .dK ks ds, v, f, h => by simp [D.flat] at f
  | .dT ks ds, v, f, h => by simp [D.flat] at f
theorem Reps.less (hp : ∀ p ∈ L, ∀ ys, ¬ Rd Z p (.tup ys)) : ∀ (ds : List D) (vs : List V), D.flats ds = true → Reps K cl Z ds vs → Reps K cl (minus Z L) ds vs
  | [], vs, _, h => h
  | d :: ds, vs, f, h => by
    obtain ⟨v, r, e, h1, h2⟩ := (show ∃ v r, vs = v :: r ∧ Rep K cl Z d v ∧ Reps K cl Z ds r from h)
    simp [D.flats] at f
    exact ⟨v, r, e, Rep.less hp d v f.1 h1, Reps.less hp ds r f.2 h2⟩
end
end
section
variable {K : Frag} {w w1 w2 : Wd} {H H0 H1 H2 : Hp} {st st1 : Store} {L : List Addr}
theorem plus_same (hz : ∀ p ∈ L, w.Z p = none) : Same w.Z (plus w.Z L H) := fun a u h => by
  rw [plus_out (fun hm => by rw [hz a hm] at h; cases h)]; exact h
theorem sto_plus (s : Sto w H st) (hn : ∀ p ∈ L, p ∉ w.cl) : Sto ⟨w.cl, plus w.Z L H⟩ H st := by
  refine ⟨fun a u h => ?_, fun a h => ?_, s.nd, s.ln, s.at_⟩
  · by_cases q : a ∈ L
    · rw [show (Wd.mk w.cl (plus w.Z L H)).Z a = plus w.Z L H a from rfl, plus_in q] at h; exact h
    · rw [show (Wd.mk w.cl (plus w.Z L H)).Z a = plus w.Z L H a from rfl, plus_out q] at h; exact s.sub a u h
  · show plus w.Z L H a = none
    rw [plus_out (fun q => hn a q h)]; exact s.zc a h
theorem ext_plus (e : Ext w H w1 H1) (hp : ∀ p ∈ L, H p = none ∧ w1.Z p = none) : Ext w H ⟨w1.cl, plus w1.Z L H1⟩ H1 := by
  refine ⟨fun a u h => plus_same (fun p q => (hp p q).2) a u (e.z a u h), fun a h => ?_, e.kp, e.tr, e.cl⟩
  by_cases q : a ∈ L
  · exact .inr (hp a q).1
  · rw [show (Wd.mk w1.cl (plus w1.Z L H1)).Z a = plus w1.Z L H1 a from rfl, plus_out q] at h
    exact e.fr a h
/-- what stands at one's own addresses is no tuple -/
theorem Holds.obj {p : Addr} {d : D} (h : Holds K w H p d) : ∃ o, H p = some o ∧ ∀ ys u, o ≠ .tup ys ∧ o ≠ .frz u (.tup ys) := by
  cases d with
  | lst ds => obtain ⟨vs, a, b⟩ := h; exact ⟨_, a, fun ys u => ⟨fun z => (nomatch z), fun z => (nomatch z)⟩⟩
  | dK ks ds => obtain ⟨vs, l, a, b⟩ := h; exact ⟨_, a, fun ys u => ⟨fun z => (nomatch z), fun z => (nomatch z)⟩⟩
  | dT ks ds => obtain ⟨vs, l, a, b⟩ := h; exact ⟨_, a, fun ys u => ⟨fun z => (nomatch z), fun z => (nomatch z)⟩⟩
  | _ => exact h.elim
mutual
theorem OwnT.obj : ∀ (d : D) (v : V) (L : List Addr), OwnT K w H d v L → ∀ p ∈ L, ∃ o, H p = some o ∧ ∀ ys u, o ≠ .tup ys ∧ o ≠ .frz u (.tup ys)
  | .lst ds, v, L, h, p, hp => by
    obtain ⟨q, vs, L', rfl, rfl, h1, h2, h3⟩ := (show ∃ p vs L', v = .ref p ∧ L = p :: L' ∧ p ∉ L' ∧ H p = some (.lst vs) ∧ OwnTs K w H ds vs L' from h)
    rcases List.mem_cons.mp hp with e | hp
    · exact ⟨.lst vs, by rw [e]; exact h2, fun ys u => ⟨fun z => (nomatch z), fun z => (nomatch z)⟩⟩
    · exact OwnTs.obj ds vs L' h3 p hp
  | .non, v, L, h, p, hp => by rw [h.1] at hp; simp at hp
  | .bl _, v, L, h, p, hp => by rw [h.1] at hp; simp at hp
  | .int _, v, L, h, p, hp => by rw [h.1] at hp; simp at hp
  | .str _, v, L, h, p, hp => by rw [h.1] at hp; simp at hp
  | .ty _, v, L, h, p, hp => by rw [h.1] at hp; simp at hp
  | .ref _, v, L, h, p, hp => by rw [h.1] at hp; simp at hp
  | .top, v, L, h, p, hp => by rw [h.1] at hp; simp at hp
  | .cel _, v, L, h, p, hp => by rw [h.1] at hp; simp at hp
  | .scr _, v, L, h, p, hp => by rw [h.1] at hp; simp at hp
  | .tup ds, v, L, h, p, hp => by
    obtain ⟨a, vs, rfl, h1, h2⟩ := (show ∃ a vs, v = .ref a ∧ SqT K w.Z a vs ∧ OwnTs K w H ds vs L from h)
    exact OwnTs.obj ds vs L h2 p hp
  | .dK ks ds, v, L, h, p, hp => by
    obtain ⟨q, vs, L', rfl, rfl, h1, hl, h2, h3⟩ := (show ∃ p vs L', v = .ref p ∧ L = p :: L' ∧ p ∉ L' ∧ vs.length = ks.length ∧ H p = some (.dK (ks.zip vs)) ∧ OwnTs K w H ds vs L' from h)
    rcases List.mem_cons.mp hp with e | hp
    · exact ⟨.dK (ks.zip vs), by rw [e]; exact h2, fun ys u => ⟨fun z => (nomatch z), fun z => (nomatch z)⟩⟩
    · exact OwnTs.obj ds vs L' h3 p hp
  | .dT _ _, v, L, h, p, hp => by rw [h.1] at hp; simp at hp
theorem OwnTs.obj : ∀ (ds : List D) (vs : List V) (L : List Addr), OwnTs K w H ds vs L → ∀ p ∈ L, ∃ o, H p = some o ∧ ∀ ys u, o ≠ .tup ys ∧ o ≠ .frz u (.tup ys)
  | [], vs, L, h, p, hp => by rw [h.2] at hp; simp at hp
  | d :: ds, vs, L, h, p, hp => by
    obtain ⟨v, r, L1, L2, rfl, rfl, h1, h2, h3⟩ := (show ∃ v r L1 L2, vs = v :: r ∧ L = L1 ++ L2 ∧ (∀ p ∈ L1, p ∉ L2) ∧ OwnT K w H d v L1 ∧ OwnTs K w H ds r L2 from h)
    rcases List.mem_append.mp hp with hp | hp
    · exact OwnT.obj d v L1 h2 p hp
    · exact OwnTs.obj ds r L2 h3 p hp
end
mutual
theorem OwnT.rep {Z : Hp} (hz : Same w.Z Z) : ∀ (d : D) (v : V) (L : List Addr), (∀ p ∈ L, Z p = H p) → OwnT K w H d v L → Rep K w.cl Z d v
  | .lst ds, v, L, hl, h => by
    obtain ⟨p, vs, L', rfl, rfl, h1, h2, h3⟩ := (show ∃ p vs L', v = .ref p ∧ L = p :: L' ∧ p ∉ L' ∧ H p = some (.lst vs) ∧ OwnTs K w H ds vs L' from h)
    exact ⟨p, vs, rfl, by rw [hl p List.mem_cons_self]; exact h2, OwnTs.rep hz ds vs L' (fun q hq => hl q (List.mem_cons_of_mem _ hq)) h3⟩
  | .non, v, L, hl, h => Rep.mono hz (Pre.refl _) _ _ h.2.2
  | .bl _, v, L, hl, h => Rep.mono hz (Pre.refl _) _ _ h.2.2
  | .int _, v, L, hl, h => Rep.mono hz (Pre.refl _) _ _ h.2.2
  | .str _, v, L, hl, h => Rep.mono hz (Pre.refl _) _ _ h.2.2
  | .ty _, v, L, hl, h => Rep.mono hz (Pre.refl _) _ _ h.2.2
  | .ref _, v, L, hl, h => Rep.mono hz (Pre.refl _) _ _ h.2.2
  | .top, v, L, hl, h => Rep.mono hz (Pre.refl _) _ _ h.2.2
  | .cel _, v, L, hl, h => Rep.mono hz (Pre.refl _) _ _ h.2.2
  | .scr _, v, L, hl, h => Rep.mono hz (Pre.refl _) _ _ h.2.2
  | .tup ds, v, L, hl, h => by
    obtain ⟨a, vs, rfl, h1, h2⟩ := (show ∃ a vs, v = .ref a ∧ SqT K w.Z a vs ∧ OwnTs K w H ds vs L from h)
    exact ⟨a, vs, rfl, Same.seqT hz h1, OwnTs.rep hz ds vs L hl h2⟩
  | .dK ks ds, v, L, hl, h => by
    obtain ⟨p, vs, L', rfl, rfl, h1, hl', h2, h3⟩ := (show ∃ p vs L', v = .ref p ∧ L = p :: L' ∧ p ∉ L' ∧ vs.length = ks.length ∧ H p = some (.dK (ks.zip vs)) ∧ OwnTs K w H ds vs L' from h)
    exact ⟨p, vs, rfl, hl', .inl (by rw [hl p List.mem_cons_self]; exact h2), OwnTs.rep hz ds vs L' (fun q hq => hl q (List.mem_cons_of_mem _ hq)) h3⟩
  | .dT _ _, v, L, hl, h => Rep.mono hz (Pre.refl _) _ _ h.2.2
theorem OwnTs.rep {Z : Hp} (hz : Same w.Z Z) : ∀ (ds : List D) (vs : List V) (L : List Addr), (∀ p ∈ L, Z p = H p) → OwnTs K w H ds vs L → Reps K w.cl Z ds vs
  | [], vs, L, hl, h => h.1
  | d :: ds, vs, L, hl, h => by
    obtain ⟨v, r, L1, L2, rfl, rfl, h1, h2, h3⟩ := (show ∃ v r L1 L2, vs = v :: r ∧ L = L1 ++ L2 ∧ (∀ p ∈ L1, p ∉ L2) ∧ OwnT K w H d v L1 ∧ OwnTs K w H ds r L2 from h)
    exact ⟨v, r, rfl, OwnT.rep hz d v L1 (fun q hq => hl q (List.mem_append_left _ hq)) h2, OwnTs.rep hz ds r L2 (fun q hq => hl q (List.mem_append_right _ hq)) h3⟩
end
/-- one's own objects, frozen, are worth the datum -/
theorem EvOk.rep {v : V} {ev : EV} (h : EvOk K w H v L ev) (hz : ∀ p ∈ L, w.Z p = none) : Rep K w.cl (plus w.Z L H) ev.d v := by
  have sm := plus_same (H := H) hz
  cases ev with
  | lkd d => exact Rep.mono sm (Pre.refl _) _ _ h.2.rep
  | dat d => exact Rep.mono sm (Pre.refl _) _ _ h.2
  | own d =>
    obtain ⟨p, rfl, rfl, h⟩ := h
    have hp : plus w.Z [p] H p = H p := plus_in (by simp)
    cases d with
    | lst ds => obtain ⟨vs, a, b⟩ := h; exact ⟨p, vs, rfl, by rw [hp]; exact a, Reps.mono sm (Pre.refl _) _ _ b⟩
    | dK ks ds => obtain ⟨vs, l, a, b⟩ := h; exact ⟨p, vs, rfl, l, .inl (by rw [hp]; exact a), Reps.mono sm (Pre.refl _) _ _ b⟩
    | dT ks ds => obtain ⟨vs, l, a, b⟩ := h; exact ⟨p, vs, rfl, l, by rw [hp]; exact a, Reps.mono sm (Pre.refl _) _ _ b⟩
    | _ => exact h.elim
  | deep d => exact OwnT.rep sm d v L (fun p hp => plus_in hp) h
theorem EvOk.obj {v : V} {ev : EV} (h : EvOk K w H v L ev) : ∀ p ∈ L, ∃ o, H p = some o ∧ ∀ ys u, o ≠ .tup ys ∧ o ≠ .frz u (.tup ys) := by
  intro p hp
  cases ev with
  | lkd d => rw [h.1] at hp; simp at hp
  | dat d => rw [h.1] at hp; simp at hp
  | own d =>
    obtain ⟨q, rfl, rfl, h⟩ := h
    rw [List.mem_singleton.mp hp]
    exact h.obj
  | deep d =>
    exact OwnT.obj d v L h p hp
theorem Holds.live {p : Addr} {d : D} (h : Holds K w H p d) : H p ≠ none := let ⟨o, e, _⟩ := h.obj; some_ne e
/-- the other objects as they were -/
theorem Holds.at_ {w' : Wd} {p : Addr} {d : D} {H' : Hp} (h : Holds K w H p d) (e : H' p = H p) (sm : Same w.Z w'.Z) (pr : Pre w.cl w'.cl) : Holds K w' H' p d := by
  cases d with
  | lst ds => obtain ⟨vs, a, b⟩ := h; exact ⟨vs, by rw [e]; exact a, Reps.mono sm pr _ _ b⟩
  | dK ks ds => obtain ⟨vs, l, a, b⟩ := h; exact ⟨vs, l, by rw [e]; exact a, Reps.mono sm pr _ _ b⟩
  | dT ks ds => obtain ⟨vs, l, a, b⟩ := h; exact ⟨vs, l, by rw [e]; exact a, Reps.mono sm pr _ _ b⟩
  | _ => exact h.elim
mutual
theorem OwnT.at_ {w' : Wd} {H' : Hp} (sm : Same w.Z w'.Z) (pr : Pre w.cl w'.cl) : ∀ (d : D) (v : V) (L : List Addr), (∀ p ∈ L, H' p = H p) → OwnT K w H d v L → OwnT K w' H' d v L
  | .lst ds, v, L, hl, h => by
    obtain ⟨p, vs, L', rfl, rfl, h1, h2, h3⟩ := (show ∃ p vs L', v = .ref p ∧ L = p :: L' ∧ p ∉ L' ∧ H p = some (.lst vs) ∧ OwnTs K w H ds vs L' from h)
    exact ⟨p, vs, L', rfl, rfl, h1, by rw [hl p List.mem_cons_self]; exact h2, OwnTs.at_ sm pr ds vs L' (fun q hq => hl q (List.mem_cons_of_mem _ hq)) h3⟩
  | .non, v, L, _, h => ⟨h.1, h.2.1, Rep.mono sm pr _ _ h.2.2⟩
  | .bl _, v, L, _, h => ⟨h.1, h.2.1, Rep.mono sm pr _ _ h.2.2⟩
  | .int _, v, L, _, h => ⟨h.1, h.2.1, Rep.mono sm pr _ _ h.2.2⟩
  | .str _, v, L, _, h => ⟨h.1, h.2.1, Rep.mono sm pr _ _ h.2.2⟩
  | .ty _, v, L, _, h => ⟨h.1, h.2.1, Rep.mono sm pr _ _ h.2.2⟩
  | .ref _, v, L, _, h => ⟨h.1, h.2.1, Rep.mono sm pr _ _ h.2.2⟩
  | .top, v, L, _, h => ⟨h.1, h.2.1, Rep.mono sm pr _ _ h.2.2⟩
  | .cel _, v, L, _, h => ⟨h.1, h.2.1, Rep.mono sm pr _ _ h.2.2⟩
  | .scr _, v, L, _, h => ⟨h.1, h.2.1, Rep.mono sm pr _ _ h.2.2⟩
  | .tup ds, v, L, hl, h => by
    obtain ⟨a, vs, rfl, h1, h2⟩ := (show ∃ a vs, v = .ref a ∧ SqT K w.Z a vs ∧ OwnTs K w H ds vs L from h)
    exact ⟨a, vs, rfl, Same.seqT sm h1, OwnTs.at_ sm pr ds vs L hl h2⟩
  | .dK ks ds, v, L, hl, h => by
    obtain ⟨p, vs, L', rfl, rfl, h1, hl', h2, h3⟩ := (show ∃ p vs L', v = .ref p ∧ L = p :: L' ∧ p ∉ L' ∧ vs.length = ks.length ∧ H p = some (.dK (ks.zip vs)) ∧ OwnTs K w H ds vs L' from h)
    exact ⟨p, vs, L', rfl, rfl, h1, hl', by rw [hl p List.mem_cons_self]; exact h2, OwnTs.at_ sm pr ds vs L' (fun q hq => hl q (List.mem_cons_of_mem _ hq)) h3⟩
  | .dT _ _, v, L, _, h => ⟨h.1, h.2.1, Rep.mono sm pr _ _ h.2.2⟩
theorem OwnTs.at_ {w' : Wd} {H' : Hp} (sm : Same w.Z w'.Z) (pr : Pre w.cl w'.cl) : ∀ (ds : List D) (vs : List V) (L : List Addr), (∀ p ∈ L, H' p = H p) → OwnTs K w H ds vs L → OwnTs K w' H' ds vs L
  | [], vs, L, hl, h => h
  | d :: ds, vs, L, hl, h => by
    obtain ⟨v, r, L1, L2, rfl, rfl, h1, h2, h3⟩ := (show ∃ v r L1 L2, vs = v :: r ∧ L = L1 ++ L2 ∧ (∀ p ∈ L1, p ∉ L2) ∧ OwnT K w H d v L1 ∧ OwnTs K w H ds r L2 from h)
    exact ⟨v, r, L1, L2, rfl, rfl, h1, OwnT.at_ sm pr d v L1 (fun q hq => hl q (List.mem_append_left _ hq)) h2, OwnTs.at_ sm pr ds r L2 (fun q hq => hl q (List.mem_append_right _ hq)) h3⟩
end
theorem EvOk.at_ {w' : Wd} {H' : Hp} {v : V} {ev : EV} (h : EvOk K w H v L ev) (sm : Same w.Z w'.Z) (pr : Pre w.cl w'.cl) (hl : ∀ p ∈ L, H' p = H p) : EvOk K w' H' v L ev := by
  cases ev with
  | lkd d => exact ⟨h.1, h.2.mono sm pr⟩
  | dat d => exact ⟨h.1, Rep.mono sm pr _ _ h.2⟩
  | own d =>
    obtain ⟨p, rfl, rfl, h⟩ := h
    exact ⟨p, rfl, rfl, h.at_ (hl p (by simp)) sm pr⟩
  | deep d => exact OwnT.at_ sm pr d v L hl h
theorem EvOk.dat_nil {v : V} {d : D} (h : EvOk K w H v L (.dat d)) : L = [] := h.1
end
end DL

set_option Elab.async false
set_option linter.all false
set_option maxRecDepth 100000
set_option maxHeartbeats 4000000
/-! DL2: the judgements on data; expressions. -/
namespace DL
open PySem PySem.Spec L2

abbrev TD := DEnv → Store → (D → Store → Prop) → Prop
abbrev TDT := DEnv → Store → (Bool → Store → Prop) → Prop
abbrev TDA := DEnv → Store → (List D → Store → Prop) → Prop
abbrev TDR := DEnv → Store → (EV → Store → Prop) → Prop

def LiftE (K : Frag) (t : TE) (td : TD) : Prop := ∀ (H0 : Hp) (w : Wd) (σ : L2.St) (H : Hp) (env : DEnv) (st : Store) (Q : D → Store → Prop) (Q' : VK),
  Slots K H0 w σ H env → Sto w H st → td env st Q → (∀ w' H' v d st', Ext w H w' H' → Sto w' H' st' → Rep K w'.cl w'.Z d v → Q d st' → Q' v H') → t σ H Q'
def LiftT (K : Frag) (t : TT) (td : TDT) : Prop := ∀ (H0 : Hp) (w : Wd) (σ : L2.St) (H : Hp) (env : DEnv) (st : Store) (Q : Bool → Store → Prop) (Q' : Bool → Hp → Prop),
  Slots K H0 w σ H env → Sto w H st → td env st Q → (∀ w' H' b st', Ext w H w' H' → Sto w' H' st' → Q b st' → Q' b H') → t σ H Q'
def LiftA (K : Frag) (t : TA) (td : TDA) : Prop := ∀ (H0 : Hp) (w : Wd) (σ : L2.St) (H : Hp) (env : DEnv) (st : Store) (Q : List D → Store → Prop) (Q' : List V → Hp → Prop),
  Slots K H0 w σ H env → Sto w H st → td env st Q → (∀ w' H' vs ds st', Ext w H w' H' → Sto w' H' st' → Reps K w'.cl w'.Z ds vs → Q ds st' → Q' vs H') → t σ H Q'
/-- a result: frozen data, or a new object of one's own -/
def ROk (K : Frag) (H : Hp) (w' : Wd) (H' : Hp) (v : V) : EV → Prop
  | .dat d => Rep K w'.cl w'.Z d v
  | .own d => ∃ p, v = .ref p ∧ H p = none ∧ w'.Z p = none ∧ p ∉ w'.cl ∧ Holds K w' H' p d
  | .deep d => ∃ L, OwnT K w' H' d v L ∧ LOk w' H H' L
  | .lkd _ => False
theorem ROk.ok {K : Frag} {H : Hp} {w' : Wd} {H' : Hp} {v : V} {ev : EV} (r : ROk K H w' H' v ev) : ∃ L, EvOk K w' H' v L ev ∧ LOk w' H H' L := by
  cases ev with
  | lkd d => exact r.elim
  | dat d => exact ⟨[], ⟨rfl, r⟩, fun p hp => by simp at hp⟩
  | own d =>
    obtain ⟨p, rfl, hp, hz, hn, h⟩ := r
    refine ⟨[p], ⟨p, rfl, rfl, h⟩, fun q hq => ?_⟩
    rw [List.mem_singleton.mp hq]
    exact ⟨hp, h.live, hz, hn⟩
  | deep d => exact r
def EV.free : EV → Bool
  | .lkd _ => false
  | _ => true
theorem ROk.of {K : Frag} {H : Hp} {w' : Wd} {H' : Hp} {v : V} {ev : EV} {L : List Addr} (h : EvOk K w' H' v L ev) (l : LOk w' H H' L) (hf : ev.free = true := by first | rfl | assumption) : ROk K H w' H' v ev := by
  cases ev with
  | lkd d => cases hf
  | dat d => exact h.2
  | own d =>
    obtain ⟨p, rfl, rfl, h⟩ := h
    obtain ⟨a, b, c, d⟩ := l p (by simp)
    exact ⟨p, rfl, a, c, d, h⟩
  | deep d => exact ⟨L, h, l⟩
def LiftR (K : Frag) (t : TE) (td : TDR) : Prop := ∀ (H0 : Hp) (w : Wd) (σ : L2.St) (H : Hp) (env : DEnv) (st : Store) (Q : EV → Store → Prop) (Q' : VK),
  Slots K H0 w σ H env → Sto w H st → td env st Q → (∀ w' H' v ev st', Ext w H w' H' → Sto w' H' st' → ROk K H w' H' v ev → Q ev st' → Q' v H') → t σ H Q'

structure DE (X : Cx) (e : Expr) (td : TD) : Prop where ex : ∃ t, PE X e t ∧ LiftE X.K t td
structure DT (X : Cx) (e : Expr) (td : TDT) : Prop where ex : ∃ t, PT X e t ∧ LiftT X.K t td
structure DW (X : Cx) (e : Expr) (td : TDT) : Prop where ex : ∃ t, PW X e t ∧ LiftT X.K t td
structure DA (X : Cx) (es : List Expr) (td : TDA) : Prop where ex : ∃ t, PA X es t ∧ LiftA X.K t td
structure RE (X : Cx) (e : Expr) (td : TDR) : Prop where ex : ∃ t, PE X e t ∧ LiftR X.K t td

/-! ### results: frozen or one's own -/
def dFreeze (t : TDR) : TD := fun env st Q => t env st fun ev st' => Q ev.d st'
def dDat (t : TD) : TDR := fun env st Q => t env st fun d st' => Q (.dat d) st'
/-- a result is frozen -/
theorem ROk.froze {K : Frag} {w w' : Wd} {H H' : Hp} {v : V} {ev : EV} {st : Store} (r : ROk K H w' H' v ev) (x : Ext w H w' H') (s : Sto w' H' st) : ∃ w2, Ext w H w2 H' ∧ Sto w2 H' st ∧ Rep K w2.cl w2.Z ev.d v := by
  obtain ⟨L, h, l⟩ := r.ok
  exact ⟨⟨w'.cl, plus w'.Z L H'⟩, ext_plus x fun p hp => ⟨(l p hp).1, (l p hp).2.2.1⟩, sto_plus s fun p hp => (l p hp).2.2.2, h.rep fun p hp => (l p hp).2.2.1⟩
section
variable {X : Cx} {e a b c : Expr} {es : List Expr} {pos : Pos} {ta tb tc : TD} {tr : TDR}
theorem RE.dE (h : RE X e tr) : DE X e (dFreeze tr) := by
  obtain ⟨t, p, l⟩ := h.ex
  refine ⟨t, p, fun H0 w σ H env st Q Q' sl so q k => l H0 w σ H env st _ Q' sl so q fun w' H' v ev st' x s r q => ?_⟩
  obtain ⟨w2, x2, s2, r2⟩ := r.froze x s
  exact k w2 H' v ev.d st' x2 s2 r2 q
theorem DE.rE (h : DE X e ta) : RE X e (dDat ta) := by
  obtain ⟨t, p, l⟩ := h.ex
  exact ⟨t, p, fun H0 w σ H env st Q Q' sl so q k => l H0 w σ H env st _ Q' sl so q fun w' H' v d st' x s r q => k w' H' v (.dat d) st' x s r q⟩

/-! ### names, constants -/
def dVar (i : Nat) : TD := fun env st Q => match env[i]? with | some (some (.dat d)) => Q d st | some (some (.lkd d)) => Q d st | _ => False
def dC (d : D) : TD := fun _ st Q => Q d st
theorem lift_var {K : Frag} (i : Nat) : LiftE K (tVar i) (dVar i) := by
  intro H0 w σ H env st Q Q' sl so q k
  unfold dVar at q
  split at q
  · rename_i d he
    obtain ⟨Ls, h, _⟩ := sl.ok
    obtain ⟨v, hv, ⟨_, hr⟩, _⟩ := h i _ he
    exact ⟨v, hv, k w H v d st (Ext.refl _ _) so hr q⟩
  · rename_i d he
    obtain ⟨Ls, h, _⟩ := sl.ok
    obtain ⟨v, hv, ⟨_, hr⟩, _⟩ := h i _ he
    exact ⟨v, hv, k w H v d st (Ext.refl _ _) so hr.rep q⟩
  · exact q.elim
theorem lift_C {K : Frag} {v : V} {d : D} (h : ∀ cl Z, Rep K cl Z d v) : LiftE K (tC v) (dC d) := fun H0 w σ H env st Q Q' sl so q k => k w H v d st (Ext.refl _ _) so (h _ _) q
theorem dv (i : Nat) {x : Str} {pos : Pos} (hN : X.N[i]? = some x := by rfl) (hv : Vis X.env.scope x := by first | exact Or.inl rfl | exact Or.inr (Or.inl rfl) | exact Or.inr (Or.inr rfl)) (hd : (x == ("__debug__" : Str)) = false := by decide)
    (hcd : (x == ("__classdict__" : Str)) = false := by decide) : DE X (.Name x pos) (dVar i) := ⟨_, pe_var hN hv hd hcd, lift_var i⟩
theorem d_int {i : Int} {j} : DE X (.Constant (.int i) j pos) (dC (.int i)) := ⟨_, pe_int, lift_C fun _ _ => rfl⟩
theorem d_bl {i : Bool} {j} : DE X (.Constant (.bool i) j pos) (dC (.bl i)) := ⟨_, pe_bl, lift_C fun _ _ => rfl⟩
theorem d_non {j} : DE X (.Constant .none j pos) (dC .non) := ⟨_, pe_non, lift_C fun _ _ => rfl⟩
theorem d_str {i : Str} {j} : DE X (.Constant (.str i) j pos) (dC (.str i)) := ⟨_, pe_str, lift_C fun _ _ => rfl⟩
/-- a module's constant: u is worth v, v is worth d whatever stands -/
theorem d_glob {x : Str} {u : Value} {v : V} {d : D} (hm : X.mg x = some u) (r : RelV v u) (h : ∀ cl Z, Rep X.K cl Z d v) (hg : Gl X x := by rfl) (hdb : (x == ("__debug__" : Str)) = false := by decide) : DE X (.Name x pos) (dC d) := ⟨_, pe_glob hg hm r hdb, lift_C h⟩
/-- a built-in type's name -/
theorem d_type {x : Str} {T : String} (hm : X.mg x = none) (hv : bootBuiltins x = some (.type T)) (hg : Gl X x := by rfl) (hn : x ≠ "__name__" := by decide) (hdb : (x == ("__debug__" : Str)) = false := by decide) : DE X (.Name x pos) (dC (.ty T)) := ⟨_, pe_bltn hg hm hv (v := .ty T) rfl hn hdb, lift_C fun _ _ => rfl⟩

/-! ### operators -/
abbrev W2 := D → D → (D → Prop) → Prop
abbrev W1 := D → (D → Prop) → Prop
def OpL (K : Frag) (r : R2) (opd : W2) : Prop := ∀ (w : Wd) (H : Hp) (st : Store) (x y : D) (v u : V) (Qd : D → Prop) (Q' : VK), Sto w H st → Rep K w.cl w.Z x v → Rep K w.cl w.Z y u → opd x y Qd →
  (∀ z w' H' v', Ext w H w' H' → Sto w' H' st → Rep K w'.cl w'.Z z v' → Qd z → Q' v' H') → r v u H Q'
def UnL (K : Frag) (r : V → Hp → VK → Prop) (opd : W1) : Prop := ∀ (w : Wd) (H : Hp) (st : Store) (x : D) (v : V) (Qd : D → Prop) (Q' : VK), Sto w H st → Rep K w.cl w.Z x v → opd x Qd →
  (∀ z w' H' v', Ext w H w' H' → Sto w' H' st → Rep K w'.cl w'.Z z v' → Qd z → Q' v' H') → r v H Q'
/-- .. whose result is a new object of one's own -/
abbrev W2R := D → D → (D → Prop) → Prop
def OpLR (K : Frag) (r : R2) (opd : W2R) : Prop := ∀ (w : Wd) (H : Hp) (st : Store) (x y : D) (v u : V) (Qd : D → Prop) (Q' : VK), Sto w H st → Rep K w.cl w.Z x v → Rep K w.cl w.Z y u → opd x y Qd →
  (∀ z w' H' p, Ext w H w' H' → Sto w' H' st → H p = none → Holds K w' H' p z → w'.Z p = none → p ∉ w'.cl → Qd z → Q' (.ref p) H') → r v u H Q'
def dOp (opd : W2) (ta tb : TD) : TD := fun env st Q => ta env st fun x st1 => tb env st1 fun y st2 => opd x y fun z => Q z st2
def dOpR (opd : W2R) (ta tb : TD) : TDR := fun env st Q => ta env st fun x st1 => tb env st1 fun y st2 => opd x y fun z => Q (.own z) st2
def dUn (opd : W1) (ta : TD) : TD := fun env st Q => ta env st fun x st1 => opd x fun z => Q z st1
theorem lift_op {K : Frag} {r : R2} {opd : W2} {t u : TE} (hr : OpL K r opd) (ha : LiftE K t ta) (hb : LiftE K u tb) : LiftE K (tOp r t u) (dOp opd ta tb) := by
  intro H0 w σ H env st Q Q' sl so q k
  refine ha H0 w σ H env st _ _ sl so q fun w1 H1 v x st1 e1 s1 r1 q1 => ?_
  refine hb H0 w1 σ H1 env st1 _ _ (sl.ext e1) s1 q1 fun w2 H2 v2 y st2 e2 s2 r2 q2 => ?_
  exact hr w2 H2 st2 x y v v2 _ Q' s2 (e2.rep r1) r2 q2 fun z w3 H3 v3 e3 s3 r3 q3 => k w3 H3 v3 z st2 ((e1.trans e2).trans e3) s3 r3 q3
theorem lift_opR {K : Frag} {r : R2} {opd : W2R} {t u : TE} (hr : OpLR K r opd) (ha : LiftE K t ta) (hb : LiftE K u tb) : LiftR K (tOp r t u) (dOpR opd ta tb) := by
  intro H0 w σ H env st Q Q' sl so q k
  refine ha H0 w σ H env st _ _ sl so q fun w1 H1 v x st1 e1 s1 r1 q1 => ?_
  refine hb H0 w1 σ H1 env st1 _ _ (sl.ext e1) s1 q1 fun w2 H2 v2 y st2 e2 s2 r2 q2 => ?_
  exact hr w2 H2 st2 x y v v2 _ Q' s2 (e2.rep r1) r2 q2 fun z w3 H3 p e3 s3 hp h3 hz hn q3 => k w3 H3 _ (.own z) st2 ((e1.trans e2).trans e3) s3 ⟨p, rfl, (e1.trans e2).tr p hp, hz, hn, h3⟩ q3
theorem lift_un {K : Frag} {r : V → Hp → VK → Prop} {opd : W1} {t : TE} (hr : UnL K r opd) (ha : LiftE K t ta) : LiftE K (tUn r t) (dUn opd ta) := by
  intro H0 w σ H env st Q Q' sl so q k
  refine ha H0 w σ H env st _ _ sl so q fun w1 H1 v x st1 e1 s1 r1 q1 => ?_
  exact hr w1 H1 st1 x v _ Q' s1 r1 q1 fun z w3 H3 v3 e3 s3 r3 q3 => k w3 H3 v3 z st1 (e1.trans e3) s3 r3 q3
theorem d_op {op : Operator} {r : R2} {opd : W2} (ho : OpR X (binaryOp op) r) (hl : OpL X.K r opd) (ha : DE X a ta) (hb : DE X b tb) : DE X (.BinOp a op b pos) (dOp opd ta tb) := by
  obtain ⟨t, pa, la⟩ := ha.ex
  obtain ⟨u, pb, lb⟩ := hb.ex
  exact ⟨_, pe_op ho pa pb, lift_op hl la lb⟩
theorem r_op {op : Operator} {r : R2} {opd : W2R} (ho : OpR X (binaryOp op) r) (hl : OpLR X.K r opd) (ha : DE X a ta) (hb : DE X b tb) : RE X (.BinOp a op b pos) (dOpR opd ta tb) := by
  obtain ⟨t, pa, la⟩ := ha.ex
  obtain ⟨u, pb, lb⟩ := hb.ex
  exact ⟨_, pe_op ho pa pb, lift_opR hl la lb⟩
theorem d_un {op : UnaryOp} {r : V → Hp → VK → Prop} {opd : W1} (ho : UnR X (unaryOp op) r) (hl : UnL X.K r opd) (ha : DE X a ta) : DE X (.UnaryOp op a pos) (dUn opd ta) := by
  obtain ⟨t, pa, la⟩ := ha.ex
  exact ⟨_, pe_un ho pa, lift_un hl la⟩
theorem d_cmp {op : CmpOp} {r : R2} {opd : W2} (ho : OpR X (compareOp op) r) (hl : OpL X.K r opd) (ha : DE X a ta) (hb : DE X b tb) (hm : behindInMarks op b = false := by first | exact nomark _ | rfl) : DE X (.Compare a [op] [b] pos) (dOp opd ta tb) := by
  obtain ⟨t, pa, la⟩ := ha.ex
  obtain ⟨u, pb, lb⟩ := hb.ex
  exact ⟨_, pe_cmpR ho pa pb hm, lift_op hl la lb⟩

/-! ### what operators ask and give, on data -/
def wI (C : Int → Int → Prop) (g : Int → Int → D) : W2 := fun x y Q => match x, y with | .int i, .int j => C i j ∧ Q (g i j) | _, _ => False
def wI0 (g : Int → Int → D) : W2 := fun x y Q => match x, y with | .int i, .int j => Q (g i j) | _, _ => False
theorem opl_I {K : Frag} {C : Int → Int → Prop} {gv : Int → Int → V} {g : Int → Int → D} (h : ∀ i j cl Z, Rep K cl Z (g i j) (gv i j)) : OpL K (rI C gv) (wI C g) := by
  intro w H st x y v u Qd Q' so rx ry q k
  unfold wI at q
  split at q
  · rename_i i j
    obtain rfl : v = .int i := rx
    obtain rfl : u = .int j := ry
    exact ⟨i, j, rfl, rfl, q.1, k _ w H _ (Ext.refl _ _) so (h i j _ _) q.2⟩
  · exact q.elim
theorem opl_I0 {K : Frag} {gv : Int → Int → V} {g : Int → Int → D} (h : ∀ i j cl Z, Rep K cl Z (g i j) (gv i j)) : OpL K (rI0 gv) (wI0 g) := by
  intro w H st x y v u Qd Q' so rx ry q k
  unfold wI0 at q
  split at q
  · rename_i i j
    obtain rfl : v = .int i := rx
    obtain rfl : u = .int j := ry
    exact ⟨i, j, rfl, rfl, k _ w H _ (Ext.refl _ _) so (h i j _ _) q⟩
  · exact q.elim
abbrev wAdd : W2 := wI0 fun i j => .int (i + j)
abbrev wSub : W2 := wI0 fun i j => .int (i - j)
abbrev wMul : W2 := wI CMulW fun i j => .int (i * j)
abbrev wFdiv : W2 := wI CDivW fun i j => .int (i / j)
abbrev wFdivN : W2 := wI CDivN fun i j => .int (i.fdiv j)
abbrev wMod : W2 := wI (fun _ j => 0 < j) fun i j => .int (i % j)
abbrev wPow : W2 := wI CPow fun i j => .int (i ^ j.toNat)
abbrev wLt : W2 := wI0 fun i j => .bl (decide (i < j))
abbrev wLe : W2 := wI0 fun i j => .bl (decide (i ≤ j))
abbrev wGt : W2 := wI0 fun i j => .bl (decide (j < i))
abbrev wGe : W2 := wI0 fun i j => .bl (decide (j ≤ i))
theorem d_add (ha : DE X a ta) (hb : DE X b tb) : DE X (.BinOp a .Add b pos) (dOp wAdd ta tb) := d_op op_add (opl_I0 fun _ _ _ _ => rfl) ha hb
theorem d_sub (ha : DE X a ta) (hb : DE X b tb) : DE X (.BinOp a .Sub b pos) (dOp wSub ta tb) := d_op op_sub (opl_I0 fun _ _ _ _ => rfl) ha hb
theorem d_mul (ha : DE X a ta) (hb : DE X b tb) : DE X (.BinOp a .Mult b pos) (dOp wMul ta tb) := d_op op_mulW (opl_I fun _ _ _ _ => rfl) ha hb
theorem d_fdiv (ha : DE X a ta) (hb : DE X b tb) : DE X (.BinOp a .FloorDiv b pos) (dOp wFdiv ta tb) := d_op op_fdivW (opl_I fun _ _ _ _ => rfl) ha hb
theorem d_fdivN (ha : DE X a ta) (hb : DE X b tb) : DE X (.BinOp a .FloorDiv b pos) (dOp wFdivN ta tb) := d_op op_fdivN (opl_I fun _ _ _ _ => rfl) ha hb
theorem d_mod (ha : DE X a ta) (hb : DE X b tb) : DE X (.BinOp a .Mod b pos) (dOp wMod ta tb) := d_op op_mod (opl_I fun _ _ _ _ => rfl) ha hb
theorem d_pow (ha : DE X a ta) (hb : DE X b tb) : DE X (.BinOp a .Pow b pos) (dOp wPow ta tb) := d_op op_pow (opl_I fun _ _ _ _ => rfl) ha hb
theorem d_lt (ha : DE X a ta) (hb : DE X b tb) : DE X (.Compare a [.Lt] [b] pos) (dOp wLt ta tb) := d_cmp op_lt (opl_I0 fun _ _ _ _ => rfl) ha hb
theorem d_le (ha : DE X a ta) (hb : DE X b tb) : DE X (.Compare a [.LtE] [b] pos) (dOp wLe ta tb) := d_cmp op_le (opl_I0 fun _ _ _ _ => rfl) ha hb
theorem d_gt (ha : DE X a ta) (hb : DE X b tb) : DE X (.Compare a [.Gt] [b] pos) (dOp wGt ta tb) := d_cmp op_gt (opl_I0 fun _ _ _ _ => rfl) ha hb
theorem d_ge (ha : DE X a ta) (hb : DE X b tb) : DE X (.Compare a [.GtE] [b] pos) (dOp wGe ta tb) := d_cmp op_ge (opl_I0 fun _ _ _ _ => rfl) ha hb
def wNeg : W1 := fun x Q => match x with | .int i => Q (.int (-i)) | _ => False
theorem d_neg (ha : DE X a ta) : DE X (.UnaryOp .USub a pos) (dUn wNeg ta) := d_un un_neg (by
  intro w H st x v Qd Q' so rx q k
  unfold wNeg at q
  split at q
  · rename_i i
    obtain rfl : v = .int i := rx
    exact ⟨i, rfl, k (.int (-i)) w H _ (Ext.refl _ _) so rfl q⟩
  · exact q.elim) ha
/-- is None, is not None -/
def D.isTop : D → Bool
  | .top => true
  | _ => false
def D.isN : D → Bool
  | .non => true
  | _ => false
theorem Rep.non_iff {K : Frag} {cl : List Addr} {Z : Hp} {d : D} {v : V} (h : Rep K cl Z d v) (ht : d.isTop = false) : decide (v = .non) = d.isN := by
  cases d with
  | top => cases ht
  | non => rw [show v = .non from h]; rfl
  | bl b => rw [show v = .bl b from h]; rfl
  | int b => rw [show v = .int b from h]; rfl
  | str b => rw [show v = .str b from h]; exact decide_eq_false (fun z => nomatch z)
  | ty b => rw [show v = .ty b from h]; exact decide_eq_false (fun z => nomatch z)
  | ref b => rw [show v = .ref b from h]; rfl
  | cel n => obtain ⟨a, _, rfl⟩ := h; rfl
  | scr n => obtain ⟨a, rfl, _⟩ := h; rfl
  | lst n => obtain ⟨a, _, rfl, _⟩ := h; rfl
  | tup n => obtain ⟨a, _, rfl, _⟩ := h; rfl
  | dK n m => obtain ⟨a, _, rfl, _⟩ := h; rfl
  | dT n m => obtain ⟨a, _, rfl, _⟩ := h; rfl
def wIsN : W2 := fun x y Q => match y with | .non => x.isTop = false ∧ Q (.bl x.isN) | _ => False
def wNotN : W2 := fun x y Q => match y with | .non => x.isTop = false ∧ Q (.bl (!x.isN)) | _ => False
theorem d_isN (ha : DE X a ta) (hb : DE X b tb) : DE X (.Compare a [.Is] [b] pos) (dOp wIsN ta tb) := d_cmp op_isN (by
  intro w H st x y v u Qd Q' so rx ry q k
  unfold wIsN at q
  split at q
  · obtain rfl : u = .non := ry
    exact ⟨rfl, by rw [rx.non_iff q.1]; exact k (.bl _) w H _ (Ext.refl _ _) so rfl q.2⟩
  · exact q.elim) ha hb
theorem d_notN (ha : DE X a ta) (hb : DE X b tb) : DE X (.Compare a [.IsNot] [b] pos) (dOp wNotN ta tb) := d_cmp op_notN (by
  intro w H st x y v u Qd Q' so rx ry q k
  unfold wNotN at q
  split at q
  · obtain rfl : u = .non := ry
    exact ⟨rfl, by rw [rx.non_iff q.1]; exact k (.bl _) w H _ (Ext.refl _ _) so rfl q.2⟩
  · exact q.elim) ha hb

/-! ### == and != of data -/
mutual
def D.toPy : D → PyData
  | .bl b => .bool b
  | .int i => .int i
  | .str x => .str x
  | .lst ds => .list (D.toPys ds)
  | .tup ds => .tuple (D.toPys ds)
  | _ => .none
def D.toPys : List D → List PyData
  | [] => []
  | d :: ds => d.toPy :: D.toPys ds
end
mutual
/-- data that == tells apart, at most n deep -/
def D.py : D → Nat → Bool
  | .non, _ => true
  | .bl _, _ => true
  | .int _, _ => true
  | .str x, _ => PyData.strOk x
  | .lst _, 0 => false
  | .lst ds, n + 1 => D.pys ds n
  | .tup _, 0 => false
  | .tup ds, n + 1 => D.pys ds n
  | _, _ => false
def D.pys : List D → Nat → Bool
  | [], _ => true
  | d :: ds, n => d.py n && D.pys ds n
end
mutual
theorem D.py_can : ∀ (d : D) (n : Nat), d.py n = true → d.toPy.canLay0 = true
  | .non, _, _ => by simp [D.toPy, PyData.canLay0]
  | .bl _, _, _ => by simp [D.toPy, PyData.canLay0]
  | .int _, _, _ => by simp [D.toPy, PyData.canLay0]
  | .str x, _, h => by simpa [D.toPy, PyData.canLay0, D.py] using h
  | .lst ds, 0, h => by simp [D.py] at h
  | .lst ds, n + 1, h => by simpa [D.toPy, PyData.canLay0] using D.pys_can ds n (by simpa [D.py] using h)
  | .tup ds, 0, h => by simp [D.py] at h
  | .tup ds, n + 1, h => by simpa [D.toPy, PyData.canLay0] using D.pys_can ds n (by simpa [D.py] using h)
  | .ty _, _, h => by simp [D.py] at h
  | .ref _, _, h => by simp [D.py] at h
  | .top, _, h => by simp [D.py] at h
  | .cel _, _, h => by simp [D.py] at h
  | .scr _, _, h => by simp [D.py] at h
  | .dK _ _, _, h => by simp [D.py] at h
  | .dT _ _, _, h => by simp [D.py] at h
theorem D.pys_can : ∀ (ds : List D) (n : Nat), D.pys ds n = true → PyData.canLayAll0 (D.toPys ds) = true
  | [], _, _ => by simp [D.toPys, PyData.canLayAll0]
  | d :: ds, n, h => by
    simp [D.pys] at h
    simp [D.toPys, PyData.canLayAll0, D.py_can d n h.1, D.pys_can ds n h.2]
end
mutual
theorem D.py_dep : ∀ (d : D) (n : Nat), d.py n = true → d.toPy.depth ≤ n + 1
  | .non, _, _ => by simp [D.toPy, PyData.depth]
  | .bl _, _, _ => by simp [D.toPy, PyData.depth]
  | .int _, _, _ => by simp [D.toPy, PyData.depth]
  | .str x, _, h => by simp [D.toPy, PyData.depth]
  | .lst ds, 0, h => by simp [D.py] at h
  | .lst ds, n + 1, h => by
    have := D.pys_dep ds n (by simpa [D.py] using h)
    simp only [D.toPy, PyData.depth]; omega
  | .tup ds, 0, h => by simp [D.py] at h
  | .tup ds, n + 1, h => by
    have := D.pys_dep ds n (by simpa [D.py] using h)
    simp only [D.toPy, PyData.depth]; omega
  | .ty _, _, h => by simp [D.py] at h
  | .ref _, _, h => by simp [D.py] at h
  | .top, _, h => by simp [D.py] at h
  | .cel _, _, h => by simp [D.py] at h
  | .scr _, _, h => by simp [D.py] at h
  | .dK _ _, _, h => by simp [D.py] at h
  | .dT _ _, _, h => by simp [D.py] at h
theorem D.pys_dep : ∀ (ds : List D) (n : Nat), D.pys ds n = true → PyData.depthAll (D.toPys ds) ≤ n + 1
  | [], _, _ => by simp [D.toPys, PyData.depthAll]
  | d :: ds, n, h => by
    simp [D.pys] at h
    have h1 := D.py_dep d n h.1
    have h2 := D.pys_dep ds n h.2
    simp only [D.toPys, PyData.depthAll]; omega
end
theorem D.py_shaped {d : D} {n : Nat} (h : d.py n = true) (hn : n ≤ 60) : SeqAt.shaped d.toPy = true := by
  have h1 := D.py_can d n h
  have h2 := D.py_dep d n h
  unfold SeqAt.shaped
  rw [h1, decide_eq_true (by omega)]; rfl
section
variable {K : Frag} {cl : List Addr} {Z H : Hp}
mutual
theorem Rep.dp (hz : Same Z H) : ∀ (d : D) (v : V) (n : Nat), d.py n = true → Rep K cl Z d v → Dp K H v d.toPy
  | .non, v, _, _, h => by obtain rfl : v = .non := h; exact .non
  | .bl b, v, _, _, h => by obtain rfl : v = .bl b := h; exact .bl b
  | .int b, v, _, _, h => by obtain rfl : v = .int b := h; exact .int b
  | .str b, v, _, _, h => by obtain rfl : v = .str b := h; exact .str b
  | .lst ds, v, 0, p, _ => by simp [D.py] at p
  | .lst ds, v, n + 1, p, h => by
    obtain ⟨a, vs, rfl, e, r⟩ := (show ∃ a vs, v = .ref a ∧ Z a = some (.lst vs) ∧ Reps K cl Z ds vs from h)
    exact .lst (.of (hz _ _ e)) (Reps.dps hz ds vs n (by simpa [D.py] using p) r)
  | .tup ds, v, 0, p, _ => by simp [D.py] at p
  | .tup ds, v, n + 1, p, h => by
    obtain ⟨a, vs, rfl, e, r⟩ := (show ∃ a vs, v = .ref a ∧ SqT K Z a vs ∧ Reps K cl Z ds vs from h)
    exact .tup (Same.seqT hz e) (Reps.dps hz ds vs n (by simpa [D.py] using p) r)
  | .ty _, _, _, p, _ => by simp [D.py] at p
  | .ref _, _, _, p, _ => by simp [D.py] at p
  | .top, _, _, p, _ => by simp [D.py] at p
  | .cel _, _, _, p, _ => by simp [D.py] at p
  | .scr _, _, _, p, _ => by simp [D.py] at p
  | .dK _ _, _, _, p, _ => by simp [D.py] at p
  | .dT _ _, _, _, p, _ => by simp [D.py] at p
theorem Reps.dps (hz : Same Z H) : ∀ (ds : List D) (vs : List V) (n : Nat), D.pys ds n = true → Reps K cl Z ds vs → DpAll K H vs (D.toPys ds)
  | [], vs, _, _, h => by rw [show vs = [] from h]; exact .nil
  | d :: ds, vs, n, p, h => by
    obtain ⟨v, r, rfl, h1, h2⟩ := (show ∃ v r, vs = v :: r ∧ Rep K cl Z d v ∧ Reps K cl Z ds r from h)
    simp [D.pys] at p
    exact .cons (Rep.dp hz d v n p.1 h1) (Reps.dps hz ds r n p.2 h2)
end
end
/-- Python's == of data -/
def D.eqv (x y : D) : Bool := PyData.eqv x.toPy y.toPy
def wEq : W2 := fun x y Q => (x.py 60 = true ∧ y.py 60 = true) ∧ Q (.bl (x.eqv y))
def wNe : W2 := fun x y Q => (x.py 60 = true ∧ y.py 60 = true) ∧ Q (.bl (!x.eqv y))
theorem d_eq (hu : X.A.units + 64 < cLine) (ha : DE X a ta) (hb : DE X b tb) : DE X (.Compare a [.Eq] [b] pos) (dOp wEq ta tb) := d_cmp (op_eqD hu) (by
  intro w H st x y v u Qd Q' so rx ry q k
  obtain ⟨⟨p1, p2⟩, q⟩ := q
  exact ⟨_, _, rx.dp so.sub x v 60 p1, ry.dp so.sub y u 60 p2, D.py_shaped p1 (Nat.le_refl _), D.py_shaped p2 (Nat.le_refl _), k (.bl _) w H _ (Ext.refl _ _) so rfl q⟩) ha hb
theorem d_ne (hu : X.A.units + 64 < cLine) (ha : DE X a ta) (hb : DE X b tb) : DE X (.Compare a [.NotEq] [b] pos) (dOp wNe ta tb) := d_cmp (op_neD hu) (by
  intro w H st x y v u Qd Q' so rx ry q k
  obtain ⟨⟨p1, p2⟩, q⟩ := q
  exact ⟨_, _, rx.dp so.sub x v 60 p1, ry.dp so.sub y u 60 p2, D.py_shaped p1 (Nat.le_refl _), D.py_shaped p2 (Nat.le_refl _), k (.bl _) w H _ (Ext.refl _ _) so rfl q⟩) ha hb
end
end DL

set_option Elab.async false
set_option linter.all false
set_option maxRecDepth 100000
set_option maxHeartbeats 4000000
/-! DL3: tests, items, slices, displays, calls of built-ins. -/
namespace DL
open PySem PySem.Spec L2
section
variable {X : Cx} {e a b c : Expr} {es rest : List Expr} {pos : Pos} {ta tb tc : TD} {tr : TDR} {tt uu : TDT}

/-! ### tests -/
def dTest (t : TD) : TDT := fun env st Q => t env st fun d st1 => match d with | .bl b => Q b st1 | _ => False
theorem lift_test {K : Frag} {t : TE} (l : LiftE K t ta) : LiftT K (fun σ H Q => t σ H fun x H1 => ∃ c, x = .bl c ∧ Q c H1) (dTest ta) := by
  intro H0 w σ H env st Q Q' sl so q k
  refine l H0 w σ H env st _ _ sl so q fun w1 H1 v d st1 e1 s1 r1 q1 => ?_
  split at q1
  · rename_i b
    exact ⟨b, r1, k w1 H1 b st1 e1 s1 q1⟩
  · exact q1.elim
/-- a call, a name .. whose value is a bool, as a test -/
theorem t_val (h : DE X e ta) (he : ∀ whole, isTrue e X.env whole = (do let v ← whole; standAt e.pos; holding [v] (truthy v)) := by intro _; rfl) : DT X e (dTest ta) := by
  obtain ⟨t, p, l⟩ := h.ex
  exact ⟨_, pt_val p he, lift_test l⟩
theorem t_cmp {op : CmpOp} {r : R2} {opd : W2} (ho : OpR X (compareOp op) r) (hl : OpL X.K r opd) (ha : DE X a ta) (hb : DE X b tb) (hm : behindInMarks op b = false := by first | exact nomark _ | rfl) : DT X (.Compare a [op] [b] pos) (dTest (dOp opd ta tb)) := by
  obtain ⟨t, pa, la⟩ := ha.ex
  obtain ⟨u, pb, lb⟩ := hb.ex
  exact ⟨_, pt_cmpR ho pa pb hm, lift_test (lift_op hl la lb)⟩
theorem opl_eq {K : Frag} : OpL K (rEqD K) wEq := by
  intro w H st x y v u Qd Q' so rx ry q k
  obtain ⟨⟨p1, p2⟩, q⟩ := q
  exact ⟨_, _, rx.dp so.sub x v 60 p1, ry.dp so.sub y u 60 p2, D.py_shaped p1 (Nat.le_refl _), D.py_shaped p2 (Nat.le_refl _), k (.bl _) w H _ (Ext.refl _ _) so rfl q⟩
theorem opl_ne {K : Frag} : OpL K (rNeD K) wNe := by
  intro w H st x y v u Qd Q' so rx ry q k
  obtain ⟨⟨p1, p2⟩, q⟩ := q
  exact ⟨_, _, rx.dp so.sub x v 60 p1, ry.dp so.sub y u 60 p2, D.py_shaped p1 (Nat.le_refl _), D.py_shaped p2 (Nat.le_refl _), k (.bl _) w H _ (Ext.refl _ _) so rfl q⟩
theorem opl_isN {K : Frag} : OpL K (fun x y H Q => y = .non ∧ Q (.bl (decide (x = .non))) H) wIsN := by
  intro w H st x y v u Qd Q' so rx ry q k
  unfold wIsN at q
  split at q
  · obtain rfl : u = .non := ry
    exact ⟨rfl, by rw [rx.non_iff q.1]; exact k (.bl _) w H _ (Ext.refl _ _) so rfl q.2⟩
  · exact q.elim
theorem opl_notN {K : Frag} : OpL K (fun x y H Q => y = .non ∧ Q (.bl (!decide (x = .non))) H) wNotN := by
  intro w H st x y v u Qd Q' so rx ry q k
  unfold wNotN at q
  split at q
  · obtain rfl : u = .non := ry
    exact ⟨rfl, by rw [rx.non_iff q.1]; exact k (.bl _) w H _ (Ext.refl _ _) so rfl q.2⟩
  · exact q.elim
theorem t_lt (ha : DE X a ta) (hb : DE X b tb) : DT X (.Compare a [.Lt] [b] pos) (dTest (dOp wLt ta tb)) := t_cmp op_lt (opl_I0 fun _ _ _ _ => rfl) ha hb
theorem t_le (ha : DE X a ta) (hb : DE X b tb) : DT X (.Compare a [.LtE] [b] pos) (dTest (dOp wLe ta tb)) := t_cmp op_le (opl_I0 fun _ _ _ _ => rfl) ha hb
theorem t_gt (ha : DE X a ta) (hb : DE X b tb) : DT X (.Compare a [.Gt] [b] pos) (dTest (dOp wGt ta tb)) := t_cmp op_gt (opl_I0 fun _ _ _ _ => rfl) ha hb
theorem t_ge (ha : DE X a ta) (hb : DE X b tb) : DT X (.Compare a [.GtE] [b] pos) (dTest (dOp wGe ta tb)) := t_cmp op_ge (opl_I0 fun _ _ _ _ => rfl) ha hb
theorem t_eq (hu : X.A.units + 64 < cLine) (ha : DE X a ta) (hb : DE X b tb) : DT X (.Compare a [.Eq] [b] pos) (dTest (dOp wEq ta tb)) := t_cmp (op_eqD hu) opl_eq ha hb
theorem t_ne (hu : X.A.units + 64 < cLine) (ha : DE X a ta) (hb : DE X b tb) : DT X (.Compare a [.NotEq] [b] pos) (dTest (dOp wNe ta tb)) := t_cmp (op_neD hu) opl_ne ha hb
theorem t_isN (ha : DE X a ta) (hb : DE X b tb) : DT X (.Compare a [.Is] [b] pos) (dTest (dOp wIsN ta tb)) := t_cmp op_isN opl_isN ha hb
theorem t_notN (ha : DE X a ta) (hb : DE X b tb) : DT X (.Compare a [.IsNot] [b] pos) (dTest (dOp wNotN ta tb)) := t_cmp op_notN opl_notN ha hb
/-- a op b op' c, b asked once -/
def dChain (opd opd' : W2) (ta tb tc : TD) : TDT := fun env st Q => ta env st fun x st1 => tb env st1 fun y st2 => opd x y fun z => match z with
  | .bl true => tc env st2 fun u st3 => opd' y u fun z => (match z with | .bl b => Q b st3 | _ => False)
  | .bl false => Q false st2
  | _ => False
/-- a bool test as a value -/
def dBool (t : TDT) : TD := fun env st Q => t env st fun b st1 => Q (.bl b) st1
theorem lift_chain {K : Frag} {op op' : CmpOp} {r r' : R2} {opd opd' : W2} {t u z : TE} (hr : OpL K r opd) (hr' : OpL K r' opd') (ha : LiftE K t ta) (hb : LiftE K u tb) (hc : LiftE K z tc) : LiftE K (tChain r r' t u z) (dBool (dChain opd opd' ta tb tc)) := by
  intro H0 w σ H env st Q Q' sl so q k
  refine ha H0 w σ H env st _ _ sl so q fun w1 H1 v x st1 e1 s1 r1 q1 => ?_
  refine hb H0 w1 σ H1 env st1 _ _ (sl.ext e1) s1 q1 fun w2 H2 v2 y st2 e2 s2 r2 q2 => ?_
  refine hr w2 H2 st2 x y v v2 _ _ s2 (e2.rep r1) r2 q2 fun z w3 H3 v3 e3 s3 r3 q3 => ?_
  split at q3
  · obtain rfl : v3 = .bl true := r3
    refine ⟨true, rfl, ?_⟩
    rw [if_pos rfl]
    refine hc H0 w3 σ H3 env st2 _ _ (sl.ext ((e1.trans e2).trans e3)) s3 q3 fun w4 H4 v4 u st3 e4 s4 r4 q4 => ?_
    refine hr' w4 H4 st3 y u v2 v4 _ _ s4 ((e3.trans e4).rep r2) r4 q4 fun z w5 H5 v5 e5 s5 r5 q5 => ?_
    split at q5
    · exact k w5 H5 v5 _ st3 ((((e1.trans e2).trans e3).trans e4).trans e5) s5 r5 q5
    · exact q5.elim
  · obtain rfl : v3 = .bl false := r3
    refine ⟨false, rfl, ?_⟩
    rw [if_neg Bool.false_ne_true]
    exact k w3 H3 (.bl false) (.bl false) st2 ((e1.trans e2).trans e3) s3 rfl q3
  · exact q3.elim
theorem d_chain {op op' : CmpOp} {r r' : R2} {opd opd' : W2} (ho : OpR X (compareOp op) r) (ho' : OpR X (compareOp op') r') (hl : OpL X.K r opd) (hl' : OpL X.K r' opd') (ha : DE X a ta) (hb : DE X b tb) (hc : DE X c tc)
    (h1 : lastMarks [op, op'] [b, c] = false := by rfl) : DE X (.Compare a [op, op'] [b, c] pos) (dBool (dChain opd opd' ta tb tc)) := by
  obtain ⟨t, pa, la⟩ := ha.ex
  obtain ⟨u, pb, lb⟩ := hb.ex
  obtain ⟨z, pc, lc⟩ := hc.ex
  exact ⟨_, pe_chain ho ho' pa pb pc h1, lift_chain (op := op) (op' := op') hl hl' la lb lc⟩
theorem t_chain {op op' : CmpOp} {r r' : R2} {opd opd' : W2} (ho : OpR X (compareOp op) r) (ho' : OpR X (compareOp op') r') (hl : OpL X.K r opd) (hl' : OpL X.K r' opd') (ha : DE X a ta) (hb : DE X b tb) (hc : DE X c tc)
    (h1 : lastMarks [op, op'] [b, c] = false := by rfl) : DT X (.Compare a [op, op'] [b, c] pos) (dTest (dBool (dChain opd opd' ta tb tc))) := by
  obtain ⟨t, pa, la⟩ := ha.ex
  obtain ⟨u, pb, lb⟩ := hb.ex
  obtain ⟨z, pc, lc⟩ := hc.ex
  exact ⟨_, pt_chain ho ho' pa pb pc h1, lift_test (lift_chain (op := op) (op' := op') hl hl' la lb lc)⟩
/-- and, or, not, as tests -/
def dAnd (t u : TDT) : TDT := fun env st Q => t env st fun c st1 => if c = true then u env st1 Q else Q false st1
def dOr (t u : TDT) : TDT := fun env st Q => t env st fun c st1 => if c = true then Q true st1 else u env st1 Q
def dNot (t : TDT) : TDT := fun env st Q => t env st fun c st1 => Q (!c) st1
theorem LiftT.and {K : Frag} {t u : TT} (ha : LiftT K t tt) (hb : LiftT K u uu) : LiftT K (tAnd t u) (dAnd tt uu) := by
  intro H0 w σ H env st Q Q' sl so q k
  refine ha H0 w σ H env st _ _ sl so q fun w1 H1 c st1 e1 s1 q1 => ?_
  cases c with
  | true =>
    rw [if_pos rfl] at q1 ⊢
    exact hb H0 w1 σ H1 env st1 _ _ (sl.ext e1) s1 q1 fun w2 H2 c st2 e2 s2 q2 => k w2 H2 c st2 (e1.trans e2) s2 q2
  | false =>
    rw [if_neg Bool.false_ne_true] at q1 ⊢
    exact k w1 H1 false st1 e1 s1 q1
theorem LiftT.or {K : Frag} {t u : TT} (ha : LiftT K t tt) (hb : LiftT K u uu) : LiftT K (tOr t u) (dOr tt uu) := by
  intro H0 w σ H env st Q Q' sl so q k
  refine ha H0 w σ H env st _ _ sl so q fun w1 H1 c st1 e1 s1 q1 => ?_
  cases c with
  | false =>
    rw [if_neg Bool.false_ne_true] at q1 ⊢
    exact hb H0 w1 σ H1 env st1 _ _ (sl.ext e1) s1 q1 fun w2 H2 c st2 e2 s2 q2 => k w2 H2 c st2 (e1.trans e2) s2 q2
  | true =>
    rw [if_pos rfl] at q1 ⊢
    exact k w1 H1 true st1 e1 s1 q1
theorem t_not (ha : DT X a tt) : DT X (.UnaryOp .Not a pos) (dNot tt) := by
  obtain ⟨t, p, l⟩ := ha.ex
  exact ⟨_, pt_not p, fun H0 w σ H env st Q Q' sl so q k => l H0 w σ H env st _ _ sl so q fun w1 H1 c st1 e1 s1 q1 => k w1 H1 _ st1 e1 s1 q1⟩
theorem w_and1 (ha : DT X a tt) : DW X (.BoolOp .And [a] pos) tt := by
  obtain ⟨t, p, l⟩ := ha.ex
  exact ⟨_, pw_and1 p, l⟩
theorem w_or1 (ha : DT X a tt) : DW X (.BoolOp .Or [a] pos) tt := by
  obtain ⟨t, p, l⟩ := ha.ex
  exact ⟨_, pw_or1 p, l⟩
theorem w_and (ha : DT X a tt) (hb : DW X (.BoolOp .And (b :: rest) pos) uu) : DW X (.BoolOp .And (a :: b :: rest) pos) (dAnd tt uu) := by
  obtain ⟨t, p, l⟩ := ha.ex
  obtain ⟨u, p2, l2⟩ := hb.ex
  exact ⟨_, pw_and p p2, l.and l2⟩
theorem w_or (ha : DT X a tt) (hb : DW X (.BoolOp .Or (b :: rest) pos) uu) : DW X (.BoolOp .Or (a :: b :: rest) pos) (dOr tt uu) := by
  obtain ⟨t, p, l⟩ := ha.ex
  obtain ⟨u, p2, l2⟩ := hb.ex
  exact ⟨_, pw_or p p2, l.or l2⟩
theorem DW.t (h : DW X e tt) : DT X e tt := by
  obtain ⟨t, p, l⟩ := h.ex
  exact ⟨_, p.pt, l⟩
/-- and, or, not, as values: all but the last are bools -/
def dAndV (t u : TD) : TD := fun env st Q => t env st fun d st1 => match d with | .bl true => u env st1 Q | .bl false => Q (.bl false) st1 | _ => False
def dOrV (t u : TD) : TD := fun env st Q => t env st fun d st1 => match d with | .bl true => Q (.bl true) st1 | .bl false => u env st1 Q | _ => False
def dNotV (t : TD) : TD := fun env st Q => t env st fun d st1 => match d with | .bl b => Q (.bl (!b)) st1 | _ => False
theorem d_one {op : BoolOp} (ha : DE X a ta) : DE X (.BoolOp op [a] pos) ta := by
  obtain ⟨t, p, l⟩ := ha.ex
  exact ⟨_, pe_one p, l⟩
theorem d_and (ha : DE X a ta) (hb : DE X (.BoolOp .And (b :: rest) pos) tb) : DE X (.BoolOp .And (a :: b :: rest) pos) (dAndV ta tb) := by
  obtain ⟨t, p, l⟩ := ha.ex
  obtain ⟨u, p2, l2⟩ := hb.ex
  refine ⟨_, pe_and p p2, fun H0 w σ H env st Q Q' sl so q k => l H0 w σ H env st _ _ sl so q fun w1 H1 v d st1 e1 s1 r1 q1 => ?_⟩
  split at q1
  · obtain rfl : v = .bl true := r1
    refine ⟨true, rfl, ?_⟩
    rw [if_pos rfl]
    exact l2 H0 w1 σ H1 env st1 _ _ (sl.ext e1) s1 q1 fun w2 H2 v d st2 e2 s2 r2 q2 => k w2 H2 v d st2 (e1.trans e2) s2 r2 q2
  · obtain rfl : v = .bl false := r1
    refine ⟨false, rfl, ?_⟩
    rw [if_neg Bool.false_ne_true]
    exact k w1 H1 (.bl false) (.bl false) st1 e1 s1 rfl q1
  · exact q1.elim
theorem d_or (ha : DE X a ta) (hb : DE X (.BoolOp .Or (b :: rest) pos) tb) : DE X (.BoolOp .Or (a :: b :: rest) pos) (dOrV ta tb) := by
  obtain ⟨t, p, l⟩ := ha.ex
  obtain ⟨u, p2, l2⟩ := hb.ex
  refine ⟨_, pe_or p p2, fun H0 w σ H env st Q Q' sl so q k => l H0 w σ H env st _ _ sl so q fun w1 H1 v d st1 e1 s1 r1 q1 => ?_⟩
  split at q1
  · obtain rfl : v = .bl true := r1
    refine ⟨true, rfl, ?_⟩
    rw [if_pos rfl]
    exact k w1 H1 (.bl true) (.bl true) st1 e1 s1 rfl q1
  · obtain rfl : v = .bl false := r1
    refine ⟨false, rfl, ?_⟩
    rw [if_neg Bool.false_ne_true]
    exact l2 H0 w1 σ H1 env st1 _ _ (sl.ext e1) s1 q1 fun w2 H2 v d st2 e2 s2 r2 q2 => k w2 H2 v d st2 (e1.trans e2) s2 r2 q2
  · exact q1.elim
theorem d_not (ha : DE X a ta) : DE X (.UnaryOp .Not a pos) (dNotV ta) := by
  obtain ⟨t, p, l⟩ := ha.ex
  refine ⟨_, pe_not p, fun H0 w σ H env st Q Q' sl so q k => l H0 w σ H env st _ _ sl so q fun w1 H1 v d st1 e1 s1 r1 q1 => ?_⟩
  split at q1
  · rename_i b
    exact ⟨b, r1, k w1 H1 _ (.bl (!b)) st1 e1 s1 rfl q1⟩
  · exact q1.elim
/-- a if t else b -/
def dIf (t : TDT) (ta tb : TD) : TD := fun env st Q => t env st fun c st1 => if c = true then ta env st1 Q else tb env st1 Q
def dIfR (t : TDT) (ta tb : TDR) : TDR := fun env st Q => t env st fun c st1 => if c = true then ta env st1 Q else tb env st1 Q
theorem d_if (hc : DT X c tt) (ha : DE X a ta) (hb : DE X b tb) : DE X (.IfExp c a b pos) (dIf tt ta tb) := by
  obtain ⟨t, p, l⟩ := hc.ex
  obtain ⟨u, p2, l2⟩ := ha.ex
  obtain ⟨z, p3, l3⟩ := hb.ex
  refine ⟨_, pe_ifExp p p2 p3, fun H0 w σ H env st Q Q' sl so q k => l H0 w σ H env st _ _ sl so q fun w1 H1 d st1 e1 s1 q1 => ?_⟩
  cases d with
  | true =>
    rw [if_pos rfl] at q1 ⊢
    exact l2 H0 w1 σ H1 env st1 _ _ (sl.ext e1) s1 q1 fun w2 H2 v d st2 e2 s2 r2 q2 => k w2 H2 v d st2 (e1.trans e2) s2 r2 q2
  | false =>
    rw [if_neg Bool.false_ne_true] at q1 ⊢
    exact l3 H0 w1 σ H1 env st1 _ _ (sl.ext e1) s1 q1 fun w2 H2 v d st2 e2 s2 r2 q2 => k w2 H2 v d st2 (e1.trans e2) s2 r2 q2

/-! ### items, slices -/
/-- x[i]: a list's, a tuple's, a text's item -/
def wIx : W2 := fun x y Q => match x, y with
  | .lst ds, .int i => ∃ d, atI ds i = some d ∧ Q d
  | .tup ds, .int i => ∃ d, atI ds i = some d ∧ Q d
  | .str z, .int i => z.length ≤ sizeLine ∧ ∃ c, atI z.cps.toList i = some c ∧ Q (.str ⟨#[c]⟩)
  | _, _ => False
theorem atI_rep {K : Frag} {cl : List Addr} {Z : Hp} {ds : List D} {vs : List V} {i : Int} {d : D} (r : Reps K cl Z ds vs) (h : atI ds i = some d) : ∃ v, atI vs i = some v ∧ Rep K cl Z d v := by
  unfold atI at h ⊢
  rw [← r.length]
  cases q : ixN ds.length i with
  | none => rw [q] at h; cases h
  | some j =>
    rw [q] at h
    obtain ⟨v, e, rv⟩ := r.get (i := j) h
    exact ⟨v, e, rv⟩
theorem opl_ix {K : Frag} : OpL K (rIx K) wIx := by
  intro w H st x y v u Qd Q' so rx ry q k
  unfold wIx at q
  split at q
  · rename_i ds i
    obtain ⟨d, e, q⟩ := q
    obtain ⟨p, vs, rfl, hp, r⟩ := rx
    obtain rfl : u = .int i := ry
    obtain ⟨x, ex, rx⟩ := atI_rep r e
    exact .inl ⟨p, vs, i, x, rfl, rfl, .of (so.sub _ _ hp), ex, k d w H x (Ext.refl _ _) so rx q⟩
  · rename_i ds i
    obtain ⟨d, e, q⟩ := q
    obtain ⟨p, vs, rfl, hp, r⟩ := rx
    obtain rfl : u = .int i := ry
    obtain ⟨x, ex, rx⟩ := atI_rep r e
    exact .inr (.inl ⟨p, vs, i, x, rfl, rfl, Same.seqT so.sub hp, ex, k d w H x (Ext.refl _ _) so rx q⟩)
  · rename_i z i
    obtain ⟨hz, c, e, q⟩ := q
    obtain rfl : v = .str z := rx
    obtain rfl : u = .int i := ry
    exact .inr (.inr ⟨z, i, c, rfl, rfl, hz, e, k (.str _) w H _ (Ext.refl _ _) so rfl q⟩)
  · exact q.elim
theorem d_ix (ha : DE X a ta) (hb : DE X b tb) (hs : PlainIx b := by exact fun _ _ => rfl) : DE X (.Subscript a b pos) (dOp wIx ta tb) := by
  obtain ⟨t, p, l⟩ := ha.ex
  obtain ⟨u, p2, l2⟩ := hb.ex
  exact ⟨_, pe_ix ix_seq p p2 hs, lift_op opl_ix l l2⟩
/-- a cell's item -/
def dIxC (i : Nat) (tb : TD) : TD := fun env st Q => match env[i]? with
  | some (some (.dat (.cel n))) => tb env st fun d st1 => (match d with | .int j => ∃ ns v, st1[n]? = some ns ∧ atI ns j = some v ∧ Q (.int v) st1 | _ => False)
  | _ => False
theorem atI_map {α β : Type} {f : α → β} {xs : List α} {i : Int} {v : α} (h : atI xs i = some v) : atI (xs.map f) i = some (f v) := by
  unfold atI at h ⊢
  rw [List.length_map]
  cases q : ixN xs.length i with
  | none => rw [q] at h; cases h
  | some j =>
    rw [q] at h
    have h' : xs[j]? = some v := h
    show (xs.map f)[j]? = some (f v)
    rw [List.getElem?_map, h']; rfl
theorem d_ixc (i : Nat) {x : Str} {px : Pos} (hb : DE X b tb) (hN : X.N[i]? = some x := by rfl) (hv : Vis X.env.scope x := by first | exact Or.inl rfl | exact Or.inr (Or.inl rfl) | exact Or.inr (Or.inr rfl)) (hd : (x == ("__debug__" : Str)) = false := by decide)
    (hcd : (x == ("__classdict__" : Str)) = false := by decide) (hs : PlainIx b := by exact fun _ _ => rfl) : DE X (.Subscript (.Name x px) b pos) (dIxC i tb) := by
  obtain ⟨u, p2, l2⟩ := hb.ex
  refine ⟨_, pe_ix ix_list (pe_var hN hv hd hcd) p2 hs, fun H0 w σ H env st Q Q' sl so q k => ?_⟩
  unfold dIxC at q
  split at q
  · rename_i n he
    obtain ⟨Ls, h, _⟩ := sl.ok
    obtain ⟨v, hv, ⟨_, hr⟩, _⟩ := h i _ he
    refine ⟨v, hv, l2 H0 w σ H env st _ _ sl so q fun w1 H1 v1 d st1 e1 s1 r1 q1 => ?_⟩
    split at q1
    · rename_i j
      obtain ⟨ns, z, e2, e3, q1⟩ := q1
      obtain ⟨a, ha, rfl⟩ := e1.rep hr
      obtain ⟨a', ha', hn⟩ := s1.at_ n ns e2
      rw [ha] at ha'; cases ha'
      obtain rfl : v1 = .int j := r1
      exact ⟨a, _, j, .int z, rfl, rfl, .of hn, atI_map e3, k w1 H1 _ (.int z) st1 e1 s1 rfl q1⟩
    · exact q1.elim
  · exact q.elim
/-- bounds of a slice -/
abbrev TDO := DEnv → Store → (Option Int → Store → Prop) → Prop
def LiftO (K : Frag) (t : TO) (td : TDO) : Prop := ∀ (H0 : Hp) (w : Wd) (σ : L2.St) (H : Hp) (env : DEnv) (st : Store) (Q : Option Int → Store → Prop) (Q' : Option Int → Hp → Prop),
  Slots K H0 w σ H env → Sto w H st → td env st Q → (∀ w' H' o st', Ext w H w' H' → Sto w' H' st' → Q o st' → Q' o H') → t σ H Q'
structure DO (X : Cx) (e : Option Expr) (td : TDO) : Prop where ex : ∃ t, PO X e t ∧ LiftO X.K t td
def dNoPart : TDO := fun _ st Q => Q none st
def dPart (t : TD) : TDO := fun env st Q => t env st fun d st1 => match d with | .int i => Q (some i) st1 | _ => False
theorem o_none : DO X none dNoPart := ⟨_, po_none, fun H0 w σ H env st Q Q' sl so q k => k w H none st (Ext.refl _ _) so q⟩
theorem o_some (h : DE X e ta) : DO X (some e) (dPart ta) := by
  obtain ⟨t, p, l⟩ := h.ex
  refine ⟨_, po_some p, fun H0 w σ H env st Q Q' sl so q k => l H0 w σ H env st _ _ sl so q fun w1 H1 v d st1 e1 s1 r1 q1 => ?_⟩
  split at q1
  · rename_i i
    exact ⟨i, r1, k w1 H1 _ st1 e1 s1 q1⟩
  · exact q1.elim
def cutD {α : Type} (xs : List α) (lo hi : Option Int) : List α := (xs.drop (HT.sIx xs.length 0 lo)).take (HT.sIx xs.length xs.length hi - HT.sIx xs.length 0 lo)
theorem Reps.cut {K : Frag} {cl : List Addr} {Z : Hp} {ds : List D} {vs : List V} (r : Reps K cl Z ds vs) (lo hi : Option Int) : Reps K cl Z (cutD ds lo hi) (cutV vs lo hi) := by
  unfold cutD cutV
  rw [r.length]
  exact (r.drop _).take _
/-- xs[lo:hi], a new list -/
def dSlL (te : TD) (tl th : TDO) : TDR := fun env st Q => te env st fun d st1 => tl env st1 fun lo st2 => th env st2 fun hi st3 => match d with
  | .lst ds => Q (.own (.lst (cutD ds lo hi))) st3
  | .scr ns => Q (.own (.lst ((cutD ns lo hi).map D.int))) st3
  | _ => False
theorem cut_map {α β : Type} {f : α → β} {xs : List α} {lo hi : Option Int} : cutD (xs.map f) lo hi = (cutD xs lo hi).map f := by
  unfold cutD
  rw [List.length_map, List.map_take, List.map_drop]
theorem r_slL {lo hi : Option Expr} {tl th : TDO} {p2 : Pos} (he : DE X e ta) (hl : DO X lo tl) (hu : DO X hi th) : RE X (.Subscript e (.Slice lo hi none p2) pos) (dSlL ta tl th) := by
  obtain ⟨t, p, l⟩ := he.ex
  obtain ⟨u, pl, ll⟩ := hl.ex
  obtain ⟨z, pu, lu⟩ := hu.ex
  refine ⟨_, pe_slice sl_list p pl pu, fun H0 w σ H env st Q Q' sl so q k => l H0 w σ H env st _ _ sl so q fun w1 H1 v d st1 e1 s1 r1 q1 => ?_⟩
  refine ll H0 w1 σ H1 env st1 _ _ (sl.ext e1) s1 q1 fun w2 H2 o1 st2 e2 s2 q2 => ?_
  refine lu H0 w2 σ H2 env st2 _ _ (sl.ext (e1.trans e2)) s2 q2 fun w3 H3 o2 st3 e3 s3 q3 => ?_
  split at q3
  · rename_i ds
    obtain ⟨a, vs, rfl, ha, r⟩ := (e2.trans e3).rep r1
    refine ⟨a, vs, rfl, .of (s3.sub _ _ ha), fun p hp => ?_⟩
    obtain ⟨e4, s4⟩ := ext_laid (o := .lst (cutV vs o1 o2)) s3 hp
    have ee := ((e1.trans e2).trans e3).trans e4
    exact k w3 _ _ (.own (.lst (cutD ds o1 o2))) st3 ee s4 ⟨p, rfl, ((e1.trans e2).trans e3).tr p hp, s3.zfree hp, s3.notcell hp, _, upd_same, r.cut o1 o2⟩ q3
  · rename_i ns
    obtain ⟨a, rfl, ha⟩ := (e2.trans e3).rep r1
    refine ⟨a, _, rfl, s3.sub.seq ha, fun p hp => ?_⟩
    obtain ⟨e4, s4⟩ := ext_laid (o := .lst (cutV (ns.map V.int) o1 o2)) s3 hp
    have ee := ((e1.trans e2).trans e3).trans e4
    refine k w3 _ _ (.own (.lst ((cutD ns o1 o2).map D.int))) st3 ee s4 ⟨p, rfl, ((e1.trans e2).trans e3).tr p hp, s3.zfree hp, s3.notcell hp, _, upd_same, ?_⟩ q3
    rw [show cutV (ns.map V.int) o1 o2 = (cutD ns o1 o2).map V.int from cut_map]
    exact Reps.ints _
  · exact q3.elim

/-! ### arguments, displays -/
def dNil : TDA := fun _ st Q => Q [] st
def dCons (t : TD) (r : TDA) : TDA := fun env st Q => t env st fun d st1 => r env st1 fun ds st2 => Q (d :: ds) st2
variable {tas : TDA}
theorem a_nil : DA X [] dNil := ⟨_, pa_nil, fun H0 w σ H env st Q Q' sl so q k => k w H [] [] st (Ext.refl _ _) so rfl q⟩
theorem a_cons (ha : DE X e ta) (hr : DA X es tas) (hs : starEach (e :: es) X.env = (false, eval e X.env) :: starEach es X.env := by rfl) : DA X (e :: es) (dCons ta tas) := by
  obtain ⟨t, p, l⟩ := ha.ex
  obtain ⟨u, p2, l2⟩ := hr.ex
  refine ⟨_, pa_cons p p2 hs, fun H0 w σ H env st Q Q' sl so q k => l H0 w σ H env st _ _ sl so q fun w1 H1 v d st1 e1 s1 r1 q1 => ?_⟩
  exact l2 H0 w1 σ H1 env st1 _ _ (sl.ext e1) s1 q1 fun w2 H2 vs ds st2 e2 s2 r2 q2 => k w2 H2 _ _ st2 (e1.trans e2) s2 (.cons (e2.rep r1) r2) q2
def dTup (t : TDA) : TD := fun env st Q => t env st fun ds st1 => ds.length ≤ sizeLine ∧ Q (.tup ds) st1
def dLst (t : TDA) : TDR := fun env st Q => t env st fun ds st1 => ds.length ≤ sizeLine ∧ Q (.own (.lst ds)) st1
theorem d_tup {k : Nat} (h : DA X es tas) : DE X (.Tuple es k pos) (dTup tas) := by
  obtain ⟨t, p, l⟩ := h.ex
  refine ⟨_, pe_tup p, fun H0 w σ H env st Q Q' sl so q k => l H0 w σ H env st _ _ sl so q fun w1 H1 vs ds st1 e1 s1 r1 q1 => ⟨by rw [← r1.length]; exact q1.1, fun p hp => ?_⟩⟩
  obtain ⟨e2, s2⟩ := ext_frozen (o := .tup vs) s1 hp
  exact k _ _ _ (.tup ds) st1 (e1.trans e2) s2 ⟨p, vs, rfl, .inl (.inl upd_same), e2.reps r1⟩ q1.2
theorem r_lst (h : DA X es tas) : RE X (.List es pos) (dLst tas) := by
  obtain ⟨t, p, l⟩ := h.ex
  refine ⟨_, pe_lst p, fun H0 w σ H env st Q Q' sl so q k => l H0 w σ H env st _ _ sl so q fun w1 H1 vs ds st1 e1 s1 r1 q1 => ⟨by rw [← r1.length]; exact q1.1, fun p hp => ?_⟩⟩
  obtain ⟨e2, s2⟩ := ext_laid (o := .lst vs) s1 hp
  exact k _ _ _ (.own (.lst ds)) st1 (e1.trans e2) s2 ⟨p, rfl, e1.tr p hp, s1.zfree hp, s1.notcell hp, vs, upd_same, r1⟩ q1.2

/-! ### lists and tuples put together -/
def wCatL : W2R := fun x y Q => match x, y with | .lst xs, .lst ys => xs.length + ys.length ≤ sizeLine ∧ Q (.lst (xs ++ ys)) | _, _ => False
def wRepL : W2R := fun x y Q => match x, y with | .lst xs, .int k => (-(2 ^ 63) ≤ k ∧ k < 2 ^ 63 ∧ xs.length * k.toNat ≤ sizeLine) ∧ Q (.lst (List.replicate k.toNat xs).flatten) | _, _ => False
def wCatT : W2 := fun x y Q => match x, y with | .tup xs, .tup ys => (xs ≠ [] ∧ ys ≠ [] ∧ xs.length + ys.length ≤ sizeLine) ∧ Q (.tup (xs ++ ys)) | _, _ => False
theorem Reps.rep {K : Frag} {cl : List Addr} {Z : Hp} {ds : List D} {vs : List V} (r : Reps K cl Z ds vs) : ∀ k : Nat, Reps K cl Z (List.replicate k ds).flatten (List.replicate k vs).flatten
  | 0 => rfl
  | k + 1 => by
    rw [List.replicate_succ, List.replicate_succ, List.flatten_cons, List.flatten_cons]
    exact r.append (Reps.rep r k)
theorem r_catL (ha : DE X a ta) (hb : DE X b tb) : RE X (.BinOp a .Add b pos) (dOpR wCatL ta tb) := r_op op_cat (by
  intro w H st x y v u Qd Q' so rx ry q k
  unfold wCatL at q
  split at q
  · rename_i xs ys
    obtain ⟨l, vs, rfl, hl, r1⟩ := rx
    obtain ⟨m, us, rfl, hm, r2⟩ := ry
    refine ⟨l, m, vs, us, rfl, rfl, so.sub _ _ hl, so.sub _ _ hm, by rw [← r1.length, ← r2.length]; exact q.1, fun p hp => ?_⟩
    obtain ⟨e2, s2⟩ := ext_laid (o := .lst (vs ++ us)) so hp
    exact k (.lst (xs ++ ys)) _ _ p e2 s2 hp ⟨_, upd_same, r1.append r2⟩ (so.zfree hp) (so.notcell hp) q.2
  · exact q.elim) ha hb
theorem r_repL (ha : DE X a ta) (hb : DE X b tb) : RE X (.BinOp a .Mult b pos) (dOpR wRepL ta tb) := r_op op_rep (by
  intro w H st x y v u Qd Q' so rx ry q k
  unfold wRepL at q
  split at q
  · rename_i xs j
    obtain ⟨l, vs, rfl, hl, r1⟩ := rx
    obtain rfl : u = .int j := ry
    refine ⟨l, j, vs, rfl, rfl, so.sub _ _ hl, q.1.1, q.1.2.1, by rw [← r1.length]; exact q.1.2.2, fun p hp => ?_⟩
    obtain ⟨e2, s2⟩ := ext_laid (o := .lst (List.replicate j.toNat vs).flatten) so hp
    exact k (.lst (List.replicate j.toNat xs).flatten) _ _ p e2 s2 hp ⟨_, upd_same, r1.rep _⟩ (so.zfree hp) (so.notcell hp) q.2
  · exact q.elim) ha hb
theorem d_catT (ha : DE X a ta) (hb : DE X b tb) : DE X (.BinOp a .Add b pos) (dOp wCatT ta tb) := d_op op_catT (by
  intro w H st x y v u Qd Q' so rx ry q k
  unfold wCatT at q
  split at q
  · rename_i xs ys
    obtain ⟨l, vs, rfl, hl, r1⟩ := rx
    obtain ⟨m, us, rfl, hm, r2⟩ := ry
    obtain ⟨⟨n1, n2, hz⟩, q⟩ := q
    refine ⟨l, m, vs, us, rfl, rfl, Same.seqT so.sub hl, Same.seqT so.sub hm, ?_, by rw [← r1.length, ← r2.length]; exact hz, ?_, fun _ p hp => ?_⟩
    · intro z; subst z; exact n1 (by have := r1.length; exact List.length_eq_zero_iff.mp this)
    · intro z; subst z; exact absurd (by have := r2.length; exact List.length_eq_zero_iff.mp this) n2
    · obtain ⟨e2, s2⟩ := ext_frozen (o := .tup (vs ++ us)) so hp
      exact k (.tup (xs ++ ys)) _ _ (.ref p) e2 s2 ⟨p, _, rfl, .inl (.inl upd_same), e2.reps (r1.append r2)⟩ q
  · exact q.elim) ha hb
/-- great powers -/
def CPowW (i j : Int) : Prop := 0 ≤ j ∧ (Builtin.Int.intBits i : Int) * j ≤ 2 ^ 27
theorem op_powW : OpR X (binaryOp .Pow) (rI CPowW fun i j => .int (i ^ j.toNat)) := opI fun _ _ _ _ _ _ _ hc q => PyProof.Rows.pow_int hc.1 hc.2 q
abbrev wPowW : W2 := wI CPowW fun i j => .int (i ^ j.toNat)
theorem d_powW (ha : DE X a ta) (hb : DE X b tb) : DE X (.BinOp a .Pow b pos) (dOp wPowW ta tb) := d_op op_powW (opl_I fun _ _ _ _ => rfl) ha hb
end
end DL

set_option Elab.async false
set_option linter.all false
set_option maxRecDepth 100000
set_option maxHeartbeats 4000000
/-! DL4: calls of built-ins and of defs. -/
namespace DL
open PySem PySem.Spec L2
section
variable {X : Cx} {e a b c : Expr} {es rest : List Expr} {p pos : Pos} {ta tb tc : TD} {tr : TDR} {tas : TDA}

/-! ### built-ins -/
def C1L (K : Frag) (r : List V → Hp → VK → Prop) (wd : W1) : Prop := ∀ (w : Wd) (H : Hp) (st : Store) (x : D) (v : V) (Qd : D → Prop) (Q' : VK), Sto w H st → Rep K w.cl w.Z x v → wd x Qd →
  (∀ z w' H' v', Ext w H w' H' → Sto w' H' st → Rep K w'.cl w'.Z z v' → Qd z → Q' v' H') → r [v] H Q'
def C2L (K : Frag) (r : List V → Hp → VK → Prop) (wd : W2) : Prop := ∀ (w : Wd) (H : Hp) (st : Store) (x y : D) (v u : V) (Qd : D → Prop) (Q' : VK), Sto w H st → Rep K w.cl w.Z x v → Rep K w.cl w.Z y u → wd x y Qd →
  (∀ z w' H' v', Ext w H w' H' → Sto w' H' st → Rep K w'.cl w'.Z z v' → Qd z → Q' v' H') → r [v, u] H Q'
def C1R (K : Frag) (r : List V → Hp → VK → Prop) (wd : W1) : Prop := ∀ (w : Wd) (H : Hp) (st : Store) (x : D) (v : V) (Qd : D → Prop) (Q' : VK), Sto w H st → Rep K w.cl w.Z x v → wd x Qd →
  (∀ z w' H' p, Ext w H w' H' → Sto w' H' st → H p = none → Holds K w' H' p z → w'.Z p = none → p ∉ w'.cl → Qd z → Q' (.ref p) H') → r [v] H Q'
def dUnR (wd : W1) (ta : TD) : TDR := fun env st Q => ta env st fun x st1 => wd x fun z => Q (.own z) st1
theorem lift_c1 {K : Frag} {r : List V → Hp → VK → Prop} {wd : W1} {t : TE} (hr : C1L K r wd) (ha : LiftE K t ta) : LiftE K (tCB r (tCons t tNil)) (dUn wd ta) := by
  intro H0 w σ H env st Q Q' sl so q k
  refine ha H0 w σ H env st _ _ sl so q fun w1 H1 v x st1 e1 s1 r1 q1 => ?_
  exact hr w1 H1 st1 x v _ Q' s1 r1 q1 fun z w3 H3 v3 e3 s3 r3 q3 => k w3 H3 v3 z st1 (e1.trans e3) s3 r3 q3
theorem lift_c2 {K : Frag} {r : List V → Hp → VK → Prop} {wd : W2} {t u : TE} (hr : C2L K r wd) (ha : LiftE K t ta) (hb : LiftE K u tb) : LiftE K (tCB r (tCons t (tCons u tNil))) (dOp wd ta tb) := by
  intro H0 w σ H env st Q Q' sl so q k
  refine ha H0 w σ H env st _ _ sl so q fun w1 H1 v x st1 e1 s1 r1 q1 => ?_
  refine hb H0 w1 σ H1 env st1 _ _ (sl.ext e1) s1 q1 fun w2 H2 v2 y st2 e2 s2 r2 q2 => ?_
  exact hr w2 H2 st2 x y v v2 _ Q' s2 (e2.rep r1) r2 q2 fun z w3 H3 v3 e3 s3 r3 q3 => k w3 H3 v3 z st2 ((e1.trans e2).trans e3) s3 r3 q3
theorem lift_c1R {K : Frag} {r : List V → Hp → VK → Prop} {wd : W1} {t : TE} (hr : C1R K r wd) (ha : LiftE K t ta) : LiftR K (tCB r (tCons t tNil)) (dUnR wd ta) := by
  intro H0 w σ H env st Q Q' sl so q k
  refine ha H0 w σ H env st _ _ sl so q fun w1 H1 v x st1 e1 s1 r1 q1 => ?_
  exact hr w1 H1 st1 x v _ Q' s1 r1 q1 fun z w3 H3 p e3 s3 hp h3 hz hn q3 => k w3 H3 _ (.own z) st1 (e1.trans e3) s3 ⟨p, rfl, e1.tr p hp, hz, hn, h3⟩ q3
section
variable {id : String} {x : Str} {r : List V → Hp → VK → Prop} {wd1 : W1} {wd2 : W2}
theorem d_b1 (hc : CallR X (.builtin id) r) (hl : C1L X.K r wd1) (hm : X.mg x = none) (hv : bootBuiltins x = some (.builtin id)) (ha : DE X e ta) (hg : Gl X x := by rfl) (hn : x ≠ "__name__" := by decide) (hdb : (x == ("__debug__" : Str)) = false := by decide)
    (h1 : starEach [e] X.env = (false, eval e X.env) :: starEach [] X.env := by rfl) (h2 : (backTo pos (starEach [] X.env)).any (·.1) = false := by rfl) : DE X (.Call (.Name x p) [e] [] pos) (dUn wd1 ta) := by
  obtain ⟨t, pa, la⟩ := ha.ex
  exact ⟨_, pe_callB hc hg hm hv (pa_cons pa pa_nil h1) hn hdb h1 h2, lift_c1 hl la⟩
theorem d_t1 (hc : CallR X (.type id) r) (hl : C1L X.K r wd1) (hm : X.mg x = none) (hv : bootBuiltins x = some (.type id)) (ha : DE X e ta) (hg : Gl X x := by rfl) (hn : x ≠ "__name__" := by decide) (hdb : (x == ("__debug__" : Str)) = false := by decide)
    (h1 : starEach [e] X.env = (false, eval e X.env) :: starEach [] X.env := by rfl) (h2 : (backTo pos (starEach [] X.env)).any (·.1) = false := by rfl) : DE X (.Call (.Name x p) [e] [] pos) (dUn wd1 ta) := by
  obtain ⟨t, pa, la⟩ := ha.ex
  exact ⟨_, pe_callTy hc hg hm hv (pa_cons pa pa_nil h1) hn hdb h1 h2, lift_c1 hl la⟩
theorem r_t1 (hc : CallR X (.type id) r) (hl : C1R X.K r wd1) (hm : X.mg x = none) (hv : bootBuiltins x = some (.type id)) (ha : DE X e ta) (hg : Gl X x := by rfl) (hn : x ≠ "__name__" := by decide) (hdb : (x == ("__debug__" : Str)) = false := by decide)
    (h1 : starEach [e] X.env = (false, eval e X.env) :: starEach [] X.env := by rfl) (h2 : (backTo pos (starEach [] X.env)).any (·.1) = false := by rfl) : RE X (.Call (.Name x p) [e] [] pos) (dUnR wd1 ta) := by
  obtain ⟨t, pa, la⟩ := ha.ex
  exact ⟨_, pe_callTy hc hg hm hv (pa_cons pa pa_nil h1) hn hdb h1 h2, lift_c1R hl la⟩
theorem r_b1 (hc : CallR X (.builtin id) r) (hl : C1R X.K r wd1) (hm : X.mg x = none) (hv : bootBuiltins x = some (.builtin id)) (ha : DE X e ta) (hg : Gl X x := by rfl) (hn : x ≠ "__name__" := by decide) (hdb : (x == ("__debug__" : Str)) = false := by decide)
    (h1 : starEach [e] X.env = (false, eval e X.env) :: starEach [] X.env := by rfl) (h2 : (backTo pos (starEach [] X.env)).any (·.1) = false := by rfl) : RE X (.Call (.Name x p) [e] [] pos) (dUnR wd1 ta) := by
  obtain ⟨t, pa, la⟩ := ha.ex
  exact ⟨_, pe_callB hc hg hm hv (pa_cons pa pa_nil h1) hn hdb h1 h2, lift_c1R hl la⟩
theorem d_b2 (hc : CallR X (.builtin id) r) (hl : C2L X.K r wd2) (hm : X.mg x = none) (hv : bootBuiltins x = some (.builtin id)) (ha : DE X a ta) (hb : DE X b tb) (hg : Gl X x := by rfl) (hn : x ≠ "__name__" := by decide) (hdb : (x == ("__debug__" : Str)) = false := by decide)
    (h1 : starEach [a, b] X.env = (false, eval a X.env) :: starEach [b] X.env := by rfl) (h3 : starEach [b] X.env = (false, eval b X.env) :: starEach [] X.env := by rfl) (h2 : (backTo pos (starEach [b] X.env)).any (·.1) = false := by rfl) : DE X (.Call (.Name x p) [a, b] [] pos) (dOp wd2 ta tb) := by
  obtain ⟨t, pa, la⟩ := ha.ex
  obtain ⟨u, pb, lb⟩ := hb.ex
  exact ⟨_, pe_callB hc hg hm hv (pa_cons pa (pa_cons pb pa_nil h3) h1) hn hdb h1 h2, lift_c2 hl la lb⟩
theorem d_f2 (hc : CallR X (.builtin id) r) (hl : C2L X.K r wd2) (hm : X.mg x = some (.builtin id)) (ha : DE X a ta) (hb : DE X b tb) (hg : Gl X x := by rfl) (hdb : (x == ("__debug__" : Str)) = false := by decide)
    (h1 : starEach [a, b] X.env = (false, eval a X.env) :: starEach [b] X.env := by rfl) (h3 : starEach [b] X.env = (false, eval b X.env) :: starEach [] X.env := by rfl) (h2 : (backTo pos (starEach [b] X.env)).any (·.1) = false := by rfl) : DE X (.Call (.Name x p) [a, b] [] pos) (dOp wd2 ta tb) := by
  obtain ⟨t, pa, la⟩ := ha.ex
  obtain ⟨u, pb, lb⟩ := hb.ex
  exact ⟨_, pe_callBfun hc hg hm (pa_cons pa (pa_cons pb pa_nil h3) h1) hdb h1 h2, lift_c2 hl la lb⟩
end
def wLen : W1 := fun x Q => match x with
  | .lst ds => Q (.int ds.length)
  | .tup ds => Q (.int ds.length)
  | .scr ns => Q (.int ns.length)
  | .str z => z.length ≤ sizeLine ∧ Q (.int z.length)
  | .dK ks _ => Q (.int ks.length)
  | _ => False
theorem call_lenK {X : Cx} : CallR X (.builtin "len") (fun xs H Q => ∃ (a : Addr) (kvs : List (Key × V)), xs = [.ref a] ∧ Rd H a (.dK kvs) ∧ Q (.int kvs.length) H) := by
  intro pins s σ H xs us Q I r h
  obtain ⟨a, kvs, rfl, e, q⟩ := h
  obtain ⟨u, rfl, rx⟩ := vals1 r
  cases rx
  exact L2.d_len I e fun t s' I' => ⟨.int kvs.length, H, I', ⟨t, rfl⟩, q⟩
theorem boot_len : bootBuiltins "len" = some (.builtin "len") := by decide +kernel
theorem boot_abs : bootBuiltins "abs" = some (.builtin "abs") := by decide +kernel
theorem boot_max : bootBuiltins "max" = some (.builtin "max") := by decide +kernel
theorem boot_min : bootBuiltins "min" = some (.builtin "min") := by decide +kernel
theorem boot_sum : bootBuiltins "sum" = some (.builtin "sum") := by decide +kernel
theorem boot_any : bootBuiltins "any" = some (.builtin "any") := by decide +kernel
theorem boot_all : bootBuiltins "all" = some (.builtin "all") := by decide +kernel
theorem boot_isi : bootBuiltins "isinstance" = some (.builtin "isinstance") := by decide +kernel
theorem boot_int : bootBuiltins "int" = some (.type "int") := by decide +kernel
theorem boot_bool : bootBuiltins "bool" = some (.type "bool") := by decide +kernel
theorem boot_str : bootBuiltins "str" = some (.type "str") := by decide +kernel
theorem boot_list : bootBuiltins "list" = some (.type "list") := by decide +kernel
theorem boot_tuple : bootBuiltins "tuple" = some (.type "tuple") := by decide +kernel
theorem boot_dict : bootBuiltins "dict" = some (.type "dict") := by decide +kernel
theorem boot_range : bootBuiltins "range" = some (.type "range") := by decide +kernel
theorem boot_sorted : bootBuiltins "sorted" = some (.builtin "sorted") := by decide +kernel
theorem d_len (hm : X.mg "len" = none) (ha : DE X e ta) (hg : Gl X "len" := by rfl) (h1 : starEach [e] X.env = (false, eval e X.env) :: starEach [] X.env := by rfl) (h2 : (backTo pos (starEach [] X.env)).any (·.1) = false := by rfl) :
    DE X (.Call (.Name "len" p) [e] [] pos) (dUn wLen ta) := d_b1 ((call_len_seq.or call_len_str).or call_lenK) (by
  intro w H st x v Qd Q' so rx q k
  unfold wLen at q
  split at q
  · rename_i ds
    obtain ⟨a, vs, rfl, ha, r⟩ := rx
    exact .inl (.inl ⟨a, vs, rfl, .inl (.of (so.sub _ _ ha)), k _ w H _ (Ext.refl _ _) so (by rw [← r.length]; rfl) q⟩)
  · rename_i ds
    obtain ⟨a, vs, rfl, ha, r⟩ := rx
    exact .inl (.inl ⟨a, vs, rfl, .inr (Same.seqT so.sub ha), k _ w H _ (Ext.refl _ _) so (by rw [← r.length]; rfl) q⟩)
  · rename_i ns
    obtain ⟨a, rfl, ha⟩ := rx
    exact .inl (.inl ⟨a, _, rfl, .inl (so.sub.seq ha), k _ w H _ (Ext.refl _ _) so (by rw [List.length_map]; rfl) q⟩)
  · rename_i z
    obtain rfl : v = .str z := rx
    exact .inl (.inr ⟨z, rfl, q.1, k (.int z.length) w H (.int z.length) (Ext.refl _ _) so rfl q.2⟩)
  · rename_i ks ds
    obtain ⟨a, vs, rfl, hl, ha, r⟩ := rx
    exact .inr ⟨a, _, rfl, Same.rd so.sub ha, k (.int ks.length) w H _ (Ext.refl _ _) so (by show V.int _ = V.int _; rw [List.length_zip, hl, Nat.min_self]) q⟩
  · exact q.elim) hm boot_len ha hg (by decide) (by decide) h1 h2
def wAbs : W1 := fun x Q => match x with | .int i => Q (.int (if i < 0 then -i else i)) | _ => False
theorem d_abs (hm : X.mg "abs" = none) (ha : DE X e ta) (hg : Gl X "abs" := by rfl) (h1 : starEach [e] X.env = (false, eval e X.env) :: starEach [] X.env := by rfl) (h2 : (backTo pos (starEach [] X.env)).any (·.1) = false := by rfl) :
    DE X (.Call (.Name "abs" p) [e] [] pos) (dUn wAbs ta) := d_b1 call_abs (by
  intro w H st x v Qd Q' so rx q k
  unfold wAbs at q
  split at q
  · rename_i i
    obtain rfl : v = .int i := rx
    exact ⟨i, rfl, k (.int _) w H _ (Ext.refl _ _) so rfl q⟩
  · exact q.elim) hm boot_abs ha hg (by decide) (by decide) h1 h2
def wInt : W1 := fun x Q => match x with | .int i => Q (.int i) | .bl b => Q (.int (if b then 1 else 0)) | _ => False
theorem d_toInt (hm : X.mg "int" = none) (ha : DE X e ta) (hg : Gl X "int" := by rfl) (h1 : starEach [e] X.env = (false, eval e X.env) :: starEach [] X.env := by rfl) (h2 : (backTo pos (starEach [] X.env)).any (·.1) = false := by rfl) :
    DE X (.Call (.Name "int" p) [e] [] pos) (dUn wInt ta) := d_t1 call_int1 (by
  intro w H st x v Qd Q' so rx q k
  unfold wInt at q
  split at q
  · rename_i i
    obtain rfl : v = .int i := rx
    exact .inl ⟨i, rfl, k (.int _) w H _ (Ext.refl _ _) so rfl q⟩
  · rename_i i
    obtain rfl : v = .bl i := rx
    exact .inr ⟨i, rfl, k (.int _) w H _ (Ext.refl _ _) so rfl q⟩
  · exact q.elim) hm boot_int ha hg (by decide) (by decide) h1 h2
abbrev wMax2 : W2 := wI0 fun i j => .int (if j > i then j else i)
abbrev wMin2 : W2 := wI0 fun i j => .int (if j < i then j else i)
theorem c2l_I0 {K : Frag} {gv : Int → Int → V} {g : Int → Int → D} (h : ∀ i j cl Z, Rep K cl Z (g i j) (gv i j)) : C2L K (fun xs H Q => ∃ i j, xs = [.int i, .int j] ∧ Q (gv i j) H) (wI0 g) := by
  intro w H st x y v u Qd Q' so rx ry q k
  unfold wI0 at q
  split at q
  · rename_i i j
    obtain rfl : v = .int i := rx
    obtain rfl : u = .int j := ry
    exact ⟨i, j, rfl, k _ w H _ (Ext.refl _ _) so (h i j _ _) q⟩
  · exact q.elim
theorem d_max2 (hm : X.mg "max" = none) (ha : DE X a ta) (hb : DE X b tb) (hc : X.calm = true := by rfl) (hg : Gl X "max" := by rfl) (h1 : starEach [a, b] X.env = (false, eval a X.env) :: starEach [b] X.env := by rfl) (h3 : starEach [b] X.env = (false, eval b X.env) :: starEach [] X.env := by rfl)
    (h2 : (backTo pos (starEach [b] X.env)).any (·.1) = false := by rfl) : DE X (.Call (.Name "max" p) [a, b] [] pos) (dOp wMax2 ta tb) := d_b2 (call_max2 hc) (c2l_I0 fun _ _ _ _ => rfl) hm boot_max ha hb hg (by decide) (by decide) h1 h3 h2
theorem d_min2 (hm : X.mg "min" = none) (ha : DE X a ta) (hb : DE X b tb) (hc : X.calm = true := by rfl) (hg : Gl X "min" := by rfl) (h1 : starEach [a, b] X.env = (false, eval a X.env) :: starEach [b] X.env := by rfl) (h3 : starEach [b] X.env = (false, eval b X.env) :: starEach [] X.env := by rfl)
    (h2 : (backTo pos (starEach [b] X.env)).any (·.1) = false := by rfl) : DE X (.Call (.Name "min" p) [a, b] [] pos) (dOp wMin2 ta tb) := d_b2 (call_min2 hc) (c2l_I0 fun _ _ _ _ => rfl) hm boot_min ha hb hg (by decide) (by decide) h1 h3 h2
abbrev wGcd : W2 := wI0 fun i j => .int ((Nat.gcd i.natAbs j.natAbs : Nat) : Int)
theorem d_gcd (hm : X.mg "gcd" = some (.builtin "math.gcd")) (ha : DE X a ta) (hb : DE X b tb) (hg : Gl X "gcd" := by rfl) (h1 : starEach [a, b] X.env = (false, eval a X.env) :: starEach [b] X.env := by rfl) (h3 : starEach [b] X.env = (false, eval b X.env) :: starEach [] X.env := by rfl)
    (h2 : (backTo pos (starEach [b] X.env)).any (·.1) = false := by rfl) : DE X (.Call (.Name "gcd" p) [a, b] [] pos) (dOp wGcd ta tb) := d_f2 cr_gcd (c2l_I0 fun _ _ _ _ => rfl) hm ha hb hg (by decide) h1 h3 h2
def wSum : W1 := fun x Q => match x with | .lst ds => ∃ ns : List Int, ds = ns.map D.int ∧ Q (.int ns.sum) | _ => False
def wAll : W1 := fun x Q => match x with | .lst ds => ∃ bs : List Bool, ds = bs.map D.bl ∧ Q (.bl (bs.all id)) | _ => False
def wAny : W1 := fun x Q => match x with | .lst ds => ∃ bs : List Bool, ds = bs.map D.bl ∧ Q (.bl (bs.any id)) | _ => False
theorem d_sum (hm : X.mg "sum" = none) (ha : DE X e ta) (hc : X.calm = true := by rfl) (hg : Gl X "sum" := by rfl) (h1 : starEach [e] X.env = (false, eval e X.env) :: starEach [] X.env := by rfl) (h2 : (backTo pos (starEach [] X.env)).any (·.1) = false := by rfl) :
    DE X (.Call (.Name "sum" p) [e] [] pos) (dUn wSum ta) := d_b1 (cr_sum hc) (by
  intro w H st x v Qd Q' so rx q k
  unfold wSum at q
  split at q
  · rename_i ds
    obtain ⟨ns, rfl, q⟩ := q
    obtain ⟨a, vs, rfl, ha, r⟩ := rx
    rw [r.ints_of] at ha
    exact ⟨a, ns, rfl, .of (so.sub _ _ ha), k (.int _) w H _ (Ext.refl _ _) so rfl q⟩
  · exact q.elim) hm boot_sum ha hg (by decide) (by decide) h1 h2
theorem d_all (hm : X.mg "all" = none) (ha : DE X e ta) (hc : X.calm = true := by rfl) (hg : Gl X "all" := by rfl) (h1 : starEach [e] X.env = (false, eval e X.env) :: starEach [] X.env := by rfl) (h2 : (backTo pos (starEach [] X.env)).any (·.1) = false := by rfl) :
    DE X (.Call (.Name "all" p) [e] [] pos) (dUn wAll ta) := d_b1 (cr_all hc) (by
  intro w H st x v Qd Q' so rx q k
  unfold wAll at q
  split at q
  · rename_i ds
    obtain ⟨ns, rfl, q⟩ := q
    obtain ⟨a, vs, rfl, ha, r⟩ := rx
    rw [r.bls_of] at ha
    exact ⟨a, ns, rfl, .of (so.sub _ _ ha), k (.bl _) w H _ (Ext.refl _ _) so rfl q⟩
  · exact q.elim) hm boot_all ha hg (by decide) (by decide) h1 h2
theorem d_any (hm : X.mg "any" = none) (ha : DE X e ta) (hc : X.calm = true := by rfl) (hg : Gl X "any" := by rfl) (h1 : starEach [e] X.env = (false, eval e X.env) :: starEach [] X.env := by rfl) (h2 : (backTo pos (starEach [] X.env)).any (·.1) = false := by rfl) :
    DE X (.Call (.Name "any" p) [e] [] pos) (dUn wAny ta) := d_b1 (cr_any hc) (by
  intro w H st x v Qd Q' so rx q k
  unfold wAny at q
  split at q
  · rename_i ds
    obtain ⟨ns, rfl, q⟩ := q
    obtain ⟨a, vs, rfl, ha, r⟩ := rx
    rw [r.bls_of] at ha
    exact ⟨a, ns, rfl, .of (so.sub _ _ ha), k (.bl _) w H _ (Ext.refl _ _) so rfl q⟩
  · exact q.elim) hm boot_any ha hg (by decide) (by decide) h1 h2

/-! ### isinstance with built-in types -/
/-- the name of a datum's type -/
def D.tyn : D → Option String
  | .non => some "NoneType"
  | .bl _ => some "bool"
  | .int _ => some "int"
  | .str _ => some "str"
  | .scr _ => some "list"
  | .lst _ => some "list"
  | .tup _ => some "tuple"
  | .dK _ _ => some "dict"
  | .dT _ _ => some "dict"
  | _ => none
def isiT (a T : String) : Bool := a == T || (a == "bool" && T == "int")
def tyKnown (T : String) : Bool := (["int", "bool", "str", "list", "tuple", "dict"] : List String).contains T
def tynKnown (T : String) : Bool := (["NoneType", "int", "bool", "str", "list", "tuple", "dict"] : List String).contains T
theorem kit_all : (["NoneType", "int", "bool", "str", "list", "tuple", "dict"] : List String).all (fun a => (["int", "bool", "str", "list", "tuple", "dict"] : List String).all fun T => decide (kitB a T = some (isiT a T))) = true := by decide +kernel
theorem kit_known {a T : String} (h1 : tynKnown a = true) (h2 : tyKnown T = true) : kitB a T = some (isiT a T) := by
  have h := kit_all
  rw [List.all_eq_true] at h
  have h3 := h a (by simpa [tynKnown] using h1)
  rw [List.all_eq_true] at h3
  exact of_decide_eq_true (h3 T (by simpa [tyKnown] using h2))
theorem Rep.tyx {K : Frag} {cl : List Addr} {Z H : Hp} (hz : Same Z H) {d : D} {v : V} {n : String} (h : Rep K cl Z d v) (e : d.tyn = some n) : tynKnown n = true ∧ TyX K H v (.type n) := by
  have seqL : ∀ {a : Addr} {xs : List V}, SqL K Z a xs → TyX K H (.ref a) (.type "list") := fun {a xs} s => by
    rcases hz.seq s with (s | ⟨o, s⟩) | ⟨o, its, n, s, c, _⟩
    · exact .base (.lst s)
    · exact .base (.frz s)
    · exact .kList s c
  have seqT : ∀ {a : Addr} {xs : List V}, SqT K Z a xs → TyX K H (.ref a) (.type "tuple") := fun {a xs} s => by
    rcases Same.seqT hz s with (s | ⟨o, s⟩) | ⟨o, its, n, s, c, _⟩
    · exact .base (.tup s)
    · exact .fTuple s
    · exact .kTuple s c
  cases d with
  | non => obtain rfl := Option.some.inj e; rw [show v = .non from h]; exact ⟨by decide, .base .non⟩
  | bl b => obtain rfl := Option.some.inj e; rw [show v = .bl b from h]; exact ⟨by decide, .base (.bl b)⟩
  | int b => obtain rfl := Option.some.inj e; rw [show v = .int b from h]; exact ⟨by decide, .base (.int b)⟩
  | str b => obtain rfl := Option.some.inj e; rw [show v = .str b from h]; exact ⟨by decide, .base (.str b)⟩
  | scr ns => obtain rfl := Option.some.inj e; obtain ⟨a, rfl, s⟩ := h; exact ⟨by decide, seqL s⟩
  | lst ds => obtain rfl := Option.some.inj e; obtain ⟨a, vs, rfl, s, _⟩ := h; exact ⟨by decide, seqL (.of s)⟩
  | tup ds => obtain rfl := Option.some.inj e; obtain ⟨a, vs, rfl, s, _⟩ := h; exact ⟨by decide, seqT s⟩
  | dK ks ds => obtain rfl := Option.some.inj e; obtain ⟨a, vs, rfl, _, s, _⟩ := h; exact ⟨by decide, s.elim (fun s => .base (.dK (hz _ _ s))) fun ⟨o, s⟩ => .fDict (hz _ _ s)⟩
  | dT ks ds => obtain rfl := Option.some.inj e; obtain ⟨a, vs, rfl, _, s, _⟩ := h; exact ⟨by decide, .base (.dT (hz _ _ s))⟩
  | _ => cases e
def wIsi : W2 := fun x y Q => match y with
  | .ty T => tyKnown T = true ∧ ∃ n, x.tyn = some n ∧ Q (.bl (isiT n T))
  | _ => False
theorem kit_any {K : Frag} {n : String} (hn : tynKnown n = true) : ∀ {Ts : List String}, Ts.all tyKnown = true → PySem.W.kitAny K (.type n) (Ts.map Value.type) = some (Ts.any fun T => isiT n T)
  | [], _ => kitAny_nil
  | T :: Ts, h => by
    rw [List.all_cons, Bool.and_eq_true] at h
    refine kitAny_cons (kit_ty (kit_known hn h.1)) (fun e => ?_) fun e => ?_
    · rw [List.any_cons, e, Bool.false_or]; exact kit_any hn h.2
    · rw [List.any_cons, e, Bool.true_or]
theorem tys_vs {K : Frag} {cl : List Addr} {Z : Hp} : ∀ {Ts : List String} {vs : List V}, Reps K cl Z (Ts.map D.ty) vs → Paired ClsV vs (Ts.map Value.type)
  | [], vs, h => by rw [show vs = [] from h]; exact .nil
  | T :: Ts, vs, h => by
    obtain ⟨v, r, rfl, h1, h2⟩ := (show ∃ v r, vs = v :: r ∧ Rep K cl Z (.ty T) v ∧ Reps K cl Z (Ts.map D.ty) r from h)
    rw [show v = .ty T from h1]
    exact .cons (.ty T) (tys_vs h2)
theorem d_isi (hm : X.mg "isinstance" = none) (ha : DE X a ta) (hb : DE X b tb) (hg : Gl X "isinstance" := by rfl) (h1 : starEach [a, b] X.env = (false, eval a X.env) :: starEach [b] X.env := by rfl) (h3 : starEach [b] X.env = (false, eval b X.env) :: starEach [] X.env := by rfl)
    (h2 : (backTo pos (starEach [b] X.env)).any (·.1) = false := by rfl) : DE X (.Call (.Name "isinstance" p) [a, b] [] pos) (dOp wIsi ta tb) := d_b2 call_isi (by
  intro w H st x y v u Qd Q' so rx ry q k
  unfold wIsi at q
  split at q
  · rename_i T
    obtain ⟨hT, n, hx, q⟩ := q
    obtain ⟨hn, ty⟩ := rx.tyx so.sub hx
    obtain rfl : u = .ty T := ry
    exact ⟨v, .ty T, _, _, _, rfl, .ty T, ty, kit_ty (kit_known hn hT), k (.bl _) w H _ (Ext.refl _ _) so rfl q⟩
  · exact q.elim) hm boot_isi ha hb hg (by decide) (by decide) h1 h3 h2
def dIsiT (Ts : List String) (ta : TD) : TD := fun env st Q => ta env st fun x st1 => ∃ n, x.tyn = some n ∧ Q (.bl (Ts.any fun T => isiT n T)) st1
/-- isinstance(x, (T, ..)), the types written -/
theorem d_isiT {k2 : Nat} {pt : Pos} (Ts : List String) (hm : X.mg "isinstance" = none) (ha : DE X a ta) (hb : DA X es tas) (hT : ∀ env st Q, Q (Ts.map D.ty) st → tas env st Q := by exact fun _ _ _ h => h) (hk : Ts.all tyKnown = true := by decide) (hl : Ts.length ≤ sizeLine := by decide)
    (hg : Gl X "isinstance" := by rfl) (h1 : starEach [a, .Tuple es k2 pt] X.env = (false, eval a X.env) :: starEach [.Tuple es k2 pt] X.env := by rfl) (h3 : starEach [.Tuple es k2 pt] X.env = (false, eval (.Tuple es k2 pt) X.env) :: starEach [] X.env := by rfl)
    (h2 : (backTo pos (starEach [.Tuple es k2 pt] X.env)).any (·.1) = false := by rfl) : DE X (.Call (.Name "isinstance" p) [a, .Tuple es k2 pt] [] pos) (dIsiT Ts ta) := by
  obtain ⟨t, pa, la⟩ := ha.ex
  obtain ⟨u, pb, lb⟩ := hb.ex
  refine ⟨_, pe_callB call_isiT hg hm boot_isi (pa_cons pa (pa_cons (pe_tup pb) pa_nil h3) h1) (by decide) (by decide) h1 h2, fun H0 w σ H env st Q Q' sl so q k => ?_⟩
  refine la H0 w σ H env st _ _ sl so q fun w1 H1 v x st1 e1 s1 r1 q1 => ?_
  obtain ⟨n, hx, q1⟩ := q1
  refine lb H0 w1 σ H1 env st1 (fun ds st2 => ds = Ts.map D.ty ∧ st2 = st1) _ (sl.ext e1) s1 (hT env st1 (fun ds st2 => ds = Ts.map D.ty ∧ st2 = st1) ⟨rfl, rfl⟩) fun w2 H2 vs ds st2 e2 s2 r2 q2 => ?_
  obtain ⟨rfl, rfl⟩ := q2
  refine ⟨by rw [← r2.length, List.length_map]; exact hl, fun tp hp => ?_⟩
  obtain ⟨e3, s3⟩ := ext_frozen (o := .tup vs) s2 hp
  obtain ⟨hn, ty⟩ := ((e2.trans e3).rep r1).tyx s3.sub hx
  exact ⟨v, tp, vs, _, _, _, rfl, upd_same, tys_vs r2, ty, kit_any hn hk, k _ _ (.bl _) (.bl _) st2 ((e1.trans e2).trans e3) s3 rfl q1⟩
end
end DL

set_option Elab.async false
set_option linter.all false
set_option maxRecDepth 100000
set_option maxHeartbeats 4000000
/-! DL5: calls of defs, borrowed lists, cells, statements. -/
namespace DL
open PySem PySem.Spec L2

/-- a def's promise on data: from the arguments, the store and what is wanted of the result -/
abbrev Phi := List D → Store → (EV → Store → Prop) → Prop
def spD (K : Frag) (n : Nat) (φ : Phi) : Sp := fun vs H Q _ => ∃ w ds st Q', ds.length = n ∧ Sto w H st ∧ Reps K w.cl w.Z ds vs ∧ φ ds st Q' ∧
  ∀ w' H' v ev st', Ext w H w' H' → Sto w' H' st' → ROk K H w' H' v ev → Q' ev st' → Q v H'
theorem ROk.up {K : Frag} {w w1 w' : Wd} {H H1 H' : Hp} {v : V} {ev : EV} (r : ROk K H1 w' H' v ev) (x : Ext w H w1 H1) : ROk K H w' H' v ev := by
  cases ev with
  | lkd d => exact r.elim
  | dat d => exact r
  | own d =>
    obtain ⟨p, rfl, hp, r⟩ := r
    exact ⟨p, rfl, x.tr p hp, r⟩
  | deep d =>
    obtain ⟨L, h, l⟩ := r
    exact ⟨L, h, fun p hp => let ⟨a, b⟩ := l p hp; ⟨x.tr p a, b⟩⟩
/-- what the text tells of a def -/
structure TxF (K : Frag) (mg : Str → Option Value) (x : Str) (f : Addr) (fd : FuncData) (ps : List Str) : Prop where
  g : mg x = some (.ref f)
  kp : PySem.W.keepIn K (.ref f) = true
  b : Binds K fd ps []
/-- the places idx of a list -/
def pick {α : Type} (idx : List Nat) (xs : List α) : List α := idx.filterMap fun i => xs[i]?
theorem Vals.pick {vs : List V} {us : List Value} (r : Vals vs us) : ∀ idx : List Nat, Vals (pick idx vs) (pick idx us)
  | [] => .nil
  | i :: idx => by
    unfold DL.pick
    rw [List.filterMap_cons, List.filterMap_cons]
    cases q : vs[i]? with
    | none =>
      rw [L2.Vals.none_of r q]
      exact Vals.pick r idx
    | some v =>
      obtain ⟨u, e, ru⟩ := L2.Vals.get r q
      rw [e]
      exact .cons ru (Vals.pick r idx)
theorem Reps.pick {K : Frag} {cl : List Addr} {Z : Hp} {ds : List D} {vs : List V} (r : Reps K cl Z ds vs) : ∀ idx : List Nat, Reps K cl Z (pick idx ds) (pick idx vs)
  | [] => rfl
  | i :: idx => by
    unfold DL.pick
    rw [List.filterMap_cons, List.filterMap_cons]
    cases q : ds[i]? with
    | none =>
      have : vs[i]? = none := by
        rw [List.getElem?_eq_none_iff, ← r.length]
        exact List.getElem?_eq_none_iff.mp q
      rw [this]
      exact Reps.pick r idx
    | some d =>
      obtain ⟨v, e, rv⟩ := r.get q
      rw [e]
      exact .cons rv (Reps.pick r idx)

section
variable {X : Cx} {e a b c : Expr} {es rest : List Expr} {p pos : Pos} {ta tb tc : TD} {tr : TDR} {tas tks : TDA}
section
variable {k n : Nat} {f : Addr} {fd : FuncData} {ps ks : List Str} {φ : Phi} {x : Str} {dvs : List V} {ds0 : List Value} {dd : List D} {kws : List Keyword}
def dCall (n : Nat) (φ : Phi) (dd : List D) (t : TDA) : TDR := fun env st Q => t env st fun ds st1 => (ds ++ dd).length = n ∧ φ (ds ++ dd) st1 Q
def dCallK (n : Nat) (φ : Phi) (idx : List Nat) (t tk : TDA) : TDR := fun env st Q => t env st fun ds st1 => tk env st1 fun zs st2 => (pick idx (ds ++ zs)).length = n ∧ φ (pick idx (ds ++ zs)) st2 Q
theorem lift_call {K : Frag} {t : TA} {E : XK} (la : LiftA K t tas) (hdd : ∀ cl Z, Reps K cl Z dd dvs) : LiftR K (tCall (spD K n φ) dvs E t) (dCall n φ dd tas) := by
  intro H0 w σ H env st Q Q' sl so q k
  refine la H0 w σ H env st _ _ sl so q fun w1 H1 vs ds st1 e1 s1 r1 q1 => ?_
  exact ⟨w1, ds ++ dd, st1, Q, q1.1, s1, r1.append (hdd _ _), q1.2, fun w' H' v ev st' x s r q => k w' H' v ev st' (e1.trans x) s (r.up e1) q⟩
theorem r_call (F : FnOk X.prog X.w X.K X.mg X.base CX0 k f fd ps (spD X.K n φ)) (T : TxF X.K X.mg x f fd ps) (hr : Room k X.A) (ha : DA X (e :: es) tas) (hg : Gl X x := by rfl) (hdb : (x == ("__debug__" : Str)) = false := by decide)
    (he : starEach (e :: es) X.env = (false, eval e X.env) :: starEach es X.env := by rfl) (hpl : (backTo pos (starEach es X.env)).any (·.1) = false := by rfl) : RE X (.Call (.Name x p) (e :: es) [] pos) (dCall n φ [] tas) := by
  obtain ⟨t, pa, la⟩ := ha.ex
  exact ⟨_, pe_call F hr hg T.g T.kp T.b .nil (pass0) pa hdb he hpl, lift_call la fun _ _ => rfl⟩
theorem r_call0 (F : FnOk X.prog X.w X.K X.mg X.base CX0 k f fd ps (spD X.K n φ)) (T : TxF X.K X.mg x f fd ps) (hr : Room k X.A) (hg : Gl X x := by rfl) (hdb : (x == ("__debug__" : Str)) = false := by decide) : RE X (.Call (.Name x p) [] [] pos) (dCall n φ [] dNil) := by
  obtain ⟨t, pa, la⟩ := (a_nil (X := X)).ex
  exact ⟨_, pe_call0 F hr hg T.g T.kp T.b .nil (pass0) hdb, lift_call (tas := dNil) (t := tNil) (fun H0 w σ H env st Q Q' sl so q k => k w H [] [] st (Ext.refl _ _) so rfl q) fun _ _ => rfl⟩
/-- the last arguments are defaults -/
theorem r_callD (F : FnOk X.prog X.w X.K X.mg X.base CX0 k f fd ps (spD X.K n φ)) (T : TxF X.K X.mg x f fd ps) (hd : Vals dvs ds0) (hb : Binds X.K fd ps ds0) (hdd : ∀ cl Z, Reps X.K cl Z dd dvs) (hr : Room k X.A) (ha : DA X (e :: es) tas) (hg : Gl X x := by rfl) (hdb : (x == ("__debug__" : Str)) = false := by decide)
    (he : starEach (e :: es) X.env = (false, eval e X.env) :: starEach es X.env := by rfl) (hpl : (backTo pos (starEach es X.env)).any (·.1) = false := by rfl) : RE X (.Call (.Name x p) (e :: es) [] pos) (dCall n φ dd tas) := by
  obtain ⟨t, pa, la⟩ := ha.ex
  exact ⟨_, pe_call F hr hg T.g T.kp hb hd (pass0) pa hdb he hpl, lift_call la hdd⟩
/-- keywords -/
structure DKs (X : Cx) (kws : List Keyword) (td : TDA) : Prop where ex : ∃ t, PK X kws t ∧ LiftA X.K t td
theorem k_nil : DKs X [] dNil := ⟨_, pk_nil, fun H0 w σ H env st Q Q' sl so q k => k w H [] [] st (Ext.refl _ _) so rfl q⟩
theorem k_cons {nm : Option Str} {kpos : Pos} (ha : DE X e ta) (hr : DKs X kws tks) : DKs X (⟨nm, e, kpos⟩ :: kws) (dCons ta tks) := by
  obtain ⟨t, p, l⟩ := ha.ex
  obtain ⟨u, p2, l2⟩ := hr.ex
  refine ⟨_, pk_cons p p2, fun H0 w σ H env st Q Q' sl so q k => l H0 w σ H env st _ _ sl so q fun w1 H1 v d st1 e1 s1 r1 q1 => ?_⟩
  exact l2 H0 w1 σ H1 env st1 _ _ (sl.ext e1) s1 q1 fun w2 H2 vs ds st2 e2 s2 r2 q2 => k w2 H2 _ _ st2 (e1.trans e2) s2 (.cons (e2.rep r1) r2) q2
/-- how a call with m positional values and keywords ks binds -/
def KwB (K : Frag) (fd : FuncData) (ps : List Str) (m : Nat) (ks : List Str) (idx : List Nat) : Prop := ∀ (s : Shared) (us ws : List Value), us.length = m → ws.length = ks.length → BindsTo s fd ⟨us, ks.zip ws⟩ (ps.zip (pick idx (us ++ ws)))
theorem run_kw {m : Nat} {idx : List Nat} {pins : List (Addr × Obj)} {σ : L2.St} {H : Hp} {s : Shared} {Q : VK} {us ws : List Value} {vs zs : List V} {sp : Sp} {E : XK} (F : FnOk X.prog X.w X.K X.mg X.base CX0 k f fd ps sp) (hr : Room k X.A) (hb : KwB X.K fd ps m ks idx) (hx : Passes CX0 X E)
    (I : Inv X pins σ H s) (r : Vals vs us) (rz : Vals zs ws) (l1 : vs.length = m) (l2 : zs.length = ks.length) (h : sp (pick idx (vs ++ zs)) H Q E) : wpAny (model X.prog X.w) X.A (call (.ref f) us (ks.zip ws)) (EP X pins σ Q) X.xe s := by
  have r2 := Vals.pick (r.append rz) idx
  refine wpAny_call (codeAny_mono (F.run X.A X.stack s H ⟨us, ks.zip ws⟩ (pick idx (us ++ ws)) (pick idx (vs ++ zs)) Q E hr I.env0 (hb s us ws (r.length ▸ l1) (rz.length ▸ l2)) r2 h) fun r s' hq => ?_)
  cases r with
  | error e => exact hx pins σ H s e s' I hq
  | ok fl =>
    cases fl with
    | ret u => exact I.after hq
    | next => exact False.elim hq
    | brk => exact False.elim hq
    | cont => exact False.elim hq
def tCallKw (sp : Sp) (m l : Nat) (idx : List Nat) (E : XK) (t tk : TA) : TE := fun σ H Q => t σ H fun vs H1 => tk σ H1 fun zs H2 => vs.length = m ∧ zs.length = l ∧ sp (pick idx (vs ++ zs)) H2 Q E
theorem pe_callKw {m : Nat} {idx : List Nat} {sp : Sp} {E : XK} {t tk : TA} (F : FnOk X.prog X.w X.K X.mg X.base CX0 k f fd ps sp) (T : TxF X.K X.mg x f fd ps) (hr : Room k X.A) (hb : KwB X.K fd ps m ks idx) (hx : Passes CX0 X E)
    (ha : PA X (e :: es) t) (hkw : PK X kws tk) (hg : Gl X x := by rfl) (hall : (backToKw pos (keywordEach kws X.env)).all (·.1.isSome) = true := by rfl) (hks : (backToKw pos (keywordEach kws X.env)).filterMap (·.1) = ks := by rfl)
    (hdb : (x == ("__debug__" : Str)) = false := by decide) (he : starEach (e :: es) X.env = (false, eval e X.env) :: starEach es X.env := by rfl)
    (hpl : ((backTo pos (starEach (e :: es) X.env)).any (·.1) || (backToKw pos (keywordEach kws X.env)).any (·.1.isNone)) = false := by rfl) :
    PE X (.Call (.Name x p) (e :: es) kws pos) (tCallKw sp m ks.length idx E t tk) := by
  refine ⟨fun pins s σ H Q I h => ?_⟩
  refine wpAny_Call_Name_kw (ld_glob I hg T.g ?_ hdb)
  refine PySem.W.callWith_KW (h₀ := X.base) I.ok.mod.kin T.kp hall (thn (ha.run pos pins s σ H _ I h) fun us s1 ⟨vs, H1, I1, r, q⟩ => ?_) hpl he
  refine thn (hkw.run pos pins s1 σ H1 _ I1 q) fun ws s2 ⟨zs, H2, I2, rz, l1, l2, q2⟩ => ⟨I2.kIn, ?_⟩
  rw [hks]
  exact run_kw F hr hb hx I2 r rz l1 l2 q2
theorem pe_callKw0 {idx : List Nat} {sp : Sp} {E : XK} {tk : TA} (F : FnOk X.prog X.w X.K X.mg X.base CX0 k f fd ps sp) (T : TxF X.K X.mg x f fd ps) (hr : Room k X.A) (hb : KwB X.K fd ps 0 ks idx) (hx : Passes CX0 X E)
    (hkw : PK X kws tk) (hg : Gl X x := by rfl) (hall : (backToKw pos (keywordEach kws X.env)).all (·.1.isSome) = true := by rfl) (hks : (backToKw pos (keywordEach kws X.env)).filterMap (·.1) = ks := by rfl)
    (hdb : (x == ("__debug__" : Str)) = false := by decide)
    (hpl : ((backTo pos (starEach [] X.env)).any (·.1) || (backToKw pos (keywordEach kws X.env)).any (·.1.isNone)) = false := by rfl) :
    PE X (.Call (.Name x p) [] kws pos) (tCallKw sp 0 ks.length idx E tNil tk) := by
  refine ⟨fun pins s σ H Q I h => ?_⟩
  refine wpAny_Call_Name_kw (ld_glob I hg T.g ?_ hdb)
  refine PySem.W.callWith_KW0 (h₀ := X.base) I.ok.mod.kin T.kp hall ?_ hpl
  refine thn (hkw.run pos pins s σ H _ I h) fun ws s2 ⟨zs, H2, I2, rz, l1, l2, q2⟩ => ⟨I2.kIn, ?_⟩
  rw [hks]
  exact run_kw (us := []) (vs := []) F hr hb hx I2 .nil rz l1 l2 q2
def dCallKw (n m l : Nat) (φ : Phi) (idx : List Nat) (t tk : TDA) : TDR := fun env st Q => t env st fun ds st1 => tk env st1 fun zs st2 => (ds.length = m ∧ zs.length = l ∧ (pick idx (ds ++ zs)).length = n) ∧ φ (pick idx (ds ++ zs)) st2 Q
theorem lift_kw {K : Frag} {m l : Nat} {idx : List Nat} {t tk : TA} {E : XK} (la : LiftA K t tas) (lk : LiftA K tk tks) : LiftR K (tCallKw (spD K n φ) m l idx E t tk) (dCallKw n m l φ idx tas tks) := by
  intro H0 w σ H env st Q Q' sl so q k
  refine la H0 w σ H env st _ _ sl so q fun w1 H1 vs ds st1 e1 s1 r1 q1 => ?_
  refine lk H0 w1 σ H1 env st1 _ _ (sl.ext e1) s1 q1 fun w2 H2 us zs st2 e2 s2 r2 q2 => ?_
  obtain ⟨⟨l1, l2, l3⟩, q2⟩ := q2
  exact ⟨by rw [← r1.length]; exact l1, by rw [← r2.length]; exact l2, w2, _, st2, Q, l3, s2, ((e2.reps r1).append r2).pick idx, q2, fun w' H' v ev st' x s r q => k w' H' v ev st' ((e1.trans e2).trans x) s (r.up (e1.trans e2)) q⟩
theorem r_callK {m : Nat} {idx : List Nat} (F : FnOk X.prog X.w X.K X.mg X.base CX0 k f fd ps (spD X.K n φ)) (T : TxF X.K X.mg x f fd ps) (hr : Room k X.A) (hb : KwB X.K fd ps m ks idx) (ha : DA X (e :: es) tas) (hk : DKs X kws tks) (hg : Gl X x := by rfl)
    (hall : (backToKw pos (keywordEach kws X.env)).all (·.1.isSome) = true := by rfl) (hks : (backToKw pos (keywordEach kws X.env)).filterMap (·.1) = ks := by rfl) (hdb : (x == ("__debug__" : Str)) = false := by decide) (he : starEach (e :: es) X.env = (false, eval e X.env) :: starEach es X.env := by rfl)
    (hpl : ((backTo pos (starEach (e :: es) X.env)).any (·.1) || (backToKw pos (keywordEach kws X.env)).any (·.1.isNone)) = false := by rfl) : RE X (.Call (.Name x p) (e :: es) kws pos) (dCallKw n m ks.length φ idx tas tks) := by
  obtain ⟨t, pa, la⟩ := ha.ex
  obtain ⟨u, pk, lk⟩ := hk.ex
  exact ⟨_, pe_callKw F T hr hb pass0 pa pk hg hall hks hdb he hpl, lift_kw la lk⟩
theorem r_callK0 {idx : List Nat} (F : FnOk X.prog X.w X.K X.mg X.base CX0 k f fd ps (spD X.K n φ)) (T : TxF X.K X.mg x f fd ps) (hr : Room k X.A) (hb : KwB X.K fd ps 0 ks idx) (hk : DKs X kws tks) (hg : Gl X x := by rfl)
    (hall : (backToKw pos (keywordEach kws X.env)).all (·.1.isSome) = true := by rfl) (hks : (backToKw pos (keywordEach kws X.env)).filterMap (·.1) = ks := by rfl) (hdb : (x == ("__debug__" : Str)) = false := by decide)
    (hpl : ((backTo pos (starEach [] X.env)).any (·.1) || (backToKw pos (keywordEach kws X.env)).any (·.1.isNone)) = false := by rfl) : RE X (.Call (.Name x p) [] kws pos) (dCallKw n 0 ks.length φ idx dNil tks) := by
  obtain ⟨u, pk, lk⟩ := hk.ex
  exact ⟨_, pe_callKw0 F T hr hb pass0 pk hg hall hks hdb hpl, lift_kw (fun H0 w σ H env st Q Q' sl so q k => k w H [] [] st (Ext.refl _ _) so rfl q) lk⟩
end

/-! ### a new list of ints becomes a cell -/
def dCell (t : TDR) : TDR := fun env st Q => t env st fun ev st1 => match ev with
  | .own (.lst ds) => ∃ ns : List Int, ds = ns.map D.int ∧ Q (.dat (.cel st1.length)) (st1 ++ [ns])
  | _ => False
theorem RE.cell (h : RE X e tr) : RE X e (dCell tr) := by
  obtain ⟨t, p, l⟩ := h.ex
  refine ⟨t, p, fun H0 w σ H env st Q Q' sl so q k => l H0 w σ H env st _ Q' sl so q fun w' H' v ev st' x s r q => ?_⟩
  split at q
  · rename_i ds
    obtain ⟨ns, rfl, q⟩ := q
    obtain ⟨p, rfl, hp, hz, hn, vs, hH, hr⟩ := r
    rw [hr.ints_of] at hH
    obtain ⟨m, e1, e2⟩ := x.cl
    refine k ⟨w'.cl ++ [p], w'.Z⟩ H' _ (.dat (.cel st'.length)) _ ⟨x.z, x.fr, x.kp, x.tr, m ++ [p], by rw [e1, List.append_assoc], fun a ha => ?_⟩ ⟨s.sub, fun a ha => ?_, ?_, by simp [s.ln], fun n ms hm => ?_⟩ ⟨p, by rw [s.ln]; simp, rfl⟩ q
    · rcases List.mem_append.mp ha with h | h
      · exact e2 a h
      · rw [List.mem_singleton.mp h]; exact hp
    · rcases List.mem_append.mp ha with h | h
      · exact s.zc a h
      · rw [List.mem_singleton.mp h]; exact hz
    · rw [List.nodup_append]
      exact ⟨s.nd, by simp, fun a ha b hb => by rw [List.mem_singleton.mp hb]; exact fun z => hn (z ▸ ha)⟩
    · by_cases hlt : n < st'.length
      · rw [List.getElem?_append_left hlt] at hm
        obtain ⟨a, ha, hv⟩ := s.at_ n ms hm
        exact ⟨a, by rw [List.getElem?_append_left (by rw [← s.ln]; exact hlt)]; exact ha, hv⟩
      · rw [List.getElem?_append_right (by omega)] at hm
        have hn0 : n - st'.length = 0 := by
          have := (List.getElem?_eq_some_iff.mp hm).1
          simp at this; omega
        rw [hn0] at hm
        have : ns = ms := by simpa using hm
        subst this
        exact ⟨p, by rw [List.getElem?_append_right (by rw [← s.ln]; omega), ← s.ln, hn0]; rfl, hH⟩
  · exact q.elim

/-! ### the slots with their own addresses -/
end
structure SlotsL (K : Frag) (H0 : Hp) (w : Wd) (σ : L2.St) (H : Hp) (env : DEnv) (Ls : Nat → List Addr) : Prop where
  len : env.length = σ.length
  ok : ∀ i ev, env[i]? = some (some ev) → ∃ v, σ[i]? = some (some v) ∧ EvOk K w H v (Ls i) ev ∧ LOk w H0 H (Ls i)
  dj : ∀ i j p, i ≠ j → p ∈ Ls i → p ∉ Ls j
  nl : ∀ j, (∀ ev, env[j]? ≠ some (some ev)) → Ls j = []
section
variable {K : Frag} {w0 w w1 w' : Wd} {H0 H H1 H' : Hp} {st st' : Store} {σ : L2.St} {env : DEnv} {i : Nat} {v : V} {ev : EV} {L : List Addr} {p : Addr} {Ls : Nat → List Addr}
theorem Slots.norm (sl : Slots K H0 w σ H env) : ∃ Ls, SlotsL K H0 w σ H env Ls := by
  obtain ⟨Ls, h, dj⟩ := sl.ok
  refine ⟨fun j => match env[j]? with | some (some _) => Ls j | _ => [], sl.len, fun i ev he => ?_, fun i j p hne hm => ?_, fun j hj => ?_⟩
  · obtain ⟨v, hv, a, b⟩ := h i ev he
    simp only [he]
    exact ⟨v, hv, a, b⟩
  · split at hm
    · split
      · exact dj i j p hne hm
      · simp
    · simp at hm
  · split
    · rename_i ev e; exact absurd e (hj ev)
    · rfl
theorem SlotsL.slots (s : SlotsL K H0 w σ H env Ls) : Slots K H0 w σ H env := ⟨s.len, Ls, s.ok, s.dj⟩
theorem SlotsL.live (s : SlotsL K H0 w σ H env Ls) {j : Nat} (hp : p ∈ Ls j) : H0 p = none ∧ H p ≠ none ∧ w.Z p = none ∧ p ∉ w.cl := by
  by_cases h : ∃ ev, env[j]? = some (some ev)
  · obtain ⟨ev, h⟩ := h
    obtain ⟨v, _, _, l⟩ := s.ok j ev h
    exact l p hp
  · rw [s.nl j fun ev e => h ⟨ev, e⟩] at hp; simp at hp
theorem SlotsL.ext (s : SlotsL K H0 w σ H env Ls) (e : Ext w H w1 H1) : SlotsL K H0 w1 σ H1 env Ls :=
  ⟨s.len, fun i ev he => let ⟨v, hv, hok, hl⟩ := s.ok i ev he; ⟨v, hv, hok.ext hl e, hl.ext e⟩, s.dj, s.nl⟩
theorem SlotsL.put (s : SlotsL K H0 w σ H env Ls) (i : Nat) (ok : EvOk K w H v L ev) (lo : LOk w H0 H L) (hi : i < env.length) (ap : ∀ j, j ≠ i → ∀ p ∈ L, p ∉ Ls j) : SlotsL K H0 w (σ.set i (some v)) H (env.set i (some ev)) (fun j => if j = i then L else Ls j) := by
  refine ⟨by rw [List.length_set, List.length_set]; exact s.len, fun j ev' he => ?_, fun j l q hne hm => ?_, fun j hj => ?_⟩
  · by_cases e : j = i
    · subst e
      rw [List.getElem?_set_self hi] at he
      cases he
      refine ⟨v, by rw [List.getElem?_set_self (by rw [← s.len]; exact hi)], ?_⟩
      simp only [if_pos]
      exact ⟨ok, lo⟩
    · rw [List.getElem?_set_ne (Ne.symm e)] at he
      obtain ⟨v', hv', hok, hl⟩ := s.ok j ev' he
      refine ⟨v', by rw [List.getElem?_set_ne (Ne.symm e)]; exact hv', ?_⟩
      simp only [if_neg e]
      exact ⟨hok, hl⟩
  · by_cases e : j = i
    · rw [if_pos e] at hm
      have hl : l ≠ i := fun z => hne (e.trans z.symm)
      rw [if_neg hl]
      exact ap l hl q hm
    · rw [if_neg e] at hm
      by_cases e2 : l = i
      · rw [if_pos e2]; exact fun hq => ap j e q hq hm
      · rw [if_neg e2]; exact s.dj j l q hne hm
  · by_cases e : j = i
    · subst e; exact absurd (List.getElem?_set_self hi) (hj ev)
    · rw [if_neg e]
      exact s.nl j fun ev' h => hj ev' (by rw [List.getElem?_set_ne (Ne.symm e)]; exact h)
theorem SlotsL.put' (s : SlotsL K H0 w σ H env Ls) (i : Nat) (ok : EvOk K w H v L ev) (lo : LOk w H0 H L) (ap : ∀ j, j ≠ i → ∀ p ∈ L, p ∉ Ls j) : ∃ M, SlotsL K H0 w (σ.set i (some v)) H (env.set i (some ev)) M ∧ ∀ j p, p ∈ M j → p ∈ L ∨ p ∈ Ls j := by
  by_cases hi : i < env.length
  · refine ⟨_, s.put i ok lo hi ap, fun j p hp => ?_⟩
    split at hp
    · exact .inl hp
    · exact .inr hp
  · have hi2 : σ.length ≤ i := by have := s.len; omega
    rw [List.set_eq_of_length_le (show env.length ≤ i by omega), List.set_eq_of_length_le hi2]
    exact ⟨Ls, s, fun j p hp => .inr hp⟩
/-- slot i's own objects change, and only they -/
theorem SlotsL.mut (s : SlotsL K H0 w σ H env Ls) (hi : i < env.length) {ev' : EV} {L' : List Addr} (hv : σ[i]? = some (some v)) (hx : ∀ a, a ∉ Ls i → H' a = H a) (hk : ∀ a, H' a = none → H a = none) (ok : EvOk K w H' v L' ev') (lo : LOk w H0 H' L') (hL : ∀ p ∈ L', p ∈ Ls i) :
    SlotsL K H0 w σ H' (env.set i (some ev')) (fun j => if j = i then L' else Ls j) := by
  refine ⟨by rw [List.length_set]; exact s.len, fun j ev2 he => ?_, fun j l q hne hm => ?_, fun j hj => ?_⟩
  · by_cases e : j = i
    · subst e
      rw [List.getElem?_set_self hi] at he
      cases he
      refine ⟨v, hv, ?_⟩
      simp only [if_pos]
      exact ⟨ok, lo⟩
    · rw [List.getElem?_set_ne (Ne.symm e)] at he
      obtain ⟨v', hv', hok, hl⟩ := s.ok j ev2 he
      refine ⟨v', hv', ?_⟩
      simp only [if_neg e]
      refine ⟨hok.at_ (Same.refl _) (Pre.refl _) fun p hp => hx p (s.dj j i p e hp), fun p hp => ?_⟩
      obtain ⟨a, b, c⟩ := hl p hp
      exact ⟨a, fun z => b (hk p z), c⟩
  · by_cases e : j = i
    · rw [if_pos e] at hm
      have hl : l ≠ i := fun z => hne (e.trans z.symm)
      rw [if_neg hl]
      exact s.dj i l q (Ne.symm hl) (hL q hm)
    · rw [if_neg e] at hm
      by_cases e2 : l = i
      · rw [if_pos e2]; exact fun hq => s.dj j i q e hm (hL q hq)
      · rw [if_neg e2]; exact s.dj j l q hne hm
  · by_cases e : j = i
    · subst e; exact absurd (List.getElem?_set_self hi) (hj ev')
    · rw [if_neg e]
      exact s.nl j fun ev2 h => hj ev2 (by rw [List.getElem?_set_ne (Ne.symm e)]; exact h)
/-- slot i's own objects are frozen -/
theorem SlotsL.frz (s : SlotsL K H0 w σ H env Ls) (he : env[i]? = some (some ev)) : SlotsL K H0 ⟨w.cl, plus w.Z (Ls i) H⟩ σ H (env.set i (some (.dat ev.d))) (fun j => if j = i then [] else Ls j) := by
  obtain ⟨v, hv, hok, hl⟩ := s.ok i ev he
  have hz : ∀ p ∈ Ls i, w.Z p = none := fun p hp => (hl p hp).2.2.1
  have sm : Same w.Z (plus w.Z (Ls i) H) := plus_same hz
  have hi : i < env.length := (List.getElem?_eq_some_iff.mp he).1
  refine ⟨by rw [List.length_set]; exact s.len, fun j ev2 he => ?_, fun j l q hne hm => ?_, fun j hj => ?_⟩
  · by_cases e : j = i
    · subst e
      rw [List.getElem?_set_self hi] at he
      cases he
      refine ⟨v, hv, ?_⟩
      simp only [if_pos]
      exact ⟨⟨rfl, hok.rep hz⟩, fun q hq => by simp at hq⟩
    · rw [List.getElem?_set_ne (Ne.symm e)] at he
      obtain ⟨v', hv', hok', hl'⟩ := s.ok j ev2 he
      refine ⟨v', hv', ?_⟩
      simp only [if_neg e]
      refine ⟨hok'.at_ (w' := ⟨w.cl, plus w.Z (Ls i) H⟩) sm (Pre.refl _) fun p hp => rfl, fun p hp => ?_⟩
      obtain ⟨a, b, c, d⟩ := hl' p hp
      exact ⟨a, b, by show plus w.Z (Ls i) H p = none; rw [plus_out (s.dj j i p e hp)]; exact c, d⟩
  · by_cases e : j = i
    · rw [if_pos e] at hm; simp at hm
    · rw [if_neg e] at hm
      by_cases e2 : l = i
      · rw [if_pos e2]; simp
      · rw [if_neg e2]; exact s.dj j l q hne hm
  · by_cases e : j = i
    · rw [if_pos e]
    · rw [if_neg e]
      exact s.nl j fun ev2 h => hj ev2 (by rw [List.getElem?_set_ne (Ne.symm e)]; exact h)
end
/-- is it one's own -/
def EV.mine : EV → Bool
  | .dat _ => false
  | .lkd _ => false
  | _ => true
section
variable {X : Cx} {e a b c : Expr} {es rest : List Expr} {p pos : Pos} {ta tb tc : TD} {tr : TDR} {tas tks : TDA}
/-! ### a list of one's own is read -/
def dBorrow (i : Nat) (t : TD) : TD := fun env st Q => match env[i]? with
  | some (some ev) => t (env.set i (some (.dat ev.d))) st fun z st1 => (ev.mine = true → z.flat = true) ∧ Q z st1
  | _ => False
theorem EvOk.nil_of {K : Frag} {w : Wd} {H : Hp} {v : V} {L : List Addr} {ev : EV} (h : EvOk K w H v L ev) (m : ¬ ev.mine = true) : L = [] := by
  cases ev with
  | lkd d => exact h.1
  | dat d => exact h.1
  | own d => exact absurd rfl m
  | deep d => exact absurd rfl m
theorem DE.borrow (i : Nat) (h : DE X e ta) : DE X e (dBorrow i ta) := by
  obtain ⟨t, pe, l⟩ := h.ex
  refine ⟨t, pe, fun H0 w σ H env st Q Q' sl so q k => ?_⟩
  unfold dBorrow at q
  split at q
  · rename_i ev he
    obtain ⟨Ls, S⟩ := sl.norm
    obtain ⟨v0, hv, hok, hl⟩ := S.ok i ev he
    have S2 := S.frz he
    refine l H0 ⟨w.cl, plus w.Z (Ls i) H⟩ σ H _ st _ _ S2.slots (sto_plus so fun p hp => (hl p hp).2.2.2) q fun w' H' v z st' x s r q => ?_
    have hzp : ∀ p ∈ Ls i, ∀ o, H p = some o → w'.Z p = some o := fun p hp o ho => x.z p o (by show plus w.Z (Ls i) H p = some o; rw [plus_in hp]; exact ho)
    have hnt : ∀ p ∈ Ls i, ∀ ys, ¬ Rd w'.Z p (.tup ys) := fun p hp ys h => by
      obtain ⟨o, ho, ht⟩ := hok.obj p hp
      have hz := hzp p hp o ho
      rcases h with h | ⟨u, h⟩
      · rw [hz] at h; exact (ht ys default).1 (Option.some.inj h)
      · rw [hz] at h; exact (ht ys u).2 (Option.some.inj h)
    have hrep : Rep X.K w'.cl (minus w'.Z (Ls i)) z v := by
      by_cases m : ev.mine = true
      · exact Rep.less hnt z v (q.1 m) r
      · rw [hok.nil_of m]
        have : minus w'.Z [] = w'.Z := funext fun a => minus_out (by simp)
        rw [this]; exact r
    refine k ⟨w'.cl, minus w'.Z (Ls i)⟩ H' v z st' ⟨fun a u h => ?_, fun a h => ?_, x.kp, x.tr, x.cl⟩ ⟨fun a u h => ?_, fun a h => ?_, s.nd, s.ln, s.at_⟩ hrep q.2
    · show minus w'.Z (Ls i) a = some u
      have hne : a ∉ Ls i := fun hm => by rw [(hl a hm).2.2.1] at h; cases h
      rw [minus_out hne]
      exact x.z a u (by show plus w.Z (Ls i) H a = some u; rw [plus_out hne]; exact h)
    · by_cases e : a ∈ Ls i
      · exact absurd (minus_in e) h
      · have h1 : w'.Z a ≠ none := by rw [show (Wd.mk w'.cl (minus w'.Z (Ls i))).Z a = minus w'.Z (Ls i) a from rfl, minus_out e] at h; exact h
        rcases x.fr a h1 with z | z
        · rw [show (Wd.mk w.cl (plus w.Z (Ls i) H)).Z a = plus w.Z (Ls i) H a from rfl, plus_out e] at z; exact .inl z
        · exact .inr z
    · by_cases e : a ∈ Ls i
      · rw [show (Wd.mk w'.cl (minus w'.Z (Ls i))).Z a = minus w'.Z (Ls i) a from rfl, minus_in e] at h; cases h
      · rw [show (Wd.mk w'.cl (minus w'.Z (Ls i))).Z a = minus w'.Z (Ls i) a from rfl, minus_out e] at h; exact s.sub a u h
    · show minus w'.Z (Ls i) a = none
      by_cases e : a ∈ Ls i
      · exact minus_in e
      · rw [minus_out e]; exact s.zc a h
  · exact q.elim
end
end DL

set_option Elab.async false
set_option linter.all false
set_option maxRecDepth 100000
set_option maxHeartbeats 4000000
/-! DL6: statements. -/
namespace DL
open PySem PySem.Spec L2

/-! ### slots that change -/
section
variable {K : Frag} {w0 w w1 w' : Wd} {H0 H H1 H' : Hp} {st st' : Store} {σ : L2.St} {env : DEnv} {i : Nat} {v : V} {ev : EV} {L : List Addr} {p : Addr}
theorem slots_dat (sl : Slots K H0 w σ H env) (i : Nat) {d : D} (r : Rep K w.cl w.Z d v) : Slots K H0 w (σ.set i (some v)) H (env.set i (some (.dat d))) := by
  obtain ⟨Ls, S⟩ := sl.norm
  by_cases hi : i < env.length
  · exact (S.put i (L := []) (ev := .dat d) ⟨rfl, r⟩ (fun p h => absurd h (by simp)) hi fun j hj p hp => by simp at hp).slots
  · have hi2 : σ.length ≤ i := by have := sl.len; omega
    rw [List.set_eq_of_length_le (show env.length ≤ i by omega), List.set_eq_of_length_le hi2]; exact sl
/-- a result made since H1 is stored -/
theorem slots_res (sl : Slots K H0 w1 σ H1 env) (x0 : Ext w0 H0 w1 H1) (x : Ext w1 H1 w H) (i : Nat) (r : ROk K H1 w H v ev) : Slots K H0 w (σ.set i (some v)) H (env.set i (some ev)) := by
  obtain ⟨Ls, S⟩ := sl.norm
  obtain ⟨L, h, l⟩ := r.ok
  by_cases hi : i < env.length
  · exact ((S.ext x).put i h (fun p hp => let ⟨a, b⟩ := l p hp; ⟨x0.tr p a, b⟩) hi fun j hj p hp hm => (S.live hm).2.1 (l p hp).1).slots
  · have hi2 : σ.length ≤ i := by have := sl.len; omega
    rw [List.set_eq_of_length_le (show env.length ≤ i by omega), List.set_eq_of_length_le hi2]; exact sl.ext x
/-- a slot's own object is changed -/
theorem slots_mut (sl : Slots K H0 w σ H env) {d : D} (he : env[i]? = some (some (.own d))) : ∃ p, σ[i]? = some (some (.ref p)) ∧ H0 p = none ∧ w.Z p = none ∧ p ∉ w.cl ∧ Holds K w H p d ∧
    ∀ o' d', Holds K w (upd H p o') p d' → Slots K H0 w σ (upd H p o') (env.set i (some (.own d'))) := by
  obtain ⟨Ls, S⟩ := sl.norm
  obtain ⟨v, hv, ⟨p, rfl, eL, hh⟩, hl⟩ := S.ok i _ he
  have hp := hl p (by rw [eL]; simp)
  have hi : i < env.length := (List.getElem?_eq_some_iff.mp he).1
  refine ⟨p, hv, hp.1, hp.2.2.1, hp.2.2.2, hh, fun o' d' hd' => (S.mut (L' := [p]) (ev' := .own d') hi hv (fun a ha => ?_) (fun a h => ?_) ⟨p, rfl, rfl, hd'⟩ (fun q hq => ?_) fun q hq => ?_).slots⟩
  · rw [upd_ne (fun z => ha (by rw [eL, z]; simp))]
  · by_cases e : a = p
    · subst e; rw [upd_same] at h; cases h
    · rw [upd_ne e] at h; exact h
  · rw [List.mem_singleton.mp hq]
    exact ⟨hp.1, by rw [upd_same]; exact fun z => (nomatch z), hp.2.2⟩
  · rw [eL]; exact hq
theorem ext_mut {o' : HO} (x0 : Ext w0 H0 w H) (hp : H0 p = none) : Ext w0 H0 w (upd H p o') := by
  refine ⟨x0.z, x0.fr, fun a o h hn => ?_, fun a h => ?_, x0.cl⟩
  · rw [upd_ne (ne_of_none h hp)]; exact x0.kp a o h hn
  · by_cases e : a = p
    · subst e; exact hp
    · rw [upd_ne e] at h; exact x0.tr a h
theorem sto_mut {o' : HO} (s : Sto w H st) (hz : w.Z p = none) (hn : p ∉ w.cl) : Sto w (upd H p o') st := by
  refine ⟨fun a u h => ?_, s.zc, s.nd, s.ln, fun n ns h => ?_⟩
  · rw [upd_ne (ne_of_none h hz)]; exact s.sub a u h
  · obtain ⟨a, e1, e2⟩ := s.at_ n ns h
    have : a ≠ p := fun z => hn (by rw [← z]; exact List.mem_of_getElem? e1)
    exact ⟨a, e1, by rw [upd_ne this]; exact e2⟩
end

/-! ### the judgement -/
structure Rel (K : Frag) (w0 : Wd) (H0 : Hp) (w : Wd) (σ : L2.St) (H : Hp) (env : DEnv) (st : Store) : Prop where
  x : Ext w0 H0 w H
  s : Sto w H st
  sl : Slots K H0 w σ H env
structure Le (w w' : Wd) : Prop where
  z : Same w.Z w'.Z
  c : Pre w.cl w'.cl
theorem Le.refl (w : Wd) : Le w w := ⟨Same.refl _, Pre.refl _⟩
theorem Le.trans {a b c : Wd} (h : Le a b) (g : Le b c) : Le a c := ⟨h.z.trans g.z, h.c.trans g.c⟩
theorem Ext.le {w w' : Wd} {H H' : Hp} (x : Ext w H w' H') : Le w w' := ⟨x.z, x.pre⟩
theorem Le.rep {K : Frag} {w w' : Wd} {d : D} {v : V} (x : Le w w') (h : Rep K w.cl w.Z d v) : Rep K w'.cl w'.Z d v := Rep.mono x.z x.c d v h
theorem Le.reps {K : Frag} {w w' : Wd} {d : List D} {v : List V} (x : Le w w') (h : Reps K w.cl w.Z d v) : Reps K w'.cl w'.Z d v := Reps.mono x.z x.c d v h
theorem Rel.ext {K : Frag} {w0 w w' : Wd} {H0 H H' : Hp} {σ : L2.St} {env : DEnv} {st st' : Store} (r : Rel K w0 H0 w σ H env st) (x : Ext w H w' H') (s : Sto w' H' st') : Rel K w0 H0 w' σ H' env st' := ⟨r.x.trans x, s, r.sl.ext x⟩
structure DEnds where
  nx : DEnv → Store → Prop
  rt : EV → Store → Prop
  bk : DEnv → Store → Prop := fun _ _ => False
  ct : DEnv → Store → Prop := fun _ _ => False
abbrev TDS := DEnds → DEnv → Store → Prop
structure EndsOk (K : Frag) (w0 : Wd) (H0 : Hp) (w : Wd) (D : Ends) (D' : DEnds) : Prop where
  nx : ∀ w' σ' H' env' st', Le w w' → Rel K w0 H0 w' σ' H' env' st' → D'.nx env' st' → D.nx σ' H'
  rt : ∀ w' H' v ev st', Ext w0 H0 w' H' → Sto w' H' st' → ROk K H0 w' H' v ev → D'.rt ev st' → D.rt v H'
  bk : ∀ w' σ' H' env' st', Le w w' → Rel K w0 H0 w' σ' H' env' st' → D'.bk env' st' → D.bk σ' H'
  ct : ∀ w' σ' H' env' st', Le w w' → Rel K w0 H0 w' σ' H' env' st' → D'.ct env' st' → D.ct σ' H'
theorem EndsOk.le {K : Frag} {w0 w w' : Wd} {H0 : Hp} {D : Ends} {D' : DEnds} (e : EndsOk K w0 H0 w D D') (l : Le w w') : EndsOk K w0 H0 w' D D' :=
  ⟨fun w2 σ H env st l2 => e.nx w2 σ H env st (l.trans l2), e.rt, fun w2 σ H env st l2 => e.bk w2 σ H env st (l.trans l2), fun w2 σ H env st l2 => e.ct w2 σ H env st (l.trans l2)⟩
def LiftS (K : Frag) (t : TS) (td : TDS) : Prop := ∀ (w0 : Wd) (H0 : Hp) (w : Wd) (σ : L2.St) (H : Hp) (env : DEnv) (st : Store) (D : Ends) (D' : DEnds), Rel K w0 H0 w σ H env st → td D' env st → EndsOk K w0 H0 w D D' → t D σ H
structure DS (X : Cx) (s : Stmt) (td : TDS) : Prop where ex : ∃ t, PS X s t ∧ LiftS X.K t td
structure DSs (X : Cx) (ss : List Stmt) (td : TDS) : Prop where ex : ∃ t, PSs X ss t ∧ LiftS X.K t td
abbrev TDG := D → DEnv → Store → (DEnv → Store → Prop) → Prop
abbrev TDGs := List D → DEnv → Store → (DEnv → Store → Prop) → Prop
def LiftG (K : Frag) (g : TG) (gd : TDG) : Prop := ∀ (w0 : Wd) (H0 : Hp) (w : Wd) (σ : L2.St) (H : Hp) (env : DEnv) (st : Store) (d : D) (v : V) (Q : DEnv → Store → Prop) (Q' : L2.St → Hp → Prop), Rel K w0 H0 w σ H env st → Rep K w.cl w.Z d v → gd d env st Q →
  (∀ w' σ' H' env' st', Le w w' → Rel K w0 H0 w' σ' H' env' st' → Q env' st' → Q' σ' H') → g v σ H Q'
def LiftGs (K : Frag) (g : TGs) (gd : TDGs) : Prop := ∀ (w0 : Wd) (H0 : Hp) (w : Wd) (σ : L2.St) (H : Hp) (env : DEnv) (st : Store) (d : List D) (v : List V) (Q : DEnv → Store → Prop) (Q' : L2.St → Hp → Prop), Rel K w0 H0 w σ H env st → Reps K w.cl w.Z d v → gd d env st Q →
  (∀ w' σ' H' env' st', Le w w' → Rel K w0 H0 w' σ' H' env' st' → Q env' st' → Q' σ' H') → g v σ H Q'
structure DG (X : Cx) (tg : Expr) (gd : TDG) : Prop where ex : ∃ g, PG X tg g ∧ LiftG X.K g gd
structure DGs (X : Cx) (tgs : List Expr) (gd : TDGs) : Prop where ex : ∃ g, PGs X tgs g ∧ LiftGs X.K g gd

section
variable {X : Cx} {s : Stmt} {rest : List Stmt} {e a b c : Expr} {pos : Pos} {t u : TDS} {ta tb : TD} {tr tr2 : TDR} {tt : TDT}
/-! ### blocks -/
def sNext : TDS := fun D env st => D.nx env st
def sSeq (t u : TDS) : TDS := fun D env st => t { D with nx := u D } env st
theorem LiftS.seq {K : Frag} {f g : TS} (h1 : LiftS K f t) (h2 : LiftS K g u) : LiftS K (tSeq f g) (sSeq t u) := by
  intro w0 H0 w σ H env st D D' r q k
  refine h1 w0 H0 w σ H env st _ _ r q ⟨fun w' σ' H' env' st' l r' q' => ?_, k.rt, k.bk, k.ct⟩
  exact h2 w0 H0 w' σ' H' env' st' D D' r' q' (k.le l)
theorem ss_nil : DSs X [] sNext := ⟨_, pss_nil, fun w0 H0 w σ H env st D D' r q k => k.nx w σ H env st (Le.refl w) r q⟩
theorem ss_cons (h1 : DS X s t) (h2 : DSs X rest u) : DSs X (s :: rest) (sSeq t u) := by
  obtain ⟨f, p, l⟩ := h1.ex
  obtain ⟨g, p2, l2⟩ := h2.ex
  exact ⟨_, pss_cons p p2, l.seq l2⟩
theorem ss_one (h1 : DS X s t) : DSs X [s] t := by
  obtain ⟨f, p, l⟩ := h1.ex
  exact ⟨_, pss_one p, l⟩
def sNever : TDS := fun _ _ _ => False
theorem s_never : DS X s sNever := ⟨_, ps_never, fun w0 H0 w σ H env st D D' r q k => q.elim⟩
theorem ss_never : DSs X rest sNever := ⟨_, pss_never, fun w0 H0 w σ H env st D D' r q k => q.elim⟩
theorem s_pass : DS X (.Pass pos) sNext := ⟨_, ps_pass, fun w0 H0 w σ H env st D D' r q k => k.nx w σ H env st (Le.refl w) r q⟩
def sBreak : TDS := fun D env st => D.bk env st
def sCont : TDS := fun D env st => D.ct env st
theorem s_break : DS X (.Break pos) sBreak := ⟨_, ps_break, fun w0 H0 w σ H env st D D' r q k => k.bk w σ H env st (Le.refl w) r q⟩
theorem s_continue : DS X (.Continue pos) sCont := ⟨_, ps_continue, fun w0 H0 w σ H env st D D' r q k => k.ct w σ H env st (Le.refl w) r q⟩
/-- ahead of a statement the slot i's own object is frozen -/
def sFrz (i : Nat) (t : TDS) : TDS := fun D env st => match env[i]? with
  | some (some ev) => t D (env.set i (some (.dat ev.d))) st
  | _ => False
theorem rel_freeze {K : Frag} {w0 w : Wd} {H0 H : Hp} {σ : L2.St} {env : DEnv} {st : Store} {i : Nat} {ev : EV} (r : Rel K w0 H0 w σ H env st) (he : env[i]? = some (some ev)) : ∃ w', Le w w' ∧ Rel K w0 H0 w' σ H (env.set i (some (.dat ev.d))) st := by
  obtain ⟨Ls, S⟩ := r.sl.norm
  obtain ⟨v, hv, hok, hl⟩ := S.ok i ev he
  exact ⟨⟨w.cl, plus w.Z (Ls i) H⟩, ⟨plus_same fun p hp => (hl p hp).2.2.1, Pre.refl _⟩, ext_plus r.x fun p hp => ⟨(hl p hp).1, (hl p hp).2.2.1⟩, sto_plus r.s fun p hp => (hl p hp).2.2.2, (S.frz he).slots⟩
theorem LiftS.frz {K : Frag} {f : TS} (i : Nat) (h : LiftS K f t) : LiftS K f (sFrz i t) := by
  intro w0 H0 w σ H env st D D' r q k
  unfold sFrz at q
  split at q
  · rename_i ev he
    obtain ⟨w', l, r'⟩ := rel_freeze r he
    exact h w0 H0 w' σ H _ st D D' r' q (k.le l)
  · exact q.elim
theorem DS.frz (i : Nat) (h : DS X s t) : DS X s (sFrz i t) := by
  obtain ⟨f, p, l⟩ := h.ex
  exact ⟨f, p, l.frz i⟩
theorem DSs.frz (i : Nat) (h : DSs X rest t) : DSs X rest (sFrz i t) := by
  obtain ⟨f, p, l⟩ := h.ex
  exact ⟨f, p, l.frz i⟩

/-! ### small statements -/
def sDrop (t : TD) : TDS := fun D env st => t env st fun _ st1 => D.nx env st1
theorem s_expr (he : DE X e ta) (hs : swapsWith e none pos.line X.env = pure false := by rfl) : DS X (.Expr e pos) (sDrop ta) := by
  obtain ⟨f, p, l⟩ := he.ex
  exact ⟨_, ps_expr p hs, fun w0 H0 w σ H env st D D' r q k => l H0 w σ H env st _ _ r.sl r.s q fun w' H' v d st' x s _ q => k.nx w' σ H' env st' x.le (r.ext x s) q⟩
def sRet (t : TDR) : TDS := fun D env st => t env st D.rt
theorem s_ret (he : RE X e tr) : DS X (.Return (some e) pos) (sRet tr) := by
  obtain ⟨f, p, l⟩ := he.ex
  exact ⟨_, ps_ret p, fun w0 H0 w σ H env st D D' r q k => l H0 w σ H env st _ _ r.sl r.s q fun w' H' v ev st' x s r' q => k.rt w' H' v ev st' (r.x.trans x) s (r'.up r.x) q⟩
def sRetN : TDS := fun D env st => D.rt (.dat .non) st
theorem s_retN : DS X (.Return none pos) sRetN := ⟨_, ps_retN, fun w0 H0 w σ H env st D D' r q k => k.rt w H .non (.dat .non) st r.x r.s rfl q⟩
/-- return x, x a slot: its own object goes out -/
def sRetV (i : Nat) : TDS := fun D env st => match env[i]? with | some (some (.lkd _)) => False | some (some ev) => D.rt ev st | _ => False
theorem s_retV (i : Nat) {x : Str} {px : Pos} (hN : X.N[i]? = some x := by rfl) (hv : Vis X.env.scope x := by first | exact Or.inl rfl | exact Or.inr (Or.inl rfl) | exact Or.inr (Or.inr rfl)) (hd : (x == ("__debug__" : Str)) = false := by decide)
    (hcd : (x == ("__classdict__" : Str)) = false := by decide) : DS X (.Return (some (.Name x px)) pos) (sRetV i) := by
  refine ⟨_, ps_ret (pe_var hN hv hd hcd), fun w0 H0 w σ H env st D D' r q k => ?_⟩
  unfold sRetV at q
  split at q
  · exact q.elim
  · rename_i ev hne he
    obtain ⟨Ls, h, _⟩ := r.sl.ok
    obtain ⟨v, hv, hok, hl⟩ := h i _ he
    exact ⟨v, hv, k.rt w H v ev st r.x r.s (.of hok hl (by cases ev with | lkd d => exact absurd rfl (hne d) | _ => rfl)) q⟩
  · exact q.elim
def sIf (c : TDT) (t u : TDS) : TDS := fun D env st => c env st fun b st1 => if b = true then t D env st1 else u D env st1
theorem s_if {xs ys : List Stmt} (hc : DT X c tt) (ha : DSs X xs t) (hb : DSs X ys u) : DS X (.If c xs ys pos) (sIf tt t u) := by
  obtain ⟨f, p, l⟩ := hc.ex
  obtain ⟨g, p2, l2⟩ := ha.ex
  obtain ⟨h, p3, l3⟩ := hb.ex
  refine ⟨_, ps_if p p2 p3, fun w0 H0 w σ H env st D D' r q k => l H0 w σ H env st _ _ r.sl r.s q fun w' H' b st' x s q => ?_⟩
  cases b with
  | true =>
    rw [if_pos rfl] at q ⊢
    exact l2 w0 H0 w' σ H' env st' D D' (r.ext x s) q (k.le x.le)
  | false =>
    rw [if_neg Bool.false_ne_true] at q ⊢
    exact l3 w0 H0 w' σ H' env st' D D' (r.ext x s) q (k.le x.le)

/-! ### targets -/
def gdName (i : Nat) : TDG := fun d env st Q => Q (env.set i (some (.dat d))) st
def gdNil : TDGs := fun ds env st Q => ds = [] ∧ Q env st
def gdCons (t : TDG) (u : TDGs) : TDGs := fun ds env st Q => match ds with | d :: r => t d env st fun env1 st1 => u r env1 st1 Q | _ => False
def gdTup (n : Nat) (t : TDGs) : TDG := fun d env st Q => match d with | .tup ds => ds.length = n ∧ t ds env st Q | _ => False
theorem liftg_name {K : Frag} (i : Nat) : LiftG K (gName i) (gdName i) := fun w0 H0 w σ H env st d v Q Q' r rd q k => k w _ H _ st (Le.refl w) ⟨r.x, r.s, slots_dat r.sl i rd⟩ q
theorem g_name {i : Nat} {x : Str} (hN : X.N.Nodup) (hi : X.N[i]? = some x := by rfl) (hx : Loc X.env.scope x := by first | exact Or.inl rfl | exact Or.inr rfl) (hf : X.fn x = true ∨ X.env.scope.names.lookup x = some .local := by first | exact .inl rfl | exact .inr rfl | assumption) :
    DG X (.Name x pos) (gdName i) := ⟨_, pg_name hN hi hx hf, liftg_name i⟩
theorem gs_nil : DGs X [] gdNil := ⟨_, pgs_nil, fun w0 H0 w σ H env st d v Q Q' r rd q k => by
  obtain ⟨rfl, q⟩ := q
  exact ⟨rd, k w σ H env st (Le.refl w) r q⟩⟩
theorem gs_cons {es : List Expr} {g : TDG} {gs : TDGs} (h1 : DG X e g) (h2 : DGs X es gs) (hs : (assignEach (e :: es) X.env).map (·.2) = assign e X.env :: (assignEach es X.env).map (·.2) := by rfl) : DGs X (e :: es) (gdCons g gs) := by
  obtain ⟨f, p, l⟩ := h1.ex
  obtain ⟨f2, p2, l2⟩ := h2.ex
  refine ⟨_, pgs_cons p p2 hs, fun w0 H0 w σ H env st d v Q Q' r rd q k => ?_⟩
  unfold gdCons at q
  split at q
  · rename_i d ds
    obtain ⟨v0, vr, rfl, r1, r2⟩ := rd
    refine ⟨v0, vr, rfl, l w0 H0 w σ H env st d v0 _ _ r r1 q fun w' σ' H' env' st' x r' q => ?_⟩
    exact l2 w0 H0 w' σ' H' env' st' ds vr Q Q' r' (x.reps r2) q fun w2 σ2 H2 env2 st2 x2 => k w2 σ2 H2 env2 st2 (x.trans x2)
  · exact q.elim
theorem g_tup {es : List Expr} {k n : Nat} {gs : TDGs} (h : DGs X es gs) (hc : X.calm = true := by rfl) (hn : (assignEach es X.env).length = n := by rfl) (hst : (assignEach es X.env).findIdx? (·.1) = none := by rfl) : DG X (.Tuple es k pos) (gdTup n gs) := by
  obtain ⟨f, p, l⟩ := h.ex
  refine ⟨_, pg_tup hc p hn hst, fun w0 H0 w σ H env st d v Q Q' r rd q k => ?_⟩
  unfold gdTup at q
  split at q
  · rename_i ds
    obtain ⟨a, vs, rfl, ha, rs⟩ := rd
    exact ⟨a, vs, rfl, Same.seqT r.s.sub ha, by rw [← rs.length]; exact q.1, l w0 H0 w σ H env st ds vs Q Q' r rs q.2 k⟩
  · exact q.elim
/-- found[k] = d, found a list of one's own -/
def gdSub (i : Nat) (ti : TD) : TDG := fun d env st Q => match env[i]? with
  | some (some (.own (.lst xs))) => ti env st fun z st1 => (match z with | .int k => ∃ j, ixN xs.length k = some j ∧ Q (env.set i (some (.own (.lst (xs.set j d))))) st1 | _ => False)
  | _ => False
theorem g_sub (i : Nat) {x : Str} {px : Pos} (hi : DE X a ta) (hN : X.N[i]? = some x := by rfl) (hv : Vis X.env.scope x := by first | exact Or.inl rfl | exact Or.inr (Or.inl rfl) | exact Or.inr (Or.inr rfl)) (hd : (x == ("__debug__" : Str)) = false := by decide)
    (hcd : (x == ("__classdict__" : Str)) = false := by decide) (hA : ∀ v, assign (.Subscript (.Name x px) a pos) X.env v = (do
      let ov ← holding [v] (eval (.Name x px) X.env)
      let iv ← holding [v, ov] (eval a X.env)
      standAt pos
      holding [v, ov, iv] (setItem ov iv v)
      release [v, ov, iv] []) := by intro _; rfl) : DG X (.Subscript (.Name x px) a pos) (gdSub i ta) := by
  obtain ⟨f, p, l⟩ := hi.ex
  refine ⟨_, pg_sub (pe_var hN hv hd hcd) p set_list hA, fun w0 H0 w σ H env st d v Q Q' r rd q k => ?_⟩
  unfold gdSub at q
  split at q
  · rename_i xs he
    obtain ⟨p0, hσ, _⟩ := slots_mut r.sl he
    refine ⟨.ref p0, hσ, l H0 w σ H env st _ _ r.sl r.s q fun w' H' v' z st' x s rz q => ?_⟩
    split at q
    · rename_i n
      obtain ⟨j, hj, q⟩ := q
      obtain rfl : v' = .int n := rz
      obtain ⟨p1, hσ1, hp0, hz, hn, ⟨vs, hH, rs⟩, hm⟩ := slots_mut (r.sl.ext x) he
      rw [hσ] at hσ1
      cases hσ1
      refine ⟨p0, vs, n, j, rfl, rfl, hH, by rw [← rs.length]; exact hj, ?_⟩
      exact k w' σ _ _ st' x.le ⟨ext_mut (r.x.trans x) hp0, sto_mut s hz hn, hm _ (.lst (xs.set j d)) ⟨_, upd_same, rs.set j (x.rep rd)⟩⟩ q
    · exact q.elim
  · exact q.elim
def sAsg (t : TD) (g : TDG) : TDS := fun D env st => t env st fun d st1 => g d env st1 D.nx
theorem s_asg {tg : Expr} {g : TDG} (he : DE X e ta) (hg : DG X tg g) (hs : swapsWithSole [tg] e pos.line X.env = pure false := by rfl) (hw : swappedStores [tg] e X.env = pure none := by rfl)
    (h1 : (assignEach [tg] X.env).map (·.2) = [assign tg X.env] := by rfl) : DS X (.Assign [tg] e pos) (sAsg ta g) := by
  obtain ⟨f, p, l⟩ := he.ex
  obtain ⟨f2, p2, l2⟩ := hg.ex
  refine ⟨_, ps_asg p p2 hs hw h1, fun w0 H0 w σ H env st D D' r q k => l H0 w σ H env st _ _ r.sl r.s q fun w' H' v d st' x s rd q => ?_⟩
  exact l2 w0 H0 w' σ H' env st' d v _ _ (r.ext x s) rd q fun w2 σ2 H2 env2 st2 x2 r2 q => k.nx w2 σ2 H2 env2 st2 (x.le.trans x2) r2 q
/-- x = e -/
def sSet (i : Nat) (t : TDR) : TDS := fun D env st => t env st fun ev st1 => D.nx (env.set i (some ev)) st1
theorem lifts_set {K : Frag} {te : TE} (i : Nat) (l : LiftR K te tr) : LiftS K (tAsg te (gName i)) (sSet i tr) :=
  fun w0 H0 w σ H env st D D' r q k => l H0 w σ H env st _ _ r.sl r.s q fun w' H' v ev st' x s rv q => k.nx w' _ H' _ st' x.le ⟨r.x.trans x, s, slots_res r.sl r.x x i rv⟩ q
theorem s_set (i : Nat) {x : Str} {px : Pos} (hN : X.N.Nodup) (he : RE X e tr) (hi : X.N[i]? = some x := by rfl) (hx : Loc X.env.scope x := by first | exact Or.inl rfl | exact Or.inr rfl) (hs : swapsWith e (some (.Name x px)) pos.line X.env = pure false := by rfl)
    (hf : X.fn x = true ∨ X.env.scope.names.lookup x = some .local := by first | exact .inl rfl | exact .inr rfl | assumption) : DS X (.Assign [.Name x px] e pos) (sSet i tr) := by
  obtain ⟨f, p, l⟩ := he.ex
  exact ⟨_, ps_set hN hi hx p hs hf, lifts_set i l⟩
/-- x, y = a, b, two local names -/
def sPar (i j : Nat) (t u : TDR) : TDS := fun D env st => t env st fun e1 st1 => u env st1 fun e2 st2 => D.nx ((env.set i (some e1)).set j (some e2)) st2
theorem s_par (i j : Nat) {x y : Str} {px py pt pt2 : Pos} {kt k2 : Nat} (hN : X.N.Nodup) (ha : RE X a tr) (hb : RE X b tr2) (hij : i ≠ j := by decide) (hi : X.N[i]? = some x := by rfl) (hj : X.N[j]? = some y := by rfl) (hc : X.calm = true := by rfl)
    (hx : X.env.scope.names.lookup x = some .local := by rfl) (hy : X.env.scope.names.lookup y = some .local := by rfl)
    (hw : swappedStores [.Tuple [.Name x px, .Name y py] kt pt] (.Tuple [a, b] k2 pt2) X.env = pure (some [x, y]) := by rfl)
    (hs : swapsWithSole [.Tuple [.Name x px, .Name y py] kt pt] (.Tuple [a, b] k2 pt2) pos.line X.env = pure false := by rfl)
    (h1 : starEach [a, b] X.env = (false, eval a X.env) :: starEach [b] X.env := by rfl) (h3 : starEach [b] X.env = (false, eval b X.env) :: starEach [] X.env := by rfl) :
    DS X (.Assign [.Tuple [.Name x px, .Name y py] kt pt] (.Tuple [a, b] k2 pt2) pos) (sPar i j tr tr2) := by
  obtain ⟨f, p, l⟩ := ha.ex
  obtain ⟨f2, p2, l2⟩ := hb.ex
  refine ⟨_, ps_par hc hN hi hj hij hx hy (pa_cons p (pa_cons p2 pa_nil h3) h1) hw hs, fun w0 H0 w σ H env st D D' r q k => ?_⟩
  refine l H0 w σ H env st _ _ r.sl r.s q fun w1 H1 v1 ev1 st1 x1 s1 rv1 q1 => ?_
  refine l2 H0 w1 σ H1 env st1 _ _ (r.sl.ext x1) s1 q1 fun w2 H2 v2 ev2 st2 x2 s2 rv2 q2 => ?_
  refine ⟨v1, v2, rfl, k.nx w2 _ H2 _ st2 (x1.le.trans x2.le) ⟨(r.x.trans x1).trans x2, s2, ?_⟩ q2⟩
  obtain ⟨Ls, S⟩ := r.sl.norm
  obtain ⟨L1, h1, l1⟩ := rv1.ok
  obtain ⟨L2, h2, l2⟩ := rv2.ok
  obtain ⟨M, SA, hM⟩ := ((S.ext x1).ext x2).put' i (h1.ext l1 x2) (fun p hp => let ⟨a, b⟩ := (l1.ext x2) p hp; ⟨r.x.tr p a, b⟩) fun j hj p hp hm => (S.live hm).2.1 (l1 p hp).1
  obtain ⟨M2, SB, _⟩ := SA.put' j h2 (fun p hp => let ⟨a, b⟩ := l2 p hp; ⟨(r.x.trans x1).tr p a, b⟩) fun l hl p hp hm => by
    rcases hM l p hm with h | h
    · exact (l1 p h).2.1 (l2 p hp).1
    · exact ((S.ext x1).live h).2.1 (l2 p hp).1
  exact SB.slots
/-- x += e, ints -/
def sAug (i : Nat) (g : Int → Int → Int) (t : TD) : TDS := fun D env st => match env[i]? with
  | some (some (.dat (.int m))) => t env st fun d st1 => (match d with | .int n => D.nx (env.set i (some (.dat (.int (g m n))))) st1 | _ => False)
  | _ => False
theorem s_aug (i : Nat) {x : Str} {px : Pos} {op : Operator} {g : Int → Int → Int} (ho : PIp X op (ipI g)) (hN : X.N.Nodup) (he : DE X e ta) (hi : X.N[i]? = some x := by rfl) (hx : Loc X.env.scope x := by first | exact Or.inl rfl | exact Or.inr rfl)
    (hf : X.fn x = true ∨ X.env.scope.names.lookup x = some .local := by first | exact .inl rfl | exact .inr rfl | assumption) : DS X (.AugAssign (.Name x px) op e pos) (sAug i g ta) := by
  obtain ⟨f, p, l⟩ := he.ex
  refine ⟨_, ps_aug hN hi hx p ho hf, fun w0 H0 w σ H env st D D' r q k => ?_⟩
  unfold sAug at q
  split at q
  · rename_i m hm
    obtain ⟨Ls, h, _⟩ := r.sl.ok
    obtain ⟨v, hv, ⟨_, hr⟩, _⟩ := h i _ hm
    obtain rfl : v = .int m := hr
    refine ⟨.int m, hv, l H0 w σ H env st _ _ r.sl r.s q fun w' H' v' d st' x s rd q => ?_⟩
    split at q
    · rename_i n
      obtain rfl : v' = .int n := rd
      exact ⟨m, n, rfl, rfl, k.nx w' _ H' _ st' x.le ⟨r.x.trans x, s, slots_dat (r.sl.ext x) i (d := .int (g m n)) rfl⟩ q⟩
    · exact q.elim
  · exact q.elim
/-- x.append(e), x a list of one's own -/
def sApp (i : Nat) (t : TD) : TDS := fun D env st => match env[i]? with
  | some (some (.own (.lst xs))) => t env st fun d st1 => xs.length < sizeLine ∧ D.nx (env.set i (some (.own (.lst (xs ++ [d]))))) st1
  | _ => False
theorem s_app (i : Nat) {x : Str} {px pa pc : Pos} (he : DE X e ta) (hN : X.N[i]? = some x := by rfl) (hv : Vis X.env.scope x := by first | exact Or.inl rfl | exact Or.inr (Or.inl rfl) | exact Or.inr (Or.inr rfl)) (hd : (x == ("__debug__" : Str)) = false := by decide)
    (hcd : (x == ("__classdict__" : Str)) = false := by decide) (h1 : starEach [e] X.env = (false, eval e X.env) :: starEach [] X.env := by rfl)
    (hb : attributeBase (.Name x px) "append" X.env (eval (.Name x px) X.env) = eval (.Name x px) X.env := by rfl)
    (hfew : ((backTo pc (starEach [e] X.env)).all (fun x => !x.1) && (backToKw pc (keywordEach [] X.env)).all (fun x => x.1.isSome)
      && decide (([e] : List Expr).length + ([] : List Keyword).length + (if ([] : List Keyword).isEmpty then 0 else 1) < 30)) = true := by rfl) (hl : (pa.endLine == pc.line) = true := by rfl) (hp : (backTo pc (starEach [] X.env)).any (·.1) = false := by rfl)
    (hs : swapsWith (.Call (.Attribute (.Name x px) "append" pa) [e] [] pc) none pos.line X.env = pure false := by rfl) : DS X (.Expr (.Call (.Attribute (.Name x px) "append" pa) [e] [] pc) pos) (sApp i ta) := by
  obtain ⟨f, p, l⟩ := he.ex
  refine ⟨_, ps_expr (pe_bm PySem.F.plainAttrs_list PySem.F.slot_list_append PySem.F.type_list_append mt_append (pe_var hN hv hd hcd) (pa_cons p pa_nil h1) hb hfew hl h1 hp) hs, fun w0 H0 w σ H env st D D' r q k => ?_⟩
  unfold sApp at q
  split at q
  · rename_i xs he
    obtain ⟨p0, hσ, hp0, hz, hn, ⟨vs, hH, rs⟩, hm⟩ := slots_mut r.sl he
    refine ⟨.ref p0, hσ, .inl ⟨rfl, vs, .of hH⟩, l H0 w σ H env st _ _ r.sl r.s q fun w' H' v' d st' x s rd q => ?_⟩
    obtain ⟨p1, hσ1, hp0, hz, hn, ⟨vs', hH', rs'⟩, hm⟩ := slots_mut (r.sl.ext x) he
    rw [hσ] at hσ1
    cases hσ1
    refine ⟨p0, vs', v', rfl, rfl, hH', by rw [← rs'.length]; exact q.1, ?_⟩
    exact k.nx w' σ _ _ st' x.le ⟨ext_mut (r.x.trans x) hp0, sto_mut s hz hn, hm _ (.lst (xs ++ [d])) ⟨_, upd_same, rs'.append (.cons rd rfl)⟩⟩ q.2
  · exact q.elim
end
end DL

set_option Elab.async false
set_option linter.all false
set_option maxRecDepth 100000
set_option maxHeartbeats 4000000
/-! DL7: what is walked; for, while, comprehensions; a def's promise from its body. -/
namespace DL
open PySem PySem.Spec L2

/-! ### canonical readings -/
def canE (K : Frag) (td : TD) : TE := fun σ H Q' => ∃ (H0 : Hp) (w : Wd) (env : DEnv) (st : Store) (Q : D → Store → Prop), Slots K H0 w σ H env ∧ Sto w H st ∧ td env st Q ∧ ∀ w' H' v d st', Ext w H w' H' → Sto w' H' st' → Rep K w'.cl w'.Z d v → Q d st' → Q' v H'
def canT (K : Frag) (td : TDT) : TT := fun σ H Q' => ∃ (H0 : Hp) (w : Wd) (env : DEnv) (st : Store) (Q : Bool → Store → Prop), Slots K H0 w σ H env ∧ Sto w H st ∧ td env st Q ∧ ∀ w' H' b st', Ext w H w' H' → Sto w' H' st' → Q b st' → Q' b H'
theorem DE.can {X : Cx} {e : Expr} {td : TD} (h : DE X e td) : PE X e (canE X.K td) := by
  obtain ⟨t, p, l⟩ := h.ex
  refine ⟨fun pins s σ H Q' I q => ?_⟩
  obtain ⟨H0, w, env, st, Q, sl, so, q, k⟩ := q
  exact p.run pins s σ H Q' I (l H0 w σ H env st Q Q' sl so q k)
theorem DT.can {X : Cx} {e : Expr} {td : TDT} (h : DT X e td) : PT X e (canT X.K td) := by
  obtain ⟨t, p, l⟩ := h.ex
  refine ⟨fun pins s σ H Q' I q => ?_⟩
  obtain ⟨H0, w, env, st, Q, sl, so, q, k⟩ := q
  exact p.run pins s σ H Q' I (l H0 w σ H env st Q Q' sl so q k)
theorem lift_canE {K : Frag} {td : TD} : LiftE K (canE K td) td := fun H0 w σ H env st Q Q' sl so q k => ⟨H0, w, env, st, Q, sl, so, q, k⟩
theorem lift_canT {K : Frag} {td : TDT} : LiftT K (canT K td) td := fun H0 w σ H env st Q Q' sl so q k => ⟨H0, w, env, st, Q, sl, so, q, k⟩

/-! ### what is walked -/
abbrev TDI := DEnv → Store → (List D → Store → Prop) → Prop
def Feeds (K : Frag) (w1 : Wd) (J : It) (ds : List D) : Prop := ∀ (w : Wd) (H : Hp) (st : Store), Le w1 w → Sto w H st →
  (∀ (i : Nat) (d : D), ds[i]? = some d → J.go i H ∧ ∀ x H', J.yld i H x H' → ∃ w', Ext w H w' H' ∧ Sto w' H' st ∧ Rep K w'.cl w'.Z d x) ∧ J.stop ds.length H
def LiftI (K : Frag) (wi : TI) (td : TDI) : Prop := ∀ (H0 : Hp) (w : Wd) (σ : L2.St) (H : Hp) (env : DEnv) (st : Store) (Q : List D → Store → Prop) (R : It → Hp → Prop),
  Slots K H0 w σ H env → Sto w H st → td env st Q → (∀ w' H' st' ds J, Ext w H w' H' → Sto w' H' st' → Feeds K w' J ds → Q ds st' → R J H') → wi σ H R
structure DI (X : Cx) (tg e : Expr) (td : TDI) : Prop where ex : ∃ wi, PI X tg e wi ∧ LiftI X.K wi td

theorem feeds_of {K : Frag} {w1 : Wd} {J : It} {ds : List D} {n : Nat} {G : Hp → Prop} {Y : Nat → Hp → V → Hp → Prop} (W : Walk J n G Y) (hn : n = ds.length) (hG : ∀ w H st, Le w1 w → Sto w H st → G H)
    (hY : ∀ i d w H st x H', ds[i]? = some d → Le w1 w → Sto w H st → Y i H x H' → ∃ w', Ext w H w' H' ∧ Sto w' H' st ∧ Rep K w'.cl w'.Z d x) : Feeds K w1 J ds := by
  subst hn
  exact fun w H st l s => ⟨fun i d hd => ⟨W.goes i H (List.getElem?_eq_some_iff.mp hd).1 (hG w H st l s), fun x H' y => hY i d w H st x H' hd l s (W.yields i H x H' (List.getElem?_eq_some_iff.mp hd).1 (hG w H st l s) y)⟩, W.stops H (hG w H st l s)⟩
section
variable {K : Frag} {w1 : Wd} {a b : Addr} {xs ys : List V} {ds es : List D}
theorem feeds_list (ha : SqL K w1.Z a xs) (r : Reps K w1.cl w1.Z ds xs) : Feeds K w1 (Itl K a) ds :=
  feeds_of walk_list r.length.symm (fun w H st l s => (l.z.trans s.sub).seq ha) fun i d w H st x H' hd l s y => by
    obtain ⟨rfl, y⟩ := y
    obtain ⟨v, e, rv⟩ := r.get hd
    rw [y] at e; cases e
    exact ⟨w, Ext.refl _ _, s, l.rep rv⟩
theorem feeds_tup (ha : SqT K w1.Z a xs) (r : Reps K w1.cl w1.Z ds xs) : Feeds K w1 (Itt K a) ds :=
  feeds_of walk_tup r.length.symm (fun w H st l s => Same.seqT (l.z.trans s.sub) ha) fun i d w H st x H' hd l s y => by
    obtain ⟨rfl, y⟩ := y
    obtain ⟨v, e, rv⟩ := r.get hd
    rw [y] at e; cases e
    exact ⟨w, Ext.refl _ _, s, l.rep rv⟩
def rangeD (lo : Int) (n : Nat) : List D := (List.range n).map fun i => D.int (lo + (i : Nat))
theorem rangeD_length {lo : Int} {n : Nat} : (rangeD lo n).length = n := by unfold rangeD; rw [List.length_map, List.length_range]
theorem feeds_range {lo : Int} {n : Nat} : Feeds K w1 (Itr lo n) (rangeD lo n) :=
  feeds_of walk_range rangeD_length.symm (fun _ _ _ _ _ => True.intro) fun i d w H st x H' hd l s y => by
    obtain ⟨rfl, rfl⟩ := y
    unfold rangeD at hd
    rw [List.getElem?_map] at hd
    cases q : (List.range n)[i]? with
    | none => rw [q] at hd; cases hd
    | some j =>
      rw [q] at hd
      cases hd
      have hj : j = i := by
        obtain ⟨h1, h2⟩ := List.getElem?_eq_some_iff.mp q
        rw [List.getElem_range] at h2; exact h2.symm
      subst hj
      exact ⟨w, Ext.refl _ _, s, rfl⟩
theorem feeds_rev (ha : SqL K w1.Z a xs) (r : Reps K w1.cl w1.Z ds xs) : Feeds K w1 (Itv K a xs.length) ds.reverse :=
  feeds_of walk_rev (by rw [List.length_reverse]; exact r.length.symm) (fun w H st l s => (l.z.trans s.sub).seq ha) fun i d w H st x H' hd l s y => by
    obtain ⟨rfl, y⟩ := y
    have hi : i < ds.length := by
      have := (List.getElem?_eq_some_iff.mp hd).1
      rwa [List.length_reverse] at this
    rw [List.getElem?_reverse hi] at hd
    obtain ⟨v, e, rv⟩ := r.get hd
    rw [r.length] at e
    rw [y] at e; cases e
    exact ⟨w, Ext.refl _ _, s, l.rep rv⟩
def strD (z : Str) : List D := z.cps.toList.map fun c => D.str ⟨#[c]⟩
theorem feeds_str {z : Str} : Feeds K w1 (Its z) (strD z) :=
  feeds_of walk_str (by unfold strD; rw [List.length_map, Array.length_toList]) (fun _ _ _ _ _ => True.intro) fun i d w H st x H' hd l s y => by
    obtain ⟨rfl, c, hc, rfl⟩ := y
    unfold strD at hd
    rw [List.getElem?_map, Array.getElem?_toList, hc] at hd
    cases hd
    exact ⟨w, Ext.refl _ _, s, rfl⟩
theorem pair_new {w : Wd} {H : Hp} {st : Store} {T : Addr} {x y : V} {c d : D} (s : Sto w H st) (hT : H T = none) (rx : Rep K w.cl w.Z c x) (ry : Rep K w.cl w.Z d y) :
    ∃ w', Ext w H w' (upd H T (.tup [x, y])) ∧ Sto w' (upd H T (.tup [x, y])) st ∧ Rep K w'.cl w'.Z (.tup [c, d]) (.ref T) := by
  obtain ⟨e, s2⟩ := ext_frozen (o := .tup [x, y]) s hT
  exact ⟨_, e, s2, T, _, rfl, .inl (.inl upd_same), .cons (e.rep rx) (.cons (e.rep ry) rfl)⟩
def zipD (ds es : List D) : List D := List.zipWith (fun c d => D.tup [c, d]) ds es
theorem zipD_get {ds es : List D} {i : Nat} {d : D} (h : (zipD ds es)[i]? = some d) : ∃ c e, ds[i]? = some c ∧ es[i]? = some e ∧ d = .tup [c, e] := by
  unfold zipD at h
  rw [List.getElem?_zipWith] at h
  cases q : ds[i]? with
  | none => rw [q] at h; simp at h
  | some c =>
    cases q2 : es[i]? with
    | none => rw [q, q2] at h; simp at h
    | some e => rw [q, q2] at h; exact ⟨c, e, rfl, rfl, by simpa using h.symm⟩
theorem feeds_zip (ha : SqL K w1.Z a xs) (hb : SqL K w1.Z b ys) (r : Reps K w1.cl w1.Z ds xs) (r2 : Reps K w1.cl w1.Z es ys) : Feeds K w1 (Itz K a b) (zipD ds es) :=
  feeds_of (walk_zip (n := min xs.length ys.length) rfl) (by unfold zipD; rw [List.length_zipWith, r.length, r2.length]) (fun w H st l s => ⟨(l.z.trans s.sub).seq ha, (l.z.trans s.sub).seq hb⟩) fun i d w H st x H' hd l s y => by
    obtain ⟨T, u, v, rfl, hT, rfl, h1, h2⟩ := y
    obtain ⟨c, e, e1, e2, rfl⟩ := zipD_get hd
    obtain ⟨u', e3, ru⟩ := r.get e1
    obtain ⟨v', e4, rv⟩ := r2.get e2
    have eu : u = u' := Option.some.inj (h1.symm.trans e3)
    have ev : v = v' := Option.some.inj (h2.symm.trans e4)
    subst eu ev
    exact pair_new s hT (l.rep ru) (l.rep rv)
theorem walk_zipT {K : Frag} {a b : Addr} {xs ys : List V} {n : Nat} (hn : n = min xs.length ys.length) : Walk (RZ.ItzT K a b) n (fun H => SqT K H a xs ∧ SqT K H b ys) (YPair (fun i => xs[i]?) (fun i => ys[i]?)) := by
  subst hn
  refine ⟨fun i _ hi q => ?_, fun _ q => ⟨xs, ys, q.1, q.2, by omega⟩, fun i H v H' _ q y => ?_⟩
  · have h1 : i < xs.length := by omega
    have h2 : i < ys.length := by omega
    exact ⟨xs, ys, xs[i], ys[i], q.1, q.2, by simp [h1], by simp [h2]⟩
  · obtain ⟨T, x, z, h1, h2, h3, h4, h5⟩ := y
    exact ⟨T, x, z, h1, h2, h3, h4 xs q.1, h5 ys q.2⟩
theorem feeds_zipT (ha : SqT K w1.Z a xs) (hb : SqT K w1.Z b ys) (r : Reps K w1.cl w1.Z ds xs) (r2 : Reps K w1.cl w1.Z es ys) : Feeds K w1 (RZ.ItzT K a b) (zipD ds es) :=
  feeds_of (walk_zipT (n := min xs.length ys.length) rfl) (by unfold zipD; rw [List.length_zipWith, r.length, r2.length]) (fun w H st l s => ⟨Same.seqT (l.z.trans s.sub) ha, Same.seqT (l.z.trans s.sub) hb⟩) fun i d w H st x H' hd l s y => by
    obtain ⟨T, u, v, rfl, hT, rfl, h1, h2⟩ := y
    obtain ⟨c, e, e1, e2, rfl⟩ := zipD_get hd
    obtain ⟨u', e3, ru⟩ := r.get e1
    obtain ⟨v', e4, rv⟩ := r2.get e2
    have eu : u = u' := Option.some.inj (h1.symm.trans e3)
    have ev : v = v' := Option.some.inj (h2.symm.trans e4)
    subst eu ev
    exact pair_new s hT (l.rep ru) (l.rep rv)
def enumD (ds : List D) : List D := ds.mapIdx fun i d => D.tup [.int (i : Nat), d]
theorem feeds_enum (ha : SqL K w1.Z a xs) (r : Reps K w1.cl w1.Z ds xs) : Feeds K w1 (Ite K a) (enumD ds) :=
  feeds_of walk_enum (by unfold enumD; rw [List.length_mapIdx]; exact r.length.symm) (fun w H st l s => (l.z.trans s.sub).seq ha) fun i d w H st x H' hd l s y => by
    obtain ⟨T, u, v, rfl, hT, rfl, h1, h2⟩ := y
    unfold enumD at hd
    rw [List.getElem?_mapIdx] at hd
    cases q : ds[i]? with
    | none => rw [q] at hd; cases hd
    | some c =>
      rw [q] at hd
      cases hd
      obtain ⟨v', e4, rv⟩ := r.get q
      have ev : v = v' := Option.some.inj (h2.symm.trans e4)
      subst ev
      cases h1
      exact pair_new s hT (c := .int (i : Nat)) rfl (l.rep rv)
end

section
variable {X : Cx} {tg e e2 a b : Expr} {p pos tpos : Pos} {elts : List Expr} {kk : Nat} {ta tb : TD} {tas : TDA}
/-- a list or a tuple -/
def iSeq (K : Frag) (tl : TE) : TI := fun σ H R => tl σ H fun x H1 => ∃ a, x = .ref a ∧ (((∃ xs, SqL K H1 a xs) ∧ R (Itl K a) H1) ∨ ((∃ xs, SqT K H1 a xs) ∧ R (Itt K a) H1))
theorem pi_seq {l : Expr} {tl : TE} (hl : PE X l tl) : PI X tg l (iSeq X.K tl) := by
  refine ⟨fun pins s σ H R I h => ?_⟩
  refine thn (hl.run pins s σ H _ I h) fun v s1 ⟨x, H1, I1, r1, q1⟩ => ?_
  obtain ⟨a, e, ⟨⟨xs, hq⟩, q⟩ | ⟨⟨xs, hq⟩, q⟩⟩ := q1
  · subst e
    cases r1
    obtain ⟨its, rv, p, hz⟩ := I1.list hq
    refine wpAny_pyIter_list p.isList ?_
    refine ⟨s1.heap.objs.size, [s1.heap.objs.size], _, _, H1, rfl, I1.kept (t' := s1.toks) fun b o e => Heap.get?_push_of_some _ e, turn_list a _, ⟨_, Heap.get?_push_size _ rfl, rfl, rfl⟩, fun b hb => ?_, q⟩
    have e : b = s1.heap.objs.size := by simpa using hb
    subst e
    exact I1.fpOk (Nat.le_refl _) (I1.hok.fresh (Nat.le_refl _))
  · subst e
    cases r1
    obtain ⟨its, rv, p, hz⟩ := I1.tuple hq
    refine wpAny_pyIter_tuple (show s1.heap.IsTuple a its.toArray from p) ?_
    refine ⟨s1.heap.objs.size, [s1.heap.objs.size], _, _, H1, rfl, I1.kept (t' := s1.toks) fun b o e => Heap.get?_push_of_some _ e, turn_tuple a _, ⟨_, Heap.get?_push_size _ rfl, rfl, rfl⟩, fun b hb => ?_, q⟩
    have e : b = s1.heap.objs.size := by simpa using hb
    subst e
    exact I1.fpOk (Nat.le_refl _) (I1.hok.fresh (Nat.le_refl _))
def diSeq (t : TD) : TDI := fun env st Q => t env st fun d st1 => match d with | .lst ds => Q ds st1 | .tup ds => Q ds st1 | .scr ns => Q (ns.map D.int) st1 | _ => False
theorem i_seq (h : DE X e ta) : DI X tg e (diSeq ta) := by
  obtain ⟨t, p, l⟩ := h.ex
  refine ⟨_, pi_seq p, fun H0 w σ H env st Q R sl so q k => l H0 w σ H env st _ _ sl so q fun w' H' v d st' x s r q => ?_⟩
  split at q
  · obtain ⟨a, vs, rfl, ha, rs⟩ := r
    exact ⟨a, rfl, .inl ⟨⟨vs, .of (s.sub _ _ ha)⟩, k w' H' st' _ _ x s (feeds_list (.of ha) rs) q⟩⟩
  · obtain ⟨a, vs, rfl, ha, rs⟩ := r
    exact ⟨a, rfl, .inr ⟨⟨vs, Same.seqT s.sub ha⟩, k w' H' st' _ _ x s (feeds_tup ha rs) q⟩⟩
  · obtain ⟨a, rfl, ha⟩ := r
    exact ⟨a, rfl, .inl ⟨⟨_, s.sub.seq ha⟩, k w' H' st' _ _ x s (feeds_list ha (Reps.ints _)) q⟩⟩
  · exact q.elim
def diStr (t : TD) : TDI := fun env st Q => t env st fun d st1 => match d with | .str z => Q (strD z) st1 | _ => False
theorem i_str (h : DE X e ta) : DI X tg e (diStr ta) := by
  obtain ⟨t, p, l⟩ := h.ex
  refine ⟨_, pi_str p, fun H0 w σ H env st Q R sl so q k => l H0 w σ H env st _ _ sl so q fun w' H' v d st' x s r q => ?_⟩
  split at q
  · rename_i z
    obtain rfl : v = .str z := r
    exact ⟨z, rfl, k w' H' st' _ _ x s feeds_str q⟩
  · exact q.elim
def diRange1 (t : TD) : TDI := fun env st Q => t env st fun d st1 => match d with | .int j => (-(2 ^ 62) ≤ j ∧ j < 2 ^ 62) ∧ Q (rangeD 0 j.toNat) st1 | _ => False
def diRange2 (t u : TD) : TDI := fun env st Q => t env st fun c st1 => u env st1 fun d st2 => match c, d with | .int i, .int j => (-(2 ^ 62) ≤ i ∧ i < 2 ^ 62 ∧ -(2 ^ 62) ≤ j ∧ j < 2 ^ 62) ∧ Q (rangeD i (j - i).toNat) st2 | _, _ => False
theorem i_range1 (hm : X.mg "range" = none) (h : DE X a ta) (hg : Gl X "range" := by rfl) (h1 : starEach [a] X.env = (false, eval a X.env) :: starEach [] X.env := by rfl) (hs : starEach [a] X.env = [(false, eval a X.env)] := by rfl) : DI X tg (.Call (.Name "range" p) [a] [] pos) (diRange1 ta) := by
  obtain ⟨t, p, l⟩ := h.ex
  refine ⟨_, pi_range1 hg hm (pa_cons p pa_nil h1) hs, fun H0 w σ H env st Q R sl so q k => l H0 w σ H env st _ _ sl so q fun w' H' v d st' x s r q => ?_⟩
  split at q
  · rename_i j
    obtain rfl : v = .int j := r
    exact ⟨j, rfl, q.1.1, q.1.2, k w' H' st' _ _ x s feeds_range q.2⟩
  · exact q.elim
theorem i_range2 (hm : X.mg "range" = none) (h : DE X a ta) (h' : DE X b tb) (hg : Gl X "range" := by rfl) (h1 : starEach [a, b] X.env = (false, eval a X.env) :: starEach [b] X.env := by rfl) (h3 : starEach [b] X.env = (false, eval b X.env) :: starEach [] X.env := by rfl)
    (hs : starEach [a, b] X.env = [(false, eval a X.env), (false, eval b X.env)] := by rfl) (hs2 : starEach [b] X.env = [(false, eval b X.env)] := by rfl) : DI X tg (.Call (.Name "range" p) [a, b] [] pos) (diRange2 ta tb) := by
  obtain ⟨t, p, l⟩ := h.ex
  obtain ⟨t2, p2, l2⟩ := h'.ex
  refine ⟨_, pi_range2 hg hm (pa_cons p (pa_cons p2 pa_nil h3) h1) hs hs2, fun H0 w σ H env st Q R sl so q k => l H0 w σ H env st _ _ sl so q fun w1 H1 v c st1 x1 s1 r1 q1 => ?_⟩
  refine l2 H0 w1 σ H1 env st1 _ _ (sl.ext x1) s1 q1 fun w2 H2 v2 d st2 x2 s2 r2 q2 => ?_
  split at q2
  · rename_i i j
    obtain rfl : v = .int i := r1
    obtain rfl : v2 = .int j := r2
    exact ⟨i, j, rfl, q2.1, k w2 H2 st2 _ _ (x1.trans x2) s2 feeds_range q2.2⟩
  · exact q2.elim
def diZip (t u : TD) : TDI := fun env st Q => t env st fun c st1 => u env st1 fun d st2 => match c, d with | .lst xs, .lst ys => Q (zipD xs ys) st2 | .tup xs, .tup ys => Q (zipD xs ys) st2 | _, _ => False
theorem i_zip (hm : X.mg "zip" = none) (h : DE X a ta) (h' : DE X b tb) (hg : Gl X "zip" := by rfl) (hs : starEach [a, b] X.env = (false, eval a X.env) :: starEach [b] X.env := by rfl) (h3 : starEach [b] X.env = (false, eval b X.env) :: starEach [] X.env := by rfl)
    (hpl : (backTo pos (starEach [b] X.env)).any (·.1) = false := by rfl) : DI X (.Tuple elts kk tpos) (.Call (.Name "zip" p) [a, b] [] pos) (diZip ta tb) := by
  obtain ⟨t, p, l⟩ := h.ex
  obtain ⟨t2, p2, l2⟩ := h'.ex
  refine ⟨_, RZ.pi_zipA hg hm (pa_cons p (pa_cons p2 pa_nil h3) hs) hs hpl, fun H0 w σ H env st Q R sl so q k => l H0 w σ H env st _ _ sl so q fun w1 H1 v c st1 x1 s1 r1 q1 => ?_⟩
  refine l2 H0 w1 σ H1 env st1 _ _ (sl.ext x1) s1 q1 fun w2 H2 v2 d st2 x2 s2 r2 q2 => ?_
  split at q2
  · rename_i xs ys
    obtain ⟨a, vs, rfl, ha, ra⟩ := x2.rep r1
    obtain ⟨b, us, rfl, hb, rb⟩ := r2
    exact ⟨a, b, vs, us, rfl, .inl ⟨.of (s2.sub _ _ ha), .of (s2.sub _ _ hb), k w2 H2 st2 _ _ (x1.trans x2) s2 (feeds_zip (.of ha) (.of hb) ra rb) q2⟩⟩
  · rename_i xs ys
    obtain ⟨a, vs, rfl, ha, ra⟩ := x2.rep r1
    obtain ⟨b, us, rfl, hb, rb⟩ := r2
    exact ⟨a, b, vs, us, rfl, .inr ⟨Same.seqT s2.sub ha, Same.seqT s2.sub hb, k w2 H2 st2 _ _ (x1.trans x2) s2 (feeds_zipT ha hb ra rb) q2⟩⟩
  · exact q2.elim
def diEnum (t : TD) : TDI := fun env st Q => t env st fun d st1 => match d with | .lst ds => Q (enumD ds) st1 | _ => False
theorem i_enum (hm : X.mg "enumerate" = none) (h : DE X a ta) (hg : Gl X "enumerate" := by rfl) (h1 : starEach [a] X.env = (false, eval a X.env) :: starEach [] X.env := by rfl) (hs : starEach [a] X.env = [(false, eval a X.env)] := by rfl) :
    DI X (.Tuple elts kk tpos) (.Call (.Name "enumerate" p) [a] [] pos) (diEnum ta) := by
  obtain ⟨t, p, l⟩ := h.ex
  refine ⟨_, pi_enum hg hm (pa_cons p pa_nil h1) hs, fun H0 w σ H env st Q R sl so q k => l H0 w σ H env st _ _ sl so q fun w1 H1 v c st1 x1 s1 r1 q1 => ?_⟩
  split at q1
  · obtain ⟨a, vs, rfl, ha, ra⟩ := r1
    exact ⟨a, vs, rfl, .of (s1.sub _ _ ha), k w1 H1 st1 _ _ x1 s1 (feeds_enum (.of ha) ra) q1⟩
  · exact q1.elim
def diRev (t : TD) : TDI := fun env st Q => t env st fun d st1 => match d with | .lst ds => Q ds.reverse st1 | _ => False
theorem i_rev (hm : X.mg "reversed" = none) (h : DE X a ta) (hg : Gl X "reversed" := by rfl) (h1 : starEach [a] X.env = (false, eval a X.env) :: starEach [] X.env := by rfl) (hs : starEach [a] X.env = [(false, eval a X.env)] := by rfl) :
    DI X tg (.Call (.Name "reversed" p) [a] [] pos) (diRev ta) := by
  obtain ⟨t, p, l⟩ := h.ex
  refine ⟨_, pi_reversed hg hm (pa_cons p pa_nil h1) hs, fun H0 w σ H env st Q R sl so q k => l H0 w σ H env st _ _ sl so q fun w1 H1 v c st1 x1 s1 r1 q1 => ?_⟩
  split at q1
  · obtain ⟨a, vs, rfl, ha, ra⟩ := r1
    exact ⟨a, vs, rfl, .of (s1.sub _ _ ha), k w1 H1 st1 _ _ x1 s1 (feeds_rev (.of ha) ra) q1⟩
  · exact q1.elim

/-! ### for -/
def dLoop (g : TDG) (tb : TDS) : List D → TDS
  | [], D, env, st => D.nx env st
  | d :: r, D, env, st => g d env st fun env1 st1 => tb { D with nx := dLoop g tb r D, ct := dLoop g tb r D, bk := D.nx } env1 st1
def sFor (ti : TDI) (g : TDG) (tb : TDS) : TDS := fun D env st => ti env st fun ds st1 => dLoop g tb ds D env st1
variable {ti : TDI} {gd : TDG} {tbd : TDS}
theorem lifts_for {K : Frag} {wi : TI} {g : TG} {tb : TS} (li : LiftI K wi ti) (lg : LiftG K g gd) (lb : LiftS K tb tbd) : LiftS K (tFor wi g tb) (sFor ti gd tbd) := by
  intro w0 H0 w σ H env st D D' r q k
  refine li H0 w σ H env st _ _ r.sl r.s q fun w1 H1 st1 ds J x1 s1 fd q1 => ?_
  refine ⟨fun i m σ H => m = ds.length - i ∧ i ≤ ds.length ∧ ∃ w env st, Le w1 w ∧ Rel K w0 H0 w σ H env st ∧ dLoop gd tbd (ds.drop i) D' env st, ⟨ds.length, by simp, Nat.zero_le _, w1, env, st1, Le.refl _, r.ext x1 s1, by simpa using q1⟩, ?_⟩
  rintro i m σ H ⟨rfl, hi, w, env, st, l, r, q⟩
  obtain ⟨f1, f2⟩ := fd w H st l r.s
  by_cases hlt : i < ds.length
  · obtain ⟨go, yl⟩ := f1 i ds[i] (List.getElem?_eq_getElem hlt)
    rw [List.drop_eq_getElem_cons hlt] at q
    refine .inr ⟨go, fun σ H => ∃ w env st, Le w1 w ∧ Rel K w0 H0 w σ H env st ∧ dLoop gd tbd (ds.drop (i + 1)) D' env st, fun σ' H' p' => ⟨ds.length - (i + 1), by omega, rfl, hlt, p'⟩, fun x H' y => ?_⟩
    obtain ⟨w2, x2, s2, r2⟩ := yl x H' y
    refine lg w0 H0 w2 σ H' env st _ x _ _ (r.ext x2 s2) r2 q fun w3 σ3 H3 env3 st3 l3 r3 q3 => ?_
    have l13 : Le w1 w3 := (l.trans x2.le).trans l3
    refine lb w0 H0 w3 σ3 H3 env3 st3 _ _ r3 q3 ⟨fun w4 σ4 H4 env4 st4 l4 r4 q4 => ⟨w4, env4, st4, l13.trans l4, r4, q4⟩, k.rt, fun w4 σ4 H4 env4 st4 l4 r4 q4 => ?_, fun w4 σ4 H4 env4 st4 l4 r4 q4 => ⟨w4, env4, st4, l13.trans l4, r4, q4⟩⟩
    exact k.nx w4 σ4 H4 env4 st4 ((x1.le.trans l13).trans l4) r4 q4
  · have e : i = ds.length := by omega
    subst e
    rw [List.drop_length] at q
    exact .inl ⟨f2, k.nx w σ H env st (x1.le.trans l) r q⟩
theorem s_for {body : List Stmt} (hp : PassesOwn (model X.prog X.w) X.A X.env X.xe) (hi : DI X tg e ti) (hg : DG X tg gd) (hb : DSs X body tbd) (hc : X.calm = true := by rfl) (hs : ∀ x, foldedSetIterable e X.env x = pure x := by intro _; rfl) : DS X (.For tg e body [] pos) (sFor ti gd tbd) := by
  obtain ⟨wi, p, l⟩ := hi.ex
  obtain ⟨g, p2, l2⟩ := hg.ex
  obtain ⟨t, p3, l3⟩ := hb.ex
  exact ⟨_, ps_for hp hc p p2 p3 hs, lifts_for l l2 l3⟩

/-! ### while -/
def sWhile (c : TDT) (tb : TDS) : TDS := fun D env st => ∃ W : Nat → DEnv → Store → Prop, (∃ m, W m env st) ∧ ∀ m env st, W m env st →
  c env st fun b st1 => if b = true then tb { D with nx := fun env' st' => ∃ m', m' < m ∧ W m' env' st', ct := fun env' st' => ∃ m', m' < m ∧ W m' env' st', bk := D.nx } env st1 else D.nx env st1
theorem s_while {body : List Stmt} {tt : TDT} (hp : PassesOwn (model X.prog X.w) X.A X.env X.xe) (hc : DT X e tt) (hb : DSs X body tbd) : DS X (.While e body [] pos) (sWhile tt tbd) := by
  obtain ⟨c, p, l⟩ := hc.ex
  obtain ⟨t, p3, l3⟩ := hb.ex
  refine ⟨_, ps_while hp p p3, fun w0 H0 w σ H env st D D' r q k => ?_⟩
  obtain ⟨W, ⟨m0, h0⟩, turn⟩ := q
  refine ⟨fun m σ H => ∃ w' env st, Le w w' ∧ Rel X.K w0 H0 w' σ H env st ∧ W m env st, ⟨m0, w, env, st, Le.refl _, r, h0⟩, ?_⟩
  rintro m σ H ⟨w1, env, st, lw, r, hW⟩
  refine l H0 w1 σ H env st _ _ r.sl r.s (turn m env st hW) fun w2 H2 b st2 x2 s2 q2 => ?_
  cases b with
  | true =>
    rw [if_pos rfl] at q2 ⊢
    refine ⟨fun σ H => ∃ m', m' < m ∧ ∃ w' env st, Le w w' ∧ Rel X.K w0 H0 w' σ H env st ∧ W m' env st, fun σ' H' h => h, ?_⟩
    have l2 : Le w w2 := lw.trans x2.le
    refine l3 w0 H0 w2 σ H2 env st2 _ _ (r.ext x2 s2) q2 ⟨fun w4 σ4 H4 env4 st4 l4 r4 q4 => ?_, k.rt, fun w4 σ4 H4 env4 st4 l4 r4 q4 => k.nx w4 σ4 H4 env4 st4 (l2.trans l4) r4 q4, fun w4 σ4 H4 env4 st4 l4 r4 q4 => ?_⟩
    · obtain ⟨m', hm, q4⟩ := q4
      exact ⟨m', hm, w4, env4, st4, l2.trans l4, r4, q4⟩
    · obtain ⟨m', hm, q4⟩ := q4
      exact ⟨m', hm, w4, env4, st4, l2.trans l4, r4, q4⟩
  | false =>
    rw [if_neg Bool.false_ne_true] at q2 ⊢
    exact k.nx w2 σ H2 env st2 (lw.trans x2.le) (r.ext x2 s2) q2

/-! ### comprehensions -/
def wipeE (env : DEnv) : List Nat → DEnv
  | [] => env
  | v :: vs => (wipeE env vs).set v none
theorem slots_wipe {K : Frag} {H0 : Hp} {w : Wd} {σ : L2.St} {H : Hp} {env : DEnv} (sl : Slots K H0 w σ H env) : ∀ vs, Slots K H0 w (wipe σ vs) H (wipeE env vs)
  | [] => sl
  | v :: vs => by
    have s := slots_wipe sl vs
    obtain ⟨Ls, h, dj⟩ := s.ok
    refine ⟨by show ((wipeE env vs).set v none).length = ((wipe σ vs).set v none).length; rw [List.length_set, List.length_set]; exact s.len, Ls, fun i ev he => ?_, dj⟩
    have he : ((wipeE env vs).set v none)[i]? = some (some ev) := he
    by_cases e : v = i
    · subst e
      by_cases hv : v < (wipeE env vs).length
      · rw [List.getElem?_set_self hv] at he; cases he
      · rw [List.getElem?_eq_none (by simpa using hv)] at he; cases he
    · rw [List.getElem?_set_ne e] at he
      obtain ⟨x, hx, r⟩ := h i ev he
      exact ⟨x, by show ((wipe σ vs).set v none)[i]? = _; rw [List.getElem?_set_ne e]; exact hx, r⟩
/-- a comprehension's target: names of its own alone -/
def LiftC (K : Frag) (g : TG) (gd : TDG) (vs : List Nat) : Prop := ∀ (H0 : Hp) (w : Wd) (σ : L2.St) (H : Hp) (env : DEnv) (st : Store) (d : D) (v : V) (Q : DEnv → Store → Prop) (Q' : L2.St → Hp → Prop), Slots K H0 w σ H env → Sto w H st → Rep K w.cl w.Z d v → gd d env st Q →
  (∀ σ' env' st', Slots K H0 w σ' H env' → Sto w H st' → wipe σ' vs = wipe σ vs → Q env' st' → Q' σ' H) → g v σ H Q'
theorem wipe_set {σ : L2.St} {i : Nat} {x : Option V} : ∀ {vs : List Nat}, i ∈ vs → wipe (σ.set i x) vs = wipe σ vs
  | v :: vs, h => by
    show (wipe (σ.set i x) vs).set v none = (wipe σ vs).set v none
    have comm : ∀ vs : List Nat, i ∉ vs → wipe (σ.set i x) vs = (wipe σ vs).set i x := fun vs => by
      induction vs with
      | nil => intro _; rfl
      | cons u us ih =>
        intro hn
        show (wipe (σ.set i x) us).set u none = ((wipe σ us).set u none).set i x
        rw [ih fun z => hn (List.mem_cons_of_mem _ z), List.set_comm _ _ (fun z => hn (by rw [← z]; exact List.mem_cons_self))]
    by_cases hm : i ∈ vs
    · rw [wipe_set hm]
    · have e : i = v := by
        rcases List.mem_cons.mp h with z | z
        · exact z
        · exact absurd z hm
      subst e
      rw [comm vs hm, List.set_set]
theorem liftc_name {K : Frag} {i : Nat} {vs : List Nat} (h : i ∈ vs) : LiftC K (gName i) (gdName i) vs :=
  fun H0 w σ H env st d v Q Q' sl so rd q k => k _ _ st (slots_dat sl i rd) so (wipe_set h) q
def gNames : List Nat → TGs
  | [] => gNil
  | i :: r => gCons (gName i) (gNames r)
def gdNames : List Nat → TDGs
  | [] => gdNil
  | i :: r => gdCons (gdName i) (gdNames r)
theorem liftc_names {K : Frag} {vs : List Nat} : ∀ {is : List Nat}, (∀ i ∈ is, i ∈ vs) → ∀ (H0 : Hp) (w : Wd) (σ : L2.St) (H : Hp) (env : DEnv) (st : Store) (d : List D) (v : List V) (Q : DEnv → Store → Prop) (Q' : L2.St → Hp → Prop), Slots K H0 w σ H env → Sto w H st → Reps K w.cl w.Z d v → gdNames is d env st Q →
    (∀ σ' env' st', Slots K H0 w σ' H env' → Sto w H st' → wipe σ' vs = wipe σ vs → Q env' st' → Q' σ' H) → gNames is v σ H Q'
  | [], _, H0, w, σ, H, env, st, d, v, Q, Q', sl, so, rd, q, k => by
    have q2 : d = [] ∧ Q env st := q
    obtain ⟨rfl, q2⟩ := q2
    exact ⟨rd, k σ env st sl so rfl q2⟩
  | i :: is, hm, H0, w, σ, H, env, st, d, v, Q, Q', sl, so, rd, q, k => by
    have q2 : gdCons (gdName i) (gdNames is) d env st Q := q
    unfold gdCons at q2
    clear q
    split at q2
    · rename_i d0 ds
      obtain ⟨v0, vr, rfl, r1, r2⟩ := rd
      refine ⟨v0, vr, rfl, ?_⟩
      show gNames is vr (σ.set i (some v0)) H Q'
      have hi := hm i List.mem_cons_self
      exact liftc_names (fun j hj => hm j (List.mem_cons_of_mem _ hj)) H0 w _ H _ st ds vr Q Q' (slots_dat sl i r1) so r2 q2 fun σ' env' st' sl' so' hw q' => k σ' env' st' sl' so' (hw.trans (wipe_set hi)) q'
    · exact q2.elim
theorem liftc_tup {K : Frag} {n : Nat} {is vs : List Nat} (h : ∀ i ∈ is, i ∈ vs) : LiftC K (gTup K n (gNames is)) (gdTup n (gdNames is)) vs := by
  intro H0 w σ H env st d v Q Q' sl so rd q k
  unfold gdTup at q
  split at q
  · rename_i ds
    obtain ⟨a, us, rfl, ha, rs⟩ := rd
    exact ⟨a, us, rfl, Same.seqT so.sub ha, by rw [← rs.length]; exact q.1, liftc_names h H0 w σ H env st ds us Q Q' sl so rs q.2 k⟩
  · exact q.elim
def dComp (gd : TDG) (tt : TDT) (te : TD) (vs : List Nat) : List D → List D → DEnv → Store → (List D → Store → Prop) → Prop
  | [], acc, _, st, Q => Q acc st
  | d :: r, acc, env, st, Q => gd d (wipeE env vs) st fun env1 st1 => tt env1 st1 fun b st2 => if b = true then te env1 st2 fun y st3 => acc.length < sizeLine ∧ dComp gd tt te vs r (acc ++ [y]) env st3 Q else dComp gd tt te vs r acc env st2 Q
def dLc (ti : TDI) (gd : TDG) (tt : TDT) (te : TD) (vs : List Nat) : TDR := fun env st Q => ti env st fun ds st1 => dComp gd tt te vs ds [] env st1 fun ys st2 => Q (.own (.lst ys)) st2
theorem lift_lc {K : Frag} {wi : TI} {g : TG} {tt : TT} {te : TE} {ttd : TDT} {ted : TD} {vs : List Nat} (li : LiftI K wi ti) (lg : LiftC K g gd vs) (lt : LiftT K tt ttd) (le : LiftE K te ted) : LiftR K (tLc wi g tt te vs) (dLc ti gd ttd ted vs) := by
  intro H0 w σ H env st Q Q' sl so q k
  refine li H0 w σ H env st _ _ sl so q fun w1 H1 st1 ds J x1 s1 fd q1 => ?_
  intro D hD
  have hD0 : H D = none := x1.tr D hD
  obtain ⟨x2, s2⟩ := ext_laid (o := .lst []) s1 hD
  refine ⟨fun i m Hh => m = ds.length - i ∧ i ≤ ds.length ∧ ∃ w' acc us st', Le w1 w' ∧ Ext w H w' Hh ∧ Sto w' Hh st' ∧ Hh D = some (.lst us) ∧ w'.Z D = none ∧ D ∉ w'.cl ∧ Reps K w'.cl w'.Z acc us ∧ dComp gd ttd ted vs (ds.drop i) acc env st' fun ys st2 => Q (.own (.lst ys)) st2,
    ⟨ds.length, by simp, Nat.zero_le _, w1, [], [], st1, Le.refl _, x1.trans x2, s2, upd_same, s1.zfree hD, s1.notcell hD, rfl, by simpa using q1⟩, ?_⟩
  rintro i m Hh ⟨rfl, hi, w', acc, us, st', l, x, s, hDh, hz, hn, ra, q⟩
  obtain ⟨f1, f2⟩ := fd w' Hh st' l s
  by_cases hlt : i < ds.length
  · obtain ⟨go, yl⟩ := f1 i ds[i] (List.getElem?_eq_getElem hlt)
    rw [List.drop_eq_getElem_cons hlt] at q
    refine .inr ⟨go, fun Hh => ∃ w' acc us st', Le w1 w' ∧ Ext w H w' Hh ∧ Sto w' Hh st' ∧ Hh D = some (.lst us) ∧ w'.Z D = none ∧ D ∉ w'.cl ∧ Reps K w'.cl w'.Z acc us ∧ dComp gd ttd ted vs (ds.drop (i + 1)) acc env st' fun ys st2 => Q (.own (.lst ys)) st2,
      fun H' p' => ⟨ds.length - (i + 1), by omega, rfl, hlt, p'⟩, fun v H' y => ?_⟩
    obtain ⟨w2, x2, s2, r2⟩ := yl v H' y
    refine lg H0 w2 (wipe σ vs) H' (wipeE env vs) st' _ v _ _ (slots_wipe (sl.ext (x.trans x2)) vs) s2 r2 q fun σ3 env3 st3 sl3 s3 hw q3 => ?_
    have ww : wipe (wipe σ vs) vs = wipe σ vs := by
      have : ∀ (us vs : List Nat), (∀ u ∈ us, u ∈ vs) → wipe (wipe σ vs) us = wipe σ vs := fun us vs => by
        induction us with
        | nil => intro _; rfl
        | cons u us ih =>
          intro h
          show (wipe (wipe σ vs) us).set u none = wipe σ vs
          rw [ih fun z hz => h z (List.mem_cons_of_mem _ hz)]
          apply List.ext_getElem?
          intro j
          by_cases e : u = j
          · subst e
            by_cases hu : u < (wipe σ vs).length
            · rw [List.getElem?_set_self hu]
              cases q : (wipe σ vs)[u]? with
              | none => rw [List.getElem?_eq_none_iff] at q; omega
              | some o =>
                cases o with
                | none => rfl
                | some x => exact absurd (h u List.mem_cons_self) (wipe_some q).2
            · rw [List.getElem?_eq_none (by simpa using hu), List.getElem?_eq_none (by simpa using hu)]
          · rw [List.getElem?_set_ne e]
      exact this vs vs fun _ h => h
    refine ⟨hw.trans ww, lt H0 w2 σ3 H' env3 st3 _ _ sl3 s3 q3 fun w4 H4 b st4 x4 s4 q4 => ?_⟩
    have xx := x.trans (x2.trans x4)
    have hD4 : H4 D = some (.lst us) := (x2.trans x4).kp _ _ hDh hn
    have hz4 := (x2.trans x4).znone (some_ne hDh) hz
    have hn4 := (x2.trans x4).cln (some_ne hDh) hn
    cases b with
    | false =>
      rw [if_neg Bool.false_ne_true] at q4 ⊢
      exact ⟨w4, acc, us, st4, l.trans (x2.trans x4).le, xx, s4, hD4, hz4, hn4, (x2.trans x4).reps ra, q4⟩
    | true =>
      rw [if_pos rfl] at q4 ⊢
      refine le H0 w4 σ3 H4 env3 st4 _ _ (sl3.ext x4) s4 q4 fun w5 H5 y d st5 x5 s5 r5 q5 => ?_
      have hD5 : H5 D = some (.lst us) := x5.kp _ _ hD4 hn4
      have ra5 := (x2.trans (x4.trans x5)).reps ra
      have hz5 := x5.znone (some_ne hD4) hz4
      have hn5 := x5.cln (some_ne hD4) hn4
      refine ⟨us, hD5, by rw [← ra5.length]; exact q5.1, w5, acc ++ [d], us ++ [y], st5, l.trans (x2.trans (x4.trans x5)).le, ext_mut (xx.trans x5) hD0, sto_mut s5 hz5 hn5, upd_same, hz5, hn5, ra5.append (.cons r5 rfl), q5.2⟩
  · have e : i = ds.length := by omega
    subst e
    rw [List.drop_length] at q
    exact .inl ⟨f2, k w' Hh (.ref D) (.own (.lst acc)) st' x s ⟨D, rfl, hD0, hz, hn, us, hDh, ra⟩ q⟩
/-- the tests of a comprehension, in each of its blocks -/
def dYes : TDT := fun _ st Q => Q true st
theorem lift_yes {K : Frag} : LiftT K tYes dYes := fun H0 w σ H env st Q Q' sl so q k => k w H true st (Ext.refl _ _) so q
section
variable {elt : Expr} {scope : Scope} {own : List (Str × Nat)} {ted : TD} {ttd : TDT} {x : Str} {i : Nat} {px : Pos}
abbrev Blk (X : Cx) (scope : Scope) (s : Shared) (H : Hp) (C : Addr) (cl : List (Str × Addr)) (fp : List Addr) : Cx := X.blk s H scope (compEnvC scope cl C X.env) fp
/-- [elt for x in iter] -/
theorem r_lc (own : List (Str × Nat)) (hN : X.N.Nodup) (hi : DI X (.Name x px) e ti) (hg : ∀ s H C cl fp, PG (Blk X scope s H C cl fp) (.Name x px) (gName i)) (he : ∀ s H C cl fp, DE (Blk X scope s H C cl fp) elt ted) (ok : BlkOk X.N X.env.scope scope own) (hm : i ∈ own.map (·.2)) (hc : X.calm = true := by rfl) (hs : ∀ x, foldedSetIterable e X.env x = pure x := by intro _; rfl) :
    RE X (.ListComp elt [⟨.Name x px, e, [], 0⟩] scope pos) (dLc ti (gdName i) dYes ted (own.map (·.2))) := by
  obtain ⟨wi, p, l⟩ := hi.ex
  exact ⟨_, pe_lc hc hN p ok hg (fun _ _ _ _ _ => pts_nil) (fun s H C cl fp => (he s H C cl fp).can) hs, lift_lc l (liftc_name hm) lift_yes lift_canE⟩
/-- [elt for x in iter if test] -/
theorem r_lcIf {c : Expr} (own : List (Str × Nat)) (hN : X.N.Nodup) (hi : DI X (.Name x px) e ti) (hg : ∀ s H C cl fp, PG (Blk X scope s H C cl fp) (.Name x px) (gName i)) (ht : ∀ s H C cl fp, DT (Blk X scope s H C cl fp) c ttd) (he : ∀ s H C cl fp, DE (Blk X scope s H C cl fp) elt ted) (ok : BlkOk X.N X.env.scope scope own) (hm : i ∈ own.map (·.2)) (hc : X.calm = true := by rfl) (hs : ∀ x, foldedSetIterable e X.env x = pure x := by intro _; rfl) :
    RE X (.ListComp elt [⟨.Name x px, e, [c], 0⟩] scope pos) (dLc ti (gdName i) ttd ted (own.map (·.2))) := by
  obtain ⟨wi, p, l⟩ := hi.ex
  exact ⟨_, pe_lc hc hN p ok hg (fun s H C cl fp => pts_one (ht s H C cl fp).can) (fun s H C cl fp => (he s H C cl fp).can) hs, lift_lc l (liftc_name hm) lift_canT lift_canE⟩
/-- the target a tuple of names -/
theorem r_lcT {es : List Expr} {kt n : Nat} {is : List Nat} (own : List (Str × Nat)) (hN : X.N.Nodup) (hi : DI X (.Tuple es kt px) e ti) (hg : ∀ s H C cl fp, PG (Blk X scope s H C cl fp) (.Tuple es kt px) (gTup X.K n (gNames is))) (he : ∀ s H C cl fp, DE (Blk X scope s H C cl fp) elt ted) (ok : BlkOk X.N X.env.scope scope own) (hm : ∀ i ∈ is, i ∈ own.map (·.2)) (hc : X.calm = true := by rfl) (hs : ∀ x, foldedSetIterable e X.env x = pure x := by intro _; rfl) :
    RE X (.ListComp elt [⟨.Tuple es kt px, e, [], 0⟩] scope pos) (dLc ti (gdTup n (gdNames is)) dYes ted (own.map (·.2))) := by
  obtain ⟨wi, p, l⟩ := hi.ex
  exact ⟨_, pe_lc hc hN p ok hg (fun _ _ _ _ _ => pts_nil) (fun s H C cl fp => (he s H C cl fp).can) hs, lift_lc l (liftc_tup hm) lift_yes lift_canE⟩
theorem r_lcTIf {c : Expr} {es : List Expr} {kt n : Nat} {is : List Nat} (own : List (Str × Nat)) (hN : X.N.Nodup) (hi : DI X (.Tuple es kt px) e ti) (hg : ∀ s H C cl fp, PG (Blk X scope s H C cl fp) (.Tuple es kt px) (gTup X.K n (gNames is))) (ht : ∀ s H C cl fp, DT (Blk X scope s H C cl fp) c ttd) (he : ∀ s H C cl fp, DE (Blk X scope s H C cl fp) elt ted) (ok : BlkOk X.N X.env.scope scope own) (hm : ∀ i ∈ is, i ∈ own.map (·.2)) (hc : X.calm = true := by rfl) (hs : ∀ x, foldedSetIterable e X.env x = pure x := by intro _; rfl) :
    RE X (.ListComp elt [⟨.Tuple es kt px, e, [c], 0⟩] scope pos) (dLc ti (gdTup n (gdNames is)) ttd ted (own.map (·.2))) := by
  obtain ⟨wi, p, l⟩ := hi.ex
  exact ⟨_, pe_lc hc hN p ok hg (fun s H C cl fp => pts_one (ht s H C cl fp).can) (fun s H C cl fp => (he s H C cl fp).can) hs, lift_lc l (liftc_tup hm) lift_canT lift_canE⟩
/-- y = [..], y a local name -/
theorem s_setLc (j : Nat) {y : Str} {py spos : Pos} (own : List (Str × Nat)) (hN : X.N.Nodup) (hi : DI X (.Name x px) e ti) (hg : ∀ s H C cl fp, PG (Blk X scope s H C cl fp) (.Name x px) (gName i)) (he : ∀ s H C cl fp, DE (Blk X scope s H C cl fp) elt ted) (ok : BlkOk X.N X.env.scope scope own) (hm : i ∈ own.map (·.2))
    (hy : X.N[j]? = some y := by rfl) (hyl : X.env.scope.names.lookup y = some .local := by rfl) (hk : X.env.scope.kind = .function := by rfl) (hl : (py.line == pos.line) = true := by rfl) (ha : (scope.names.any fun (n, k) => n == y && (k == .local || k == .cell)) = false := by decide +kernel)
    (hc : X.calm = true := by rfl) (hs : ∀ x, foldedSetIterable e X.env x = pure x := by intro _; rfl) : DS X (.Assign [.Name y py] (.ListComp elt [⟨.Name x px, e, [], 0⟩] scope pos) spos) (sSet j (dLc ti (gdName i) dYes ted (own.map (·.2)))) := by
  obtain ⟨wi, p, l⟩ := hi.ex
  exact ⟨_, ps_setLc hc hN hy hyl (sw_true hk hyl hl ha) p ok hg (fun _ _ _ _ _ => pts_nil) (fun s H C cl fp => (he s H C cl fp).can) hs, lifts_set j (lift_lc l (liftc_name hm) lift_yes lift_canE)⟩
theorem s_setLcIf (j : Nat) {c : Expr} {y : Str} {py spos : Pos} (own : List (Str × Nat)) (hN : X.N.Nodup) (hi : DI X (.Name x px) e ti) (hg : ∀ s H C cl fp, PG (Blk X scope s H C cl fp) (.Name x px) (gName i)) (ht : ∀ s H C cl fp, DT (Blk X scope s H C cl fp) c ttd) (he : ∀ s H C cl fp, DE (Blk X scope s H C cl fp) elt ted) (ok : BlkOk X.N X.env.scope scope own) (hm : i ∈ own.map (·.2))
    (hy : X.N[j]? = some y := by rfl) (hyl : X.env.scope.names.lookup y = some .local := by rfl) (hk : X.env.scope.kind = .function := by rfl) (hl : (py.line == pos.line) = true := by rfl) (ha : (scope.names.any fun (n, k) => n == y && (k == .local || k == .cell)) = false := by decide +kernel)
    (hc : X.calm = true := by rfl) (hs : ∀ x, foldedSetIterable e X.env x = pure x := by intro _; rfl) : DS X (.Assign [.Name y py] (.ListComp elt [⟨.Name x px, e, [c], 0⟩] scope pos) spos) (sSet j (dLc ti (gdName i) ttd ted (own.map (·.2)))) := by
  obtain ⟨wi, p, l⟩ := hi.ex
  exact ⟨_, ps_setLc hc hN hy hyl (sw_true hk hyl hl ha) p ok hg (fun s H C cl fp => pts_one (ht s H C cl fp).can) (fun s H C cl fp => (he s H C cl fp).can) hs, lifts_set j (lift_lc l (liftc_name hm) lift_canT lift_canE)⟩
theorem s_setLcT (j : Nat) {es : List Expr} {kt n : Nat} {is : List Nat} {y : Str} {py spos : Pos} (own : List (Str × Nat)) (hN : X.N.Nodup) (hi : DI X (.Tuple es kt px) e ti) (hg : ∀ s H C cl fp, PG (Blk X scope s H C cl fp) (.Tuple es kt px) (gTup X.K n (gNames is))) (he : ∀ s H C cl fp, DE (Blk X scope s H C cl fp) elt ted) (ok : BlkOk X.N X.env.scope scope own) (hm : ∀ i ∈ is, i ∈ own.map (·.2))
    (hy : X.N[j]? = some y := by rfl) (hyl : X.env.scope.names.lookup y = some .local := by rfl) (hk : X.env.scope.kind = .function := by rfl) (hl : (py.line == pos.line) = true := by rfl) (ha : (scope.names.any fun (n, k) => n == y && (k == .local || k == .cell)) = false := by decide +kernel)
    (hc : X.calm = true := by rfl) (hs : ∀ x, foldedSetIterable e X.env x = pure x := by intro _; rfl) : DS X (.Assign [.Name y py] (.ListComp elt [⟨.Tuple es kt px, e, [], 0⟩] scope pos) spos) (sSet j (dLc ti (gdTup n (gdNames is)) dYes ted (own.map (·.2)))) := by
  obtain ⟨wi, p, l⟩ := hi.ex
  exact ⟨_, ps_setLc hc hN hy hyl (sw_true hk hyl hl ha) p ok hg (fun _ _ _ _ _ => pts_nil) (fun s H C cl fp => (he s H C cl fp).can) hs, lifts_set j (lift_lc l (liftc_tup hm) lift_yes lift_canE)⟩
end
end
end DL

set_option Elab.async false
set_option linter.all false
set_option maxRecDepth 100000
set_option maxHeartbeats 4000000
/-! DL8: a def's promise from its body; cells changed; more methods. -/
namespace DL
open PySem PySem.Spec L2

def startE (N : List Str) (ds : List D) : DEnv := ds.map (fun d => some (EV.dat d)) ++ List.replicate (N.length - ds.length) none
theorem slots_start {K : Frag} {w : Wd} {H : Hp} {N : List Str} {ds : List D} {vs : List V} (r : Reps K w.cl w.Z ds vs) : Slots K H w (L2.start N vs) H (startE N ds) := by
  refine ⟨by unfold startE L2.start; simp [r.length], fun _ => [], fun i ev he => ?_, fun i j p _ h => by simp at h⟩
  unfold startE at he
  by_cases hi : i < ds.length
  · rw [List.getElem?_append_left (by rw [List.length_map]; exact hi), List.getElem?_map, List.getElem?_eq_getElem hi] at he
    cases he
    obtain ⟨v, e, rv⟩ := r.get (List.getElem?_eq_getElem hi)
    refine ⟨v, ?_, ⟨rfl, rv⟩, fun p h => by simp at h⟩
    unfold L2.start
    rw [List.getElem?_append_left (by rw [List.length_map, ← r.length]; exact hi), List.getElem?_map, e]; rfl
  · rw [List.getElem?_append_right (by rw [List.length_map]; omega)] at he
    have := List.mem_of_getElem? he
    rw [List.mem_replicate] at this
    cases this.2
section
variable {P : Program} {w : World} {K : Frag} {mg : Str → Option Value} {base : Heap} {x qual : Str} {params : Arguments} {body : List Stmt} {scope : Scope} {dvs : List V} {kws : List (Str × V)} {f : Addr} {fd : FuncData}
theorem def_ok {N ps : List Str} {k n : Nat} {φ : Phi} (F : FunD K x qual params body scope dvs kws f fd) (S : FnScope N ps scope) (hn : ps.length = n)
    (hb : ∀ (cdv : Value) (A : Around) (outer : List Env) (s : Shared) (H : Hp) (E : XK), Room k (A.deeper (PyProof.Rows.envOfC qual scope s.heap.objs.size f cdv)) →
      ∃ tds, DSs (cxOf CX0 P w K mg base N qual scope f cdv A outer s H E).nox body tds ∧ ∀ ds st Q, ds.length = n → φ ds st Q → tds { nx := fun _ st' => Q (.dat .non) st', rt := Q } (startE N ds) st) : FnOk P w K mg base CX0 (k + 1) f fd ps (spD K n φ) := by
  refine F.ok S (fun vs H Q E h => ?_) fun cdv A outer s H vs Q E hr h => ?_
  · obtain ⟨w, ds, st, Q', hl, so, r, _⟩ := h
    rw [← r.length, hl, hn]
  · obtain ⟨tds, hd, hq⟩ := hb cdv A outer s H E hr
    obtain ⟨t, p, l⟩ := hd.ex
    obtain ⟨w, ds, st, Q', hl, so, r, hφ, k⟩ := h
    refine ⟨t, p.nox, l w H w (L2.start N vs) H (startE N ds) st _ _ ⟨Ext.refl _ _, so, slots_start r⟩ (hq ds st Q' hl hφ) ⟨fun w' σ' H' env' st' le r' q => ?_, fun w' H' v ev st' x s r q => k w' H' v ev st' x s r q, fun _ _ _ _ _ _ _ q => q.elim, fun _ _ _ _ _ _ _ q => q.elim⟩⟩
    exact k w' H' .non (.dat .non) st' r'.x r'.s rfl q
theorem txf_of {ps : List Str} (F : FunD K x qual params body scope [] [] f fd) (g : mg x = some (.ref f)) (h : ∀ (kV doc pm : Value) (an : Option Addr) (cdv ct : Value) (us : List Value), us.length = ps.length → bindArgs (PySem.W.fnOf x qual params body scope .none kV doc pm an cdv ct) ⟨us, []⟩ = pure (ps.zip us)) : TxF K mg x f fd ps :=
  ⟨g, F.kp, F.bindsN h⟩
/-- a weaker promise -/
theorem phi_imp {CX : CXT} {k n : Nat} {ps : List Str} {φ ψ : Phi} (F : FnOk P w K mg base CX k f fd ps (spD K n φ)) (h : ∀ ds st Q, ds.length = n → ψ ds st Q → φ ds st Q) : FnOk P w K mg base CX k f fd ps (spD K n ψ) :=
  F.imp fun vs H Q E ⟨w, ds, st, Q', hl, so, r, hq, k⟩ => ⟨w, ds, st, Q', hl, so, r, h ds st Q' hl hq, k⟩
end

/-! ### a cell's item is stored -/
theorem slots_cell {K : Frag} {H0 : Hp} {w : Wd} {σ : L2.St} {H : Hp} {env : DEnv} {a : Addr} {o : HO} (sl : Slots K H0 w σ H env) (ha : a ∈ w.cl) : Slots K H0 w σ (upd H a o) env := by
  obtain ⟨Ls, h, dj⟩ := sl.ok
  refine ⟨sl.len, Ls, fun j ev hj => ?_, dj⟩
  obtain ⟨v, hv, hok, hl⟩ := h j ev hj
  have hne : ∀ q ∈ Ls j, q ≠ a := fun q hq z => (hl q hq).2.2.2 (by rw [z]; exact ha)
  refine ⟨v, hv, hok.at_ (Same.refl _) (Pre.refl _) fun q hq => upd_ne (hne q hq), fun q hq => ?_⟩
  obtain ⟨h1, h2, h3⟩ := hl q hq
  exact ⟨h1, by rw [upd_ne (hne q hq)]; exact h2, h3⟩
theorem ext_cell {w0 w : Wd} {H0 H : Hp} {a : Addr} {o : HO} (x0 : Ext w0 H0 w H) (ha : a ∈ w.cl) : Ext w0 H0 w (upd H a o) := by
  refine ⟨x0.z, x0.fr, fun b u h hn => ?_, fun b h => ?_, x0.cl⟩
  · have hne : b ≠ a := fun z => by
      obtain ⟨m, e1, e2⟩ := x0.cl
      rw [← z, e1, List.mem_append] at ha
      rcases ha with ha | ha
      · exact hn ha
      · rw [e2 b ha] at h; cases h
    rw [upd_ne hne]; exact x0.kp b u h hn
  · by_cases e : b = a
    · subst e; rw [upd_same] at h; cases h
    · rw [upd_ne e] at h; exact x0.tr b h
theorem sto_cell {w : Wd} {H : Hp} {st : Store} {n : Nat} {a : Addr} {ns ms : List Int} (s : Sto w H st) (ha : w.cl[n]? = some a) (hs : st[n]? = some ns) : Sto w (upd H a (.lst (ms.map V.int))) (st.set n ms) := by
  have hm : a ∈ w.cl := List.mem_of_getElem? ha
  refine ⟨fun b u h => ?_, s.zc, s.nd, by rw [List.length_set]; exact s.ln, fun m ks h => ?_⟩
  · have hne : b ≠ a := fun z => by rw [z, s.zc a hm] at h; cases h
    rw [upd_ne hne]; exact s.sub b u h
  · by_cases e : n = m
    · subst e
      rw [List.getElem?_set_self (List.getElem?_eq_some_iff.mp hs).1] at h
      cases h
      exact ⟨a, ha, upd_same⟩
    · rw [List.getElem?_set_ne e] at h
      obtain ⟨b, e1, e2⟩ := s.at_ m ks h
      have hne : b ≠ a := fun z => by
        obtain ⟨h1, h2⟩ := List.getElem?_eq_some_iff.mp ha
        obtain ⟨h3, h4⟩ := List.getElem?_eq_some_iff.mp e1
        exact e ((List.getElem_inj s.nd).mp (by rw [h2, h4, z]))
      exact ⟨b, e1, by rw [upd_ne hne]; exact e2⟩
section
variable {X : Cx} {e a b : Expr} {p pos : Pos} {ta tb : TD}
def gdSubC (i : Nat) (ti : TD) : TDG := fun d env st Q => match env[i]? with
  | some (some (.dat (.cel n))) => ti env st fun z st1 => (match d, z with | .int v, .int k => ∃ ns j, st1[n]? = some ns ∧ ixN ns.length k = some j ∧ Q env (st1.set n (ns.set j v)) | _, _ => False)
  | _ => False
theorem g_subC (i : Nat) {x : Str} {px : Pos} (hi : DE X a ta) (hN : X.N[i]? = some x := by rfl) (hv : Vis X.env.scope x := by first | exact Or.inl rfl | exact Or.inr (Or.inl rfl) | exact Or.inr (Or.inr rfl)) (hd : (x == ("__debug__" : Str)) = false := by decide)
    (hcd : (x == ("__classdict__" : Str)) = false := by decide) (hA : ∀ v, assign (.Subscript (.Name x px) a pos) X.env v = (do
      let ov ← holding [v] (eval (.Name x px) X.env)
      let iv ← holding [v, ov] (eval a X.env)
      standAt pos
      holding [v, ov, iv] (setItem ov iv v)
      release [v, ov, iv] []) := by intro _; rfl) : DG X (.Subscript (.Name x px) a pos) (gdSubC i ta) := by
  obtain ⟨f, p, l⟩ := hi.ex
  refine ⟨_, pg_sub (pe_var hN hv hd hcd) p set_list hA, fun w0 H0 w σ H env st d v Q Q' r rd q k => ?_⟩
  unfold gdSubC at q
  split at q
  · rename_i n he
    obtain ⟨Ls, h, _⟩ := r.sl.ok
    obtain ⟨vp, hvp, ⟨_, hr⟩, _⟩ := h i _ he
    refine ⟨vp, hvp, l H0 w σ H env st _ _ r.sl r.s q fun w' H' v' z st' x s rz q2 => ?_⟩
    clear q
    split at q2
    · rename_i iv ik
      obtain ⟨ns, j, e1, e2, q⟩ := q2
      obtain rfl : v' = .int ik := rz
      obtain rfl : v = .int iv := rd
      obtain ⟨a, ha, rfl⟩ := x.rep hr
      obtain ⟨a', ha', hn⟩ := s.at_ n ns e1
      rw [ha] at ha'; cases ha'
      have hm : a ∈ w'.cl := List.mem_of_getElem? ha
      refine ⟨a, _, ik, j, rfl, rfl, hn, by rw [List.length_map]; exact e2, ?_⟩
      rw [show (ns.map V.int).set j (.int iv) = (ns.set j iv).map V.int by rw [List.map_set]]
      exact k w' σ _ env _ x.le ⟨ext_cell (r.x.trans x) hm, sto_cell s ha e1, slots_cell (r.sl.ext x) hm⟩ q
    · exact q2.elim
  · exact q.elim
/-- x.bit_length() -/
def wBits : W1 := fun x Q => match x with | .int i => Q (.int (Builtin.Int.intBits i : Nat)) | _ => False
theorem d_bits {apos : Pos} (ho : DE X e ta) (hbase : attributeBase e "bit_length" X.env (eval e X.env) = eval e X.env := by rfl) (hline : (apos.endLine == pos.line) = true := by rfl) : DE X (.Call (.Attribute e "bit_length" apos) [] [] pos) (dUn wBits ta) := by
  obtain ⟨t, p, l⟩ := ho.ex
  refine ⟨_, pe_bits p hbase hline, fun H0 w σ H env st Q Q' sl so q k => l H0 w σ H env st _ _ sl so q fun w' H' v d st' x s r q => ?_⟩
  unfold wBits at q
  split at q
  · rename_i i
    exact ⟨i, r, k w' H' _ (.int _) st' x s rfl q⟩
  · exact q.elim
/-- list(x), tuple(x) -/
def keyD : Key → D
  | .inl i => .int i
  | .inr x => .str x
theorem rep_key {K : Frag} {cl : List Addr} {Z : Hp} (k : Key) : Rep K cl Z (keyD k) (kV k) := by cases k <;> rfl
theorem reps_keys {K : Frag} {cl : List Addr} {Z : Hp} : ∀ ks : List Key, Reps K cl Z (ks.map keyD) (ks.map kV)
  | [] => rfl
  | k :: ks => .cons (rep_key k) (reps_keys ks)
def wList : W1 := fun x Q => match x with | .lst ds => Q (.lst ds) | .tup ds => Q (.lst ds) | .scr ns => Q (.lst (ns.map D.int)) | .dK ks _ => Q (.lst (ks.map keyD)) | _ => False
theorem r_list (hm : X.mg "list" = none) (ha : DE X e ta) (hg : Gl X "list" := by rfl) (hc : X.calm = true := by rfl) (h1 : starEach [e] X.env = (false, eval e X.env) :: starEach [] X.env := by rfl) (h2 : (backTo pos (starEach [] X.env)).any (·.1) = false := by rfl) :
    RE X (.Call (.Name "list" p) [e] [] pos) (dUnR wList ta) := r_t1 (call_list_of.or (L2.call_listD hc)) (by
  intro w H st x v Qd Q' so rx q k
  unfold wList at q
  split at q
  · rename_i ds
    obtain ⟨a, vs, rfl, ha, r⟩ := rx
    refine .inl ⟨a, vs, rfl, .inl (.of (so.sub _ _ ha)), fun p hp => ?_⟩
    obtain ⟨e2, s2⟩ := ext_laid (o := .lst vs) so hp
    exact k (.lst ds) _ _ p e2 s2 hp ⟨vs, upd_same, r⟩ (so.zfree hp) (so.notcell hp) q
  · rename_i ds
    obtain ⟨a, vs, rfl, ha, r⟩ := rx
    refine .inl ⟨a, vs, rfl, .inr (Same.seqT so.sub ha), fun p hp => ?_⟩
    obtain ⟨e2, s2⟩ := ext_laid (o := .lst vs) so hp
    exact k (.lst ds) _ _ p e2 s2 hp ⟨vs, upd_same, r⟩ (so.zfree hp) (so.notcell hp) q
  · rename_i ns
    obtain ⟨a, rfl, ha⟩ := rx
    refine .inl ⟨a, _, rfl, .inl (so.sub.seq ha), fun p hp => ?_⟩
    obtain ⟨e2, s2⟩ := ext_laid (o := .lst (ns.map V.int)) so hp
    exact k (.lst (ns.map D.int)) _ _ p e2 s2 hp ⟨_, upd_same, Reps.ints ns⟩ (so.zfree hp) (so.notcell hp) q
  · rename_i ks ds
    obtain ⟨a, vs, rfl, hl, ha, r⟩ := rx
    refine .inr ⟨a, _, rfl, Same.rd so.sub ha, fun p hp => ?_⟩
    have e : ((ks.zip vs).map fun kv => kV kv.1) = ks.map kV := by
      rw [show (fun kv : Key × V => kV kv.1) = kV ∘ Prod.fst from rfl, ← List.map_map, List.map_fst_zip (by omega)]
    rw [e]
    obtain ⟨e2, s2⟩ := ext_laid (o := .lst (ks.map kV)) so hp
    exact k (.lst (ks.map keyD)) _ _ p e2 s2 hp ⟨_, upd_same, reps_keys ks⟩ (so.zfree hp) (so.notcell hp) q
  · exact q.elim) hm boot_list ha hg (by decide) (by decide) h1 h2
def wTuple : W1 := fun x Q => match x with | .lst ds => Q (.tup ds) | .tup ds => Q (.tup ds) | _ => False
theorem d_tuple (hm : X.mg "tuple" = none) (ha : DE X e ta) (hg : Gl X "tuple" := by rfl) (h1 : starEach [e] X.env = (false, eval e X.env) :: starEach [] X.env := by rfl) (h2 : (backTo pos (starEach [] X.env)).any (·.1) = false := by rfl) :
    DE X (.Call (.Name "tuple" p) [e] [] pos) (dUn wTuple ta) := d_t1 call_tuple_of (by
  intro w H st x v Qd Q' so rx q k
  unfold wTuple at q
  split at q
  · rename_i ds
    obtain ⟨a, vs, rfl, ha, r⟩ := rx
    refine ⟨a, vs, rfl, .inl ⟨.of (so.sub _ _ ha), fun p hp => ?_⟩⟩
    obtain ⟨e2, s2⟩ := ext_frozen (o := .tup vs) so hp
    exact k (.tup ds) _ _ (.ref p) e2 s2 ⟨p, vs, rfl, .inl (.inl upd_same), e2.reps r⟩ q
  · rename_i ds
    obtain ⟨a, vs, rfl, ha, r⟩ := rx
    exact ⟨a, vs, rfl, .inr ⟨Same.seqT so.sub ha, k (.tup ds) w H (.ref a) (Ext.refl _ _) so ⟨a, vs, rfl, ha, r⟩ q⟩⟩
  · exact q.elim) hm boot_tuple ha hg (by decide) (by decide) h1 h2
end
/-! ### the law's own entry -/
def phiLaw : Phi := fun ds st Q => ∃ ns : List Int, ds = [.scr ns] ∧ ns.length ≤ 63 ∧ st = [] ∧ ∀ st', Q (.dat (.bl true)) st'
theorem law_entry {K : Frag} (H : Hp) (a : Addr) (ns : List Int) (hl : ns.length ≤ 63) (hO : Only H) (hS : SqL K H a (ns.map V.int)) : spD K 1 phiLaw [.ref a] H (fun v _ => v = .bl true) fun _ _ _ => False := by
  refine ⟨⟨[], H⟩, [.scr ns], [], fun ev st => ev = .dat (.bl true), rfl, ⟨Same.refl _, fun a h => by simp at h, by simp, rfl, fun n ns h => by simp at h⟩, ⟨.ref a, [], rfl, ⟨a, rfl, hS⟩, rfl⟩, ⟨ns, rfl, hl, rfl, fun _ => rfl⟩, fun w' H' v ev st' x s r q => ?_⟩
  subst q
  exact r
end DL

set_option Elab.async false
set_option linter.all false
set_option maxRecDepth 100000
set_option maxHeartbeats 4000000
/-! DL9: constants of the module, defaults. -/
namespace DL
open PySem PySem.Spec L2
/-- a constant of the module -/
def GC (K : Frag) (mg : Str → Option Value) (x : Str) (d : D) : Prop := ∃ u v, mg x = some u ∧ RelV v u ∧ ∀ cl Z, Rep K cl Z d v
theorem GC.tup {K : Frag} {mg : Str → Option Value} {x : Str} {t : Addr} {oc : Value} {od : Option Addr} {its : Array Value} {n : Nat} {sl : Array (Option Value)} {ds : List D} {vs : List V} (g : mg x = some (.ref t)) (l : K.lookup t = some ⟨oc, od, .seq its n, sl⟩) (c : oc = .type "tuple") (hz : its.size ≤ sizeLine) (r : Vals vs its.toList)
    (h : ∀ cl Z, Reps K cl Z ds vs) : GC K mg x (.tup ds) := by
  subst c
  exact ⟨.ref t, .ref t, g, rfl, fun cl Z => ⟨t, vs, rfl, .inr ⟨_, its, n, l, rfl, rfl, hz, r⟩, h cl Z⟩⟩
section
variable {X : Cx} {e : Expr} {es : List Expr} {p pos : Pos} {tas : TDA} {k n : Nat} {f : Addr} {fd : FuncData} {ps : List Str} {φ : Phi} {x : Str} {dd : List D} {d : D}
theorem d_gc (h : GC X.K X.mg x d) (hg : Gl X x := by rfl) (hdb : (x == ("__debug__" : Str)) = false := by decide) : DE X (.Name x pos) (dC d) := by
  obtain ⟨u, v, hm, r, h⟩ := h
  exact d_glob hm r h hg hdb
structure TxD (K : Frag) (mg : Str → Option Value) (x : Str) (f : Addr) (fd : FuncData) : Prop where
  g : mg x = some (.ref f)
  kp : PySem.W.keepIn K (.ref f) = true
def BindD (K : Frag) (fd : FuncData) (ps : List Str) (dd : List D) : Prop := ∃ dvs ds0, Vals dvs ds0 ∧ Binds K fd ps ds0 ∧ ∀ cl Z, Reps K cl Z dd dvs
theorem BindD.of {K : Frag} {dvs : List V} (h : ∃ ds, Vals dvs ds ∧ Binds K fd ps ds) (r : ∀ cl Z, Reps K cl Z dd dvs) : BindD K fd ps dd := let ⟨ds, a, b⟩ := h; ⟨dvs, ds, a, b, r⟩
theorem r_callD' (F : FnOk X.prog X.w X.K X.mg X.base CX0 k f fd ps (spD X.K n φ)) (T : TxD X.K X.mg x f fd) (B : BindD X.K fd ps dd) (hr : Room k X.A) (ha : DA X (e :: es) tas) (hg : Gl X x := by rfl) (hdb : (x == ("__debug__" : Str)) = false := by decide)
    (he : starEach (e :: es) X.env = (false, eval e X.env) :: starEach es X.env := by rfl) (hpl : (backTo pos (starEach es X.env)).any (·.1) = false := by rfl) : RE X (.Call (.Name x p) (e :: es) [] pos) (dCall n φ dd tas) := by
  obtain ⟨dvs, ds0, hd, hb, hdd⟩ := B
  obtain ⟨t, pa, la⟩ := ha.ex
  exact ⟨_, pe_call F hr hg T.g T.kp hb hd (pass0) pa hdb he hpl, lift_call la hdd⟩
end
end DL

set_option Elab.async false
set_option linter.all false
set_option maxRecDepth 100000
set_option maxHeartbeats 4000000
/-! DL10: fractions. -/
namespace DL
open PySem PySem.Spec L2
/-- // by a divisor of any sign, below 2 ^ 9000 -/
def CDivG (_ j : Int) : Prop := j ≠ 0 ∧ j.natAbs < 2 ^ 9000
theorem op_fdivG {X : Cx} : OpR X (binaryOp .FloorDiv) (rI CDivG fun i j => .int (i.fdiv j)) := opI fun i j _ _ _ _ _ hc q => PyProof.Rows.floordiv_int hc.1 q (.inl (PyProof.noPylong_of_log2 (PySem.Flt.log2_lt_of (by decide) hc.2)))
abbrev wFdivG : W2 := wI CDivG fun i j => .int (i.fdiv j)
theorem d_fdivG {X : Cx} {a b : Expr} {ta tb : TD} {pos : Pos} (ha : DE X a ta) (hb : DE X b tb) : DE X (.BinOp a .FloorDiv b pos) (dOp wFdivG ta tb) := d_op op_fdivG (opl_I fun _ _ _ _ => rfl) ha hb

/-- a fraction as data -/
def qD (q : Rat) : D := .tup [.int q.num, .int (q.den : Int)]
/-- numbers above and below of at most n bits -/
def Bd (n : Nat) (q : Rat) : Prop := q.num.natAbs < 2 ^ n ∧ q.den < 2 ^ n
theorem Bd.mono {n m : Nat} {q : Rat} (h : Bd n q) (hm : n ≤ m) : Bd m q := ⟨Nat.lt_of_lt_of_le h.1 (Nat.pow_le_pow_right (by decide) hm), Nat.lt_of_lt_of_le h.2 (Nat.pow_le_pow_right (by decide) hm)⟩
theorem qD_inj {p q : Rat} (h : qD p = qD q) : p = q := by
  unfold qD at h
  injection h with h
  injection h with h1 h2
  injection h2 with h2 _
  injection h1 with h1
  injection h2 with h2
  exact Rat.ext h1 (Int.ofNat.inj h2)
theorem den_pos (q : Rat) : (0 : Int) < (q.den : Int) := by have := q.den_pos; omega
theorem mulW_of {i j : Int} {a b : Nat} (ha : i.natAbs < 2 ^ a) (hb : j.natAbs < 2 ^ b) (h : a + b ≤ 900000 := by decide) : CMulW i j := by
  have h1 : i.natAbs < 2 ^ (a + 1) := Nat.lt_of_lt_of_le ha (Nat.pow_le_pow_right (by decide) (by omega))
  have h2 : j.natAbs < 2 ^ (b + 1) := Nat.lt_of_lt_of_le hb (Nat.pow_le_pow_right (by decide) (by omega))
  exact wide_mul h1 h2 (by omega) (by omega) (by omega)
theorem natAbs_mul_lt {i j : Int} {a b : Nat} (ha : i.natAbs < 2 ^ a) (hb : j.natAbs < 2 ^ b) : (i * j).natAbs < 2 ^ (a + b) := wide_lt ha hb
theorem natAbs_add_lt {i j : Int} {a : Nat} (ha : i.natAbs < 2 ^ a) (hb : j.natAbs < 2 ^ a) : (i + j).natAbs < 2 ^ (a + 1) := by
  rw [Nat.pow_succ]; omega
theorem natAbs_sub_lt {i j : Int} {a : Nat} (ha : i.natAbs < 2 ^ a) (hb : j.natAbs < 2 ^ a) : (i - j).natAbs < 2 ^ (a + 1) := by
  rw [Nat.pow_succ]; omega

/-! ### above // many, below // many -/
theorem divInt_num_pos {a b : Int} (hb : 0 < b) : (Rat.divInt a b).num = a / (Int.gcd a b : Int) := by
  rw [Rat.num_divInt, Int.sign_eq_one_of_pos hb, Int.one_mul, Int.gcd_comm]
theorem divInt_den_pos {a b : Int} (hb : 0 < b) : ((Rat.divInt a b).den : Int) = b / (Int.gcd a b : Int) := by
  rw [Rat.den_divInt, if_neg (by omega), Int.gcd_comm]
  rw [Int.natCast_ediv, Int.natAbs_of_nonneg (by omega)]
theorem divInt_num_neg {a b : Int} (hb : b < 0) : (Rat.divInt a b).num = a.fdiv (0 - (Int.gcd a b : Int)) := by
  rw [Rat.num_divInt, Int.sign_eq_neg_one_of_neg hb, Int.gcd_comm b a]
  have hd : (Int.gcd a b : Int) ∣ a := Int.gcd_dvd_left ..
  obtain ⟨c, hc⟩ := hd
  have hg : (Int.gcd a b : Int) ≠ 0 := by
    intro z
    have : Int.gcd a b = 0 := by omega
    have := (Int.gcd_eq_zero_iff.mp this).2
    omega
  generalize (Int.gcd a b : Int) = g at hc hg ⊢
  subst hc
  rw [Int.fdiv_eq_ediv_of_dvd (by exact ⟨-c, by grind⟩)]
  rw [show -1 * (g * c) = g * (-c) by grind, Int.mul_ediv_cancel_left _ hg, show g * c = (0 - g) * (-c) by grind, Int.mul_ediv_cancel_left _ (by omega)]
theorem divInt_den_neg {a b : Int} (hb : b < 0) : ((Rat.divInt a b).den : Int) = b.fdiv (0 - (Int.gcd a b : Int)) := by
  rw [Rat.den_divInt, if_neg (by omega), Int.gcd_comm b a]
  have hd : (Int.gcd a b : Int) ∣ b := Int.gcd_dvd_right ..
  obtain ⟨c, hc⟩ := hd
  have hg : (Int.gcd a b : Int) ≠ 0 := by
    intro z
    have : Int.gcd a b = 0 := by omega
    have := (Int.gcd_eq_zero_iff.mp this).2
    omega
  rw [Int.natCast_ediv]
  have hb' : (b.natAbs : Int) = -b := by omega
  rw [hb']
  generalize (Int.gcd a b : Int) = g at hc hg ⊢
  subst hc
  rw [Int.fdiv_eq_ediv_of_dvd (by exact ⟨-c, by grind⟩)]
  rw [show -(g * c) = g * (-c) by grind, Int.mul_ediv_cancel_left _ hg, show g * c = (0 - g) * (-c) by grind, Int.mul_ediv_cancel_left _ (by omega)]
theorem gcd_pos_of {a b : Int} (hb : b ≠ 0) : 0 < Int.gcd a b := by
  rcases Nat.eq_zero_or_pos (Int.gcd a b) with h | h
  · exact absurd (Int.gcd_eq_zero_iff.mp h).2 hb
  · exact h
theorem gcd_le_of {a b : Int} (hb : b ≠ 0) : Int.gcd a b ≤ b.natAbs := Nat.gcd_le_right _ (by omega)

/-! ### what the operations come to -/
theorem den_ne (q : Rat) : (q.den : Int) ≠ 0 := by have := q.den_pos; omega
theorem q_add (p q : Rat) : Rat.divInt (p.num * q.den + q.num * p.den) (p.den * q.den) = p + q := by
  rw [← Rat.divInt_add_divInt p.num q.num (den_ne p) (den_ne q), Rat.num_divInt_den, Rat.num_divInt_den]
theorem q_sub (p q : Rat) : Rat.divInt (p.num * q.den - q.num * p.den) (p.den * q.den) = p - q := by
  rw [← Rat.divInt_sub_divInt p.num q.num (den_ne p) (den_ne q), Rat.num_divInt_den, Rat.num_divInt_den]
theorem q_mul (p q : Rat) : Rat.divInt (p.num * q.num) (p.den * q.den) = p * q := by
  rw [← Rat.divInt_mul_divInt p.num q.num, Rat.num_divInt_den, Rat.num_divInt_den]
theorem q_div (p q : Rat) : Rat.divInt (p.num * q.den) (p.den * q.num) = p / q := by
  rw [← Rat.divInt_mul_divInt p.num q.den, Rat.num_divInt_den, ← Rat.inv_def, Rat.div_def]
theorem q_lt (p q : Rat) : decide (p.num * q.den < q.num * p.den) = decide (p < q) := by
  rw [Bool.eq_iff_iff, decide_eq_true_iff, decide_eq_true_iff, Rat.lt_iff]
/-! ### sizes -/
theorem natAbs_ediv_le (a : Int) (g : Nat) : (a / (g : Int)).natAbs ≤ a.natAbs := by
  exact Int.natAbs_ediv_le_natAbs a g
theorem Bd.divInt {a b : Int} {n : Nat} (ha : a.natAbs < 2 ^ n) (hb : b.natAbs < 2 ^ n) (h0 : b ≠ 0) : Bd n (Rat.divInt a b) := by
  constructor
  · rw [Rat.num_divInt]
    refine Nat.lt_of_le_of_lt (natAbs_ediv_le _ _) ?_
    rw [Int.natAbs_mul]
    have : b.sign.natAbs ≤ 1 := by rw [Int.natAbs_sign]; split <;> omega
    refine Nat.lt_of_le_of_lt (Nat.mul_le_mul_right _ this) ?_
    omega
  · rw [Rat.den_divInt, if_neg h0]
    exact Nat.lt_of_le_of_lt (Nat.div_le_self _ _) hb
theorem Bd.den {n : Nat} {q : Rat} (h : Bd n q) : ((q.den : Int)).natAbs < 2 ^ n := h.2
theorem Bd.add {n m : Nat} {p q : Rat} (hp : Bd n p) (hq : Bd m q) : Bd (n + m + 1) (p + q) := by
  rw [← q_add]
  refine Bd.divInt (natAbs_add_lt (natAbs_mul_lt hp.1 hq.den) ?_) ?_ (Int.mul_ne_zero (den_ne p) (den_ne q))
  · rw [Nat.add_comm]; exact natAbs_mul_lt hq.1 hp.den
  · exact Nat.lt_of_lt_of_le (natAbs_mul_lt hp.den hq.den) (Nat.pow_le_pow_right (by decide) (by omega))
theorem Bd.sub {n m : Nat} {p q : Rat} (hp : Bd n p) (hq : Bd m q) : Bd (n + m + 1) (p - q) := by
  rw [← q_sub]
  refine Bd.divInt (natAbs_sub_lt (natAbs_mul_lt hp.1 hq.den) ?_) ?_ (Int.mul_ne_zero (den_ne p) (den_ne q))
  · rw [Nat.add_comm]; exact natAbs_mul_lt hq.1 hp.den
  · exact Nat.lt_of_lt_of_le (natAbs_mul_lt hp.den hq.den) (Nat.pow_le_pow_right (by decide) (by omega))
theorem Bd.mul {n m : Nat} {p q : Rat} (hp : Bd n p) (hq : Bd m q) : Bd (n + m) (p * q) := by
  rw [← q_mul]
  exact Bd.divInt (natAbs_mul_lt hp.1 hq.1) (natAbs_mul_lt hp.den hq.den) (Int.mul_ne_zero (den_ne p) (den_ne q))
theorem Bd.div {n m : Nat} {p q : Rat} (hp : Bd n p) (hq : Bd m q) (h : q ≠ 0) : Bd (n + m) (p / q) := by
  rw [← q_div]
  have hn : q.num ≠ 0 := fun z => h (Rat.num_eq_zero.mp z)
  exact Bd.divInt (natAbs_mul_lt hp.1 hq.den) (natAbs_mul_lt hp.den hq.1) (Int.mul_ne_zero (den_ne p) hn)
theorem Bd.int {i : Int} {n : Nat} (h : i.natAbs < 2 ^ n) (hn : 0 < n := by decide) : Bd n (i : Rat) := ⟨by rw [Rat.num_intCast]; exact h, by rw [Rat.den_intCast]; exact Nat.one_lt_two_pow (by omega)⟩
theorem qD_int (i : Int) : qD (i : Rat) = .tup [.int i, .int 1] := by unfold qD; rw [Rat.num_intCast, Rat.den_intCast]; rfl
theorem qD_zero : qD 0 = .tup [.int 0, .int 1] := rfl
theorem qD_one : qD 1 = .tup [.int 1, .int 1] := rfl
/-! ### == of fractions -/
theorem qD_py (q : Rat) (n : Nat) : (qD q).py (n + 1) = true := by simp [qD, D.py, D.pys]
theorem qD_eqv (p q : Rat) : (qD p).eqv (qD q) = decide (p = q) := by
  rw [Bool.eq_iff_iff, decide_eq_true_iff]
  simp only [qD, D.eqv, D.toPy, D.toPys, PyData.eqv, PyData.eqvAll, Bool.and_true, Bool.and_eq_true, beq_iff_eq]
  constructor
  · rintro ⟨h1, h2⟩
    exact Rat.ext h1 (Int.ofNat.inj h2)
  · rintro rfl
    exact ⟨rfl, rfl⟩
end DL

set_option Elab.async false
set_option linter.all false
set_option maxRecDepth 100000
set_option maxHeartbeats 4000000
/-! DL11: readings worked out. -/
namespace DL
open PySem PySem.Spec L2
theorem startE_cons (n : Str) (N : List Str) (d : D) (ds : List D) : startE (n :: N) (d :: ds) = some (.dat d) :: startE N ds := by
  unfold startE
  rw [List.map_cons, List.length_cons, List.length_cons, Nat.add_sub_add_right, List.cons_append]
theorem startE_none (n : Str) (N : List Str) : startE (n :: N) [] = none :: startE N [] := by
  unfold startE
  rw [List.map_nil, List.length_cons, List.length_nil, Nat.sub_zero, Nat.sub_zero, List.replicate_succ]; rfl
theorem startE_nil : startE [] [] = [] := rfl
theorem wipe_cons (env : DEnv) (v : Nat) (vs : List Nat) : wipeE env (v :: vs) = (wipeE env vs).set v none := rfl
theorem wipe_nil (env : DEnv) : wipeE env [] = env := rfl
end DL

set_option Elab.async false
set_option linter.all false
set_option maxRecDepth 100000
set_option maxHeartbeats 4000000
/-! DL12: displays of results of one's own; what is one's own is handed over and spoilt. -/
namespace DL
open PySem PySem.Spec L2

/-! ### a tree of one's own -/
def EV.tree : EV → Bool
  | .dat d => d.flat
  | .own (.lst ds) => D.flats ds
  | .own (.dK _ ds) => D.flats ds
  | .own _ => false
  | .deep _ => true
  | .lkd _ => false
section
variable {K : Frag} {w w0 w1 w2 : Wd} {H H0 H1 H2 : Hp} {st : Store} {σ : L2.St} {L L1 M2 : List Addr} {env : DEnv} {Ls : Nat → List Addr}
mutual
theorem OwnT.of_flat : ∀ {d : D} {v : V}, d.flat = true → Rep K w.cl w.Z d v → OwnT K w H d v []
  | .lst ds, v, f, r => by simp [D.flat] at f
  | .tup ds, v, f, r => by
    obtain ⟨a, vs, rfl, h1, h2⟩ := (show ∃ a vs, v = .ref a ∧ SqT K w.Z a vs ∧ Reps K w.cl w.Z ds vs from r)
    exact ⟨a, vs, rfl, h1, OwnTs.of_flats (by simpa [D.flat] using f) h2⟩
  | .non, v, f, r => ⟨rfl, f, r⟩
  | .bl _, v, f, r => ⟨rfl, f, r⟩
  | .int _, v, f, r => ⟨rfl, f, r⟩
  | .str _, v, f, r => ⟨rfl, f, r⟩
  | .ty _, v, f, r => ⟨rfl, f, r⟩
  | .ref _, v, f, r => ⟨rfl, f, r⟩
  | .top, v, f, r => ⟨rfl, f, r⟩
  | .cel _, v, f, r => ⟨rfl, f, r⟩
  | .scr _, v, f, r => ⟨rfl, f, r⟩
  | .dK _ _, v, f, r => by simp [D.flat] at f
  | .dT _ _, v, f, r => ⟨rfl, f, r⟩
theorem OwnTs.of_flats : ∀ {ds : List D} {vs : List V}, D.flats ds = true → Reps K w.cl w.Z ds vs → OwnTs K w H ds vs []
  | [], vs, f, r => ⟨r, rfl⟩
  | d :: ds, vs, f, h => by
    obtain ⟨v, r, rfl, h1, h2⟩ := (show ∃ v r, vs = v :: r ∧ Rep K w.cl w.Z d v ∧ Reps K w.cl w.Z ds r from h)
    simp [D.flats] at f
    exact ⟨v, r, [], [], rfl, rfl, fun p hp => by simp at hp, OwnT.of_flat f.1 h1, OwnTs.of_flats f.2 h2⟩
end
theorem OwnTs.length : ∀ {ds : List D} {vs : List V} {L : List Addr}, OwnTs K w H ds vs L → ds.length = vs.length
  | [], vs, L, h => by rw [h.1]; rfl
  | d :: ds, vs, L, h => by
    obtain ⟨v, r, L1, L2, rfl, _, _, _, h2⟩ := (show ∃ v r L1 L2, vs = v :: r ∧ L = L1 ++ L2 ∧ (∀ p ∈ L1, p ∉ L2) ∧ OwnT K w H d v L1 ∧ OwnTs K w H ds r L2 from h)
    rw [List.length_cons, List.length_cons, OwnTs.length h2]
theorem EvOk.own_t {v : V} {ev : EV} (h : EvOk K w H v L ev) (t : ev.tree = true) : OwnT K w H ev.d v L := by
  cases ev with
  | lkd d => cases t
  | dat d =>
    obtain ⟨rfl, r⟩ := h
    exact .of_flat t r
  | own d =>
    obtain ⟨p, rfl, rfl, h⟩ := h
    cases d with
    | lst ds =>
      obtain ⟨vs, a, b⟩ := h
      exact ⟨p, vs, [], rfl, rfl, by simp, a, .of_flats t b⟩
    | dK ks ds =>
      obtain ⟨vs, l, a, b⟩ := h
      exact ⟨p, vs, [], rfl, rfl, by simp, l, a, .of_flats t b⟩
    | _ => simp [EV.tree] at t
  | deep d => exact h
def LiftOw (K : Frag) (t : TA) (td : TDA) : Prop := ∀ (H0 : Hp) (w : Wd) (σ : L2.St) (H : Hp) (env : DEnv) (st : Store) (Q : List D → Store → Prop) (Q' : List V → Hp → Prop),
  Slots K H0 w σ H env → Sto w H st → td env st Q → (∀ w' H' vs ds st' L, Ext w H w' H' → Sto w' H' st' → OwnTs K w' H' ds vs L → LOk w' H H' L → Q ds st' → Q' vs H') → t σ H Q'
structure DOw (X : Cx) (es : List Expr) (td : TDA) : Prop where ex : ∃ t, PA X es t ∧ LiftOw X.K t td
def oCons (t : TDR) (r : TDA) : TDA := fun env st Q => t env st fun ev st1 => ev.tree = true ∧ r env st1 fun ds st2 => Q (ev.d :: ds) st2
variable {X : Cx} {e : Expr} {es : List Expr} {pos : Pos} {tr : TDR} {tas : TDA}
theorem o_nil : DOw X [] dNil := ⟨_, pa_nil, fun H0 w σ H env st Q Q' sl so q k => k w H [] [] st [] (Ext.refl _ _) so ⟨rfl, rfl⟩ (fun p hp => by simp at hp) q⟩
theorem o_cons (ha : RE X e tr) (hr : DOw X es tas) (hs : starEach (e :: es) X.env = (false, eval e X.env) :: starEach es X.env := by rfl) : DOw X (e :: es) (oCons tr tas) := by
  obtain ⟨t, p, l⟩ := ha.ex
  obtain ⟨u, p2, l2⟩ := hr.ex
  refine ⟨_, pa_cons p p2 hs, fun H0 w σ H env st Q Q' sl so q k => l H0 w σ H env st _ _ sl so q fun w1 H1 v ev st1 e1 s1 r1 q1 => ?_⟩
  obtain ⟨L1, o1, lo1⟩ := r1.ok
  refine l2 H0 w1 σ H1 env st1 _ _ (sl.ext e1) s1 q1.2 fun w2 H2 vs ds st2 L2 e2 s2 o2 lo2 q2 => ?_
  refine k w2 H2 (v :: vs) (ev.d :: ds) st2 (L1 ++ L2) (e1.trans e2) s2 ⟨v, vs, L1, L2, rfl, rfl, fun p hp hq => (lo1 p hp).2.1 (lo2 p hq).1, (o1.own_t q1.1).ext e2 _ _ _ (fun p hp => (lo1 p hp).2.2.2), o2⟩ (fun p hp => ?_) q2
  rcases List.mem_append.mp hp with h | h
  · exact (lo1.ext e2) p h
  · obtain ⟨a, b⟩ := lo2 p h
    exact ⟨e1.tr p a, b⟩
def dLstO (t : TDA) : TDR := fun env st Q => t env st fun ds st1 => ds.length ≤ sizeLine ∧ Q (.deep (.lst ds)) st1
theorem r_deep (h : DOw X es tas) : RE X (.List es pos) (dLstO tas) := by
  obtain ⟨t, p, l⟩ := h.ex
  refine ⟨_, pe_lst p, fun H0 w σ H env st Q Q' sl so q k => l H0 w σ H env st _ _ sl so q fun w1 H1 vs ds st1 L e1 s1 o1 lo1 q1 => ⟨by rw [← o1.length]; exact q1.1, fun p hp => ?_⟩⟩
  obtain ⟨e2, s2⟩ := ext_laid (o := .lst vs) s1 hp
  have hpL : p ∉ L := fun h => (lo1 p h).2.1 hp
  refine k _ _ _ (.deep (.lst ds)) st1 (e1.trans e2) s2 ⟨p :: L, ⟨p, vs, L, rfl, rfl, hpL, upd_same, OwnTs.ext e2 ds vs L (fun q hq => (lo1 q hq).2.2.2) o1⟩, fun q hq => ?_⟩ q1.2
  rcases List.mem_cons.mp hq with h | h
  · rw [h]; exact ⟨e1.tr p hp, by rw [upd_same]; exact fun z => (nomatch z), s1.zfree hp, s1.notcell hp⟩
  · exact (lo1.ext e2) q h

/-! ### what is handed over -/
theorem ext_minus (w : Wd) (H : Hp) (L : List Addr) : Ext w (minus H L) w H := by
  refine ⟨Same.refl _, fun a h => .inl h, fun a o h _ => ?_, fun a h => ?_, [], (List.append_nil _).symm, fun a h => by simp at h⟩
  · by_cases e : a ∈ L
    · rw [minus_in e] at h; cases h
    · rw [minus_out e] at h; exact h
  · by_cases e : a ∈ L
    · exact minus_in e
    · rw [minus_out e]; exact h
theorem minus_none {a : Addr} (h : minus H L a = none) : a ∈ L ∨ H a = none := by
  by_cases e : a ∈ L
  · exact .inl e
  · rw [minus_out e] at h; exact .inr h
theorem Ext.cut (e : Ext w0 H0 w1 H1) (g : Ext w1 (minus H1 L) w2 H2) (hs : ∀ p ∈ L, H0 p = none) : Ext w0 H0 w2 H2 where
  z := e.z.trans g.z
  fr := fun a h => by
    rcases g.fr a h with h | h
    · exact e.fr a h
    · rcases minus_none h with h | h
      · exact .inr (hs a h)
      · exact .inr (e.tr a h)
  kp := fun a o h hn => by
    have h1 := e.kp a o h hn
    have : a ∉ L := fun z => by rw [hs a z] at h; cases h
    exact g.kp a o (by rw [minus_out this]; exact h1) (e.cln (some_ne h) hn)
  tr := fun a h => by
    rcases minus_none (g.tr a h) with h | h
    · exact hs a h
    · exact e.tr a h
  cl := by
    obtain ⟨m, e1, e2⟩ := e.cl
    obtain ⟨n, e3, e4⟩ := g.cl
    refine ⟨m ++ n, by rw [e3, e1, List.append_assoc], fun a ha => ?_⟩
    rcases List.mem_append.mp ha with h | h
    · exact e2 a h
    · rcases minus_none (e4 a h) with h | h
      · exact hs a h
      · exact e.tr a h
theorem SlotsL.cut {i : Nat} (s : SlotsL K H0 w σ H env Ls) (hL : ∀ l, l ≠ i → ∀ p ∈ L, p ∉ Ls l) (g : Ext w (minus H L) w1 H1) : SlotsL K H0 w1 σ H1 (env.set i none) (fun j => if j = i then [] else Ls j) := by
  refine ⟨by rw [List.length_set]; exact s.len, fun j ev he => ?_, fun j l q hne hm => ?_, fun j hj => ?_⟩
  · by_cases e : i = j
    · subst e
      by_cases hi : i < env.length
      · rw [List.getElem?_set_self hi] at he; cases he
      · rw [List.getElem?_eq_none (by simpa using hi)] at he; cases he
    · rw [List.getElem?_set_ne e] at he
      obtain ⟨v, hv, hok, hl⟩ := s.ok j ev he
      have hnl : ∀ p ∈ Ls j, p ∉ L := fun p hp hq => hL j (Ne.symm e) p hq hp
      refine ⟨v, hv, ?_⟩
      simp only [if_neg (Ne.symm e)]
      have lo : LOk w H0 (minus H L) (Ls j) := fun p hp => let ⟨a, b, c⟩ := hl p hp; ⟨a, by rw [minus_out (hnl p hp)]; exact b, c⟩
      exact ⟨(hok.at_ (Same.refl _) (Pre.refl _) fun p hp => minus_out (hnl p hp)).ext lo g, lo.ext g⟩
  · by_cases e : j = i
    · rw [if_pos e] at hm; simp at hm
    · rw [if_neg e] at hm
      by_cases e2 : l = i
      · rw [if_pos e2]; simp
      · rw [if_neg e2]; exact s.dj j l q hne hm
  · by_cases e : j = i
    · rw [if_pos e]
    · rw [if_neg e]
      exact s.nl j fun ev2 h => hj ev2 (by rw [List.getElem?_set_ne (Ne.symm e)]; exact h)
/-- data that _law_spoilt takes, n deep -/
def D.leaf : D → Bool
  | .non => true
  | .bl _ => true
  | .int _ => true
  | .str x => PyData.strOk x
  | _ => false
def okS : Nat → D → Bool
  | n + 1, .lst ds => decide (ds.length < sizeLine) && ds.all (okS n)
  | n + 1, .tup ds => decide (ds.length < sizeLine) && ds.all (okS n)
  | n + 1, .dK ks ds => (decide (ks.length < 1000) && decide (ks.length = ds.length)) && ds.all fun d => d.flat && okS n d
  | _, d => d.leaf
/-- a def that spoils what is handed over to it -/
def spW (K : Frag) (n : Nat) : Sp := fun vs H Q _ => ∃ w d v L st, vs = [v] ∧ okS n d = true ∧ Sto w H st ∧ OwnT K w H d v L ∧ (∀ p ∈ L, H p ≠ none ∧ w.Z p = none ∧ p ∉ w.cl) ∧ ∀ w' H', Ext w (minus H L) w' H' → Sto w' H' st → Q .non H'
/-- f(x), x a slot: it is spoilt -/
def sSpoil (n i : Nat) : TDS := fun D env st => match env[i]? with
  | some (some ev) => (ev.tree = true ∧ okS n ev.d = true) ∧ D.nx (env.set i none) st
  | _ => False
variable {k n : Nat} {f : Addr} {fd : FuncData} {ps : List Str} {x : Str}
theorem s_spoil (F : FnOk X.prog X.w X.K X.mg X.base CX0 k f fd ps (spW X.K n)) (T : TxF X.K X.mg x f fd ps) (hr : Room k X.A) (i : Nat) {y : Str} {p py : Pos} (hg : Gl X x := by rfl) (hdb : (x == ("__debug__" : Str)) = false := by decide)
    (he : starEach [.Name y py] X.env = (false, eval (.Name y py) X.env) :: starEach [] X.env := by rfl) (hpl : (backTo pos (starEach [] X.env)).any (·.1) = false := by rfl)
    (hN : X.N[i]? = some y := by rfl) (hv : Vis X.env.scope y := by first | exact Or.inl rfl | exact Or.inr (Or.inl rfl) | exact Or.inr (Or.inr rfl)) (hd : (y == ("__debug__" : Str)) = false := by decide)
    (hcd : (y == ("__classdict__" : Str)) = false := by decide) (hs : swapsWith (.Call (.Name x p) [.Name y py] [] pos) none pos.line X.env = pure false := by rfl) : DS X (.Expr (.Call (.Name x p) [.Name y py] [] pos) pos) (sSpoil n i) := by
  refine ⟨_, ps_expr (pe_call (E := fun _ _ _ => False) F hr hg T.g T.kp T.b .nil (pass0) (pa_cons (pe_var hN hv hd hcd) pa_nil he) hdb he hpl) hs, fun w0 H0 w σ H env st D D' r q k => ?_⟩
  unfold sSpoil at q
  split at q
  · rename_i ev hev
    obtain ⟨Ls, S⟩ := r.sl.norm
    obtain ⟨v, hv, hok, hl⟩ := S.ok i ev hev
    refine ⟨v, hv, w, ev.d, v, Ls i, st, rfl, q.1.2, r.s, hok.own_t q.1.1, fun p hp => let ⟨_, b⟩ := hl p hp; b, fun w' H' x s => ?_⟩
    exact k.nx w' σ H' _ st x.le ⟨r.x.cut x fun p hp => (hl p hp).1, s, (S.cut (fun l hne p hp => S.dj i l p (Ne.symm hne) hp) x).slots⟩ q.2
  · exact q.elim
end
end DL

set_option Elab.async false
set_option linter.all false
set_option maxRecDepth 100000
set_option maxHeartbeats 4000000
/-! DL13: the walk that spoils. -/
namespace DL
open PySem PySem.Spec L2
theorem Reps.tops {K : Frag} {cl : List Addr} {Z : Hp} : ∀ (vs : List V), Reps K cl Z (List.replicate vs.length .top) vs
  | [] => rfl
  | v :: vs => ⟨v, vs, rfl, True.intro, Reps.tops vs⟩
/-- for y in x: f(y), x a slot's own tree (or frozen data without lists) -/
def sSpoilFor (n i j : Nat) : TDS := fun D env st => match env[i]? with
  | some (some (.deep (.lst ds))) => ds.all (okS n) = true ∧ D.nx (((env.set j none).set i none).set i (some (.own (.lst (List.replicate ds.length .top))))) st
  | some (some (.deep (.tup ds))) => ds.all (okS n) = true ∧ D.nx (((env.set j none).set i none).set i (some (.dat (.tup (List.replicate ds.length .top))))) st
  | _ => False
section
variable {X : Cx} {k n : Nat} {f : Addr} {fd : FuncData} {ps : List Str} {x : Str} {pos p cpos : Pos} {K : Frag}
theorem set_id {α : Type} : ∀ {xs : List α} {i : Nat} {a : α}, xs[i]? = some a → xs.set i a = xs
  | [], _, _, h => by simp at h
  | x :: xs, 0, a, h => by simp at h; subst h; rfl
  | x :: xs, i + 1, a, h => by rw [List.set_cons_succ, set_id (by simpa using h)]
theorem SlotsL.drop {H0 : Hp} {w : Wd} {σ : L2.St} {H : Hp} {env : DEnv} {Ls : Nat → List Addr} (s : SlotsL K H0 w σ H env Ls) (i : Nat) : SlotsL K H0 w σ H (env.set i none) (fun j => if j = i then [] else Ls j) := by
  have : minus H [] = H := funext fun a => minus_out (by simp)
  exact s.cut (L := []) (i := i) (fun l _ p hp => by simp at hp) (by rw [this]; exact Ext.refl _ _)
/-- a slot nobody asks about changes -/
theorem SlotsL.free {H0 : Hp} {w : Wd} {σ : L2.St} {H : Hp} {env : DEnv} {Ls : Nat → List Addr} (s : SlotsL K H0 w σ H env Ls) {j : Nat} (hj : ∀ ev, env[j]? ≠ some (some ev)) (o : Option V) : SlotsL K H0 w (σ.set j o) H env Ls := by
  refine ⟨by rw [List.length_set]; exact s.len, fun l ev he => ?_, s.dj, s.nl⟩
  obtain ⟨v, hv, r⟩ := s.ok l ev he
  have hne : j ≠ l := fun z => hj ev (by rw [z]; exact he)
  exact ⟨v, by rw [List.getElem?_set_ne hne]; exact hv, r⟩
theorem none_set {env : DEnv} {i : Nat} : ∀ ev, (env.set i none)[i]? ≠ some (some ev) := fun ev h => by
  by_cases hi : i < env.length
  · rw [List.getElem?_set_self hi] at h; cases h
  · rw [List.getElem?_eq_none (by simpa using hi)] at h; cases h
theorem none_set2 {env : DEnv} {i j : Nat} : ∀ ev, ((env.set j none).set i none)[j]? ≠ some (some ev) := fun ev h => by
  by_cases e : i = j
  · subst e; exact none_set ev h
  · rw [List.getElem?_set_ne e] at h; exact none_set ev h
/-- the turns of such a walk: G tells of the heap what the walk needs -/
theorem spoil_turns {w0 w : Wd} {H0 H : Hp} {σ : L2.St} {env : DEnv} {st : Store} {Ls : Nat → List Addr} {J : It} {ds : List D} {vs : List V} {Lr : List Addr} {j : Nat} {G : Wd → Hp → Prop} {E : XK} {D : Ends}
    (x0 : Ext w0 H0 w H) (so : Sto w H st) (S : SlotsL K H0 w σ H env Ls) (hj : ∀ ev, env[j]? ≠ some (some ev)) (hij : j < σ.length) (ho : OwnTs K w H ds vs Lr) (hds : ds.all (okS n) = true)
    (lo : LOk w H0 H Lr) (dj : ∀ l p, p ∈ Lr → p ∉ Ls l) (hG : G w H) (hGs : ∀ w1 H1 w2 H2 L, (∀ p ∈ L, p ∈ Lr) → Ext w1 (minus H1 L) w2 H2 → G w1 H1 → G w2 H2)
    (hJ : ∀ w H st, Sto w H st → G w H → (∀ (i : Nat) (v : V), vs[i]? = some v → J.go i H ∧ ∀ x H', J.yld i H x H' → x = v ∧ H' = H) ∧ J.stop vs.length H)
    (hn : ∀ w' H' σ' Ls', Le w w' → Ext w0 H0 w' H' → Sto w' H' st → SlotsL K H0 w' σ' H' env Ls' → (∀ l p, p ∈ Ls' l → p ∈ Ls l) → (∀ l, l ≠ j → σ'[l]? = σ[l]?) → G w' H' → D.nx σ' H') :
    ∃ W : Nat → Nat → L2.St → Hp → Prop, (∃ m, W 0 m σ H) ∧ ∀ i m σ H, W i m σ H →
      (J.stop i H ∧ D.nx σ H) ∨ (J.go i H ∧ ∃ N : L2.St → Hp → Prop, (∀ σ' H', N σ' H' → ∃ m', m' < m ∧ W (i + 1) m' σ' H') ∧ ∀ x H', J.yld i H x H' → gName j x σ H' fun σ2 H2 => tDrop (tCall (spW K n) [] E (tCons (tVar j) tNil)) { D with nx := N, ct := N, bk := D.nx } σ2 H2) := by
  refine ⟨fun i m σ' H' => m = ds.length - i ∧ i ≤ ds.length ∧ ∃ w' L', Le w w' ∧ Ext w0 H0 w' H' ∧ Sto w' H' st ∧ SlotsL K H0 w' σ' H' env Ls ∧ OwnTs K w' H' (ds.drop i) (vs.drop i) L' ∧ LOk w' H0 H' L' ∧ (∀ p ∈ L', p ∈ Lr) ∧ G w' H' ∧ (∀ l, l ≠ j → σ'[l]? = σ[l]?) ∧ σ'.length = σ.length,
    ⟨ds.length, by simp, Nat.zero_le _, w, Lr, Le.refl _, x0, so, S, by simpa using ho, lo, fun p h => h, hG, fun l _ => rfl, rfl⟩, ?_⟩
  rintro i m σ' H' ⟨rfl, hi, w', L', le, x, s, S', o, lo', sub, g, hσ, hlen⟩
  obtain ⟨f1, f2⟩ := hJ w' H' st s g
  have hl := ho.length
  by_cases hlt : i < ds.length
  · have hltv : i < vs.length := by omega
    obtain ⟨go, yl⟩ := f1 i vs[i] (List.getElem?_eq_getElem hltv)
    rw [List.drop_eq_getElem_cons hlt, List.drop_eq_getElem_cons hltv] at o
    obtain ⟨v, r, L1, L2, e1, rfl, h1, h2, h3⟩ := o
    cases e1
    refine .inr ⟨go, fun σ2 H2 => (fun m' => m' = ds.length - (i + 1) ∧ i + 1 ≤ ds.length ∧ ∃ w' L', Le w w' ∧ Ext w0 H0 w' H2 ∧ Sto w' H2 st ∧ SlotsL K H0 w' σ2 H2 env Ls ∧ OwnTs K w' H2 (ds.drop (i + 1)) (vs.drop (i + 1)) L' ∧ LOk w' H0 H2 L' ∧ (∀ p ∈ L', p ∈ Lr) ∧ G w' H2 ∧ (∀ l, l ≠ j → σ2[l]? = σ[l]?) ∧ σ2.length = σ.length) (ds.length - (i + 1)), fun σ2 H2 h => ⟨ds.length - (i + 1), by omega, h⟩, fun x1 H1 y => ?_⟩
    obtain ⟨rfl, rfl⟩ := yl x1 H1 y
    have l1 : LOk w' H0 H1 L1 := fun p hp => lo' p (List.mem_append_left _ hp)
    have l2 : LOk w' H0 H1 L2 := fun p hp => lo' p (List.mem_append_right _ hp)
    have hj' : j < σ'.length := by omega
    refine ⟨vs[i], List.getElem?_set_self hj', w', ds[i], vs[i], L1, st, rfl, List.all_eq_true.mp hds _ (List.getElem_mem hlt), s, h2, fun p hp => (l1 p hp).2, fun w2 H2 x2 s2 => ?_⟩
    have S3 := (S'.free hj (some vs[i])).cut (L := L1) (i := j) (fun l _ p hp => dj l p (sub p (List.mem_append_left _ hp))) x2
    have hn2 : ∀ p ∈ L2, p ∉ L1 := fun p hp hq => h1 p hq hp
    have lo2 : LOk w' H0 (minus H1 L1) L2 := fun p hp => let ⟨a, b, c⟩ := l2 p hp; ⟨a, by rw [minus_out (hn2 p hp)]; exact b, c⟩
    refine ⟨rfl, hlt, w2, L2, le.trans x2.le, x.cut x2 fun p hp => (l1 p hp).1, s2, ?_, OwnTs.ext x2 _ _ _ (fun p hp => (l2 p hp).2.2.2) (OwnTs.at_ (w' := w') (Same.refl _) (Pre.refl _) _ _ _ (fun p hp => minus_out (hn2 p hp)) h3), lo2.ext x2, fun p hp => sub p (List.mem_append_right _ hp), hGs _ _ _ _ L1 (fun p hp => sub p (List.mem_append_left _ hp)) x2 g, fun l hl => by rw [List.getElem?_set_ne (Ne.symm hl)]; exact hσ l hl, by rw [List.length_set]; exact hlen⟩
    refine ⟨by rw [List.length_set]; rw [hlen, ← S.len], fun l ev he => ?_, S'.dj, S'.nl⟩
    have hne : l ≠ j := fun z => hj ev (by rw [← z]; exact he)
    obtain ⟨v2, hv2, r2⟩ := S3.ok l ev (by rw [List.getElem?_set_ne (Ne.symm hne)]; exact he)
    simp only [if_neg hne] at r2
    exact ⟨v2, hv2, r2⟩
  · have e : i = ds.length := by omega
    subst e
    exact .inl ⟨by rw [hl]; exact f2, hn w' H' σ' Ls le x s S' (fun l p h => h) hσ g⟩
theorem s_spoilFor (F : FnOk X.prog X.w X.K X.mg X.base CX0 k f fd ps (spW X.K n)) (T : TxF X.K X.mg x f fd ps) (hr : Room k X.A) (hp : PassesOwn (model X.prog X.w) X.A X.env X.xe) (i j : Nat) {y z : Str} {p py pz pt cp ep : Pos} (hnd : X.N.Nodup) (hij : i ≠ j) (hg : Gl X x := by rfl) (hdb : (x == ("__debug__" : Str)) = false := by decide)
    (he : starEach [.Name y py] X.env = (false, eval (.Name y py) X.env) :: starEach [] X.env := by rfl) (hpl : (backTo cp (starEach [] X.env)).any (·.1) = false := by rfl)
    (hN : X.N[j]? = some y := by rfl) (hv : Vis X.env.scope y := by first | exact Or.inl rfl | exact Or.inr (Or.inl rfl) | exact Or.inr (Or.inr rfl)) (hd : (y == ("__debug__" : Str)) = false := by decide)
    (hcd : (y == ("__classdict__" : Str)) = false := by decide) (hs : swapsWith (.Call (.Name x p) [.Name y py] [] cp) none ep.line X.env = pure false := by rfl)
    (hx : Loc X.env.scope y := by first | exact Or.inl rfl | exact Or.inr rfl) (hf : X.fn y = true ∨ X.env.scope.names.lookup y = some .local := by first | exact .inl rfl | exact .inr rfl | assumption)
    (hN2 : X.N[i]? = some z := by rfl) (hv2 : Vis X.env.scope z := by first | exact Or.inl rfl | exact Or.inr (Or.inl rfl) | exact Or.inr (Or.inr rfl)) (hd2 : (z == ("__debug__" : Str)) = false := by decide)
    (hcd2 : (z == ("__classdict__" : Str)) = false := by decide) (hc : X.calm = true := by rfl) (hs2 : ∀ x, foldedSetIterable (.Name z pz) X.env x = pure x := by intro _; rfl)
    (hNl : X.N.length = X.N.length := by rfl) : DS X (.For (.Name y pt) (.Name z pz) [.Expr (.Call (.Name x p) [.Name y py] [] cp) ep] [] pos) (fun D env st => j < env.length ∧ sSpoilFor n i j D env st) := by
  refine ⟨_, ps_for hp hc (pi_seq (pe_var hN2 hv2 hd2 hcd2)) (pg_name hnd hN hx hf) (pss_one (ps_expr (pe_call (E := fun _ _ _ => False) F hr hg T.g T.kp T.b .nil (pass0) (pa_cons (pe_var hN hv hd hcd) pa_nil he) hdb he hpl) hs)) hs2, fun w0 H0 w σ H env st D D' r q k => ?_⟩
  obtain ⟨hjl, q⟩ := q
  unfold sSpoilFor at q
  split at q
  · rename_i ds hev
    obtain ⟨Ls, S⟩ := r.sl.norm
    obtain ⟨v, hv, hok, hl⟩ := S.ok i _ hev
    obtain ⟨p, vs, L', rfl, eL, hpL, hH, ho⟩ := (show ∃ p vs L', v = .ref p ∧ Ls i = p :: L' ∧ p ∉ L' ∧ H p = some (.lst vs) ∧ OwnTs X.K w H ds vs L' from hok)
    rw [eL] at hl
    have lp := hl p List.mem_cons_self
    have lo : LOk w H0 H L' := fun p hp => hl p (List.mem_cons_of_mem _ hp)
    have S2 := (S.drop j).drop i
    refine ⟨.ref p, hv, p, rfl, .inl ⟨⟨vs, .of hH⟩, ?_⟩⟩
    refine spoil_turns (G := fun w1 H1 => H1 p = some (.lst vs) ∧ w1.Z p = none ∧ p ∉ w1.cl) r.x r.s S2 none_set2 (by rw [← r.sl.len]; exact hjl) ho q.1 lo (fun l p' hp' hm => ?_) ⟨hH, lp.2.2⟩ (fun w1 H1 w2 H2 L hL x1 g => ?_) (fun w1 H1 st1 s1 g => ?_) fun w' H' σ' Ls' le x1 s1 S1 sub hσ g => ?_
    · split at hm
      · simp at hm
      · rename_i h1
        split at hm
        · simp at hm
        · exact S.dj i l p' (fun z => h1 z.symm) (by rw [eL]; exact List.mem_cons_of_mem _ hp') hm
    · have hpn : p ∉ L := fun z => hpL (hL p z)
      have hm : minus H1 L p = some (.lst vs) := by rw [minus_out hpn]; exact g.1
      exact ⟨x1.kp p _ hm g.2.2, x1.znone (some_ne hm) g.2.1, x1.cln (some_ne hm) g.2.2⟩
    · have sq : SqL X.K H1 p vs := .of g.1
      refine ⟨fun i v hi => ⟨walk_list.goes i H1 (List.getElem?_eq_some_iff.mp hi).1 sq, fun x' H' y => ?_⟩, walk_list.stops H1 sq⟩
      obtain ⟨e1, e2⟩ := walk_list.yields i H1 x' H' (List.getElem?_eq_some_iff.mp hi).1 sq y
      exact ⟨Option.some.inj (e2.symm.trans hi), e1⟩
    · have hl' : ds.length = vs.length := ho.length
      have hσi : σ'[i]? = some (some (.ref p)) := by rw [hσ i hij]; exact hv
      have S3 := S1.put i (L := [p]) (v := .ref p) (ev := .own (.lst (List.replicate ds.length .top))) ⟨p, rfl, rfl, vs, g.1, by rw [hl']; exact Reps.tops vs⟩ (fun q hq => by
        rw [List.mem_singleton.mp hq]; exact ⟨lp.1, some_ne g.1, g.2⟩) (by rw [List.length_set, List.length_set]; exact (List.getElem?_eq_some_iff.mp hev).1) (fun l hne q hq hm => by
        rw [List.mem_singleton.mp hq] at hm
        have hm := sub l p hm
        rw [if_neg hne] at hm
        split at hm
        · simp at hm
        · exact S.dj i l p (Ne.symm hne) (by rw [eL]; exact List.mem_cons_self) hm)
      rw [set_id hσi] at S3
      exact k.nx w' σ' H' _ st le ⟨x1, s1, S3.slots⟩ q.2
  · rename_i ds hev
    obtain ⟨Ls, S⟩ := r.sl.norm
    obtain ⟨v, hv, hok, hl⟩ := S.ok i _ hev
    obtain ⟨p, vs, rfl, ha, ho⟩ := (show ∃ a vs, v = .ref a ∧ SqT X.K w.Z a vs ∧ OwnTs X.K w H ds vs (Ls i) from hok)
    have S2 := (S.drop j).drop i
    refine ⟨.ref p, hv, p, rfl, .inr ⟨⟨vs, Same.seqT r.s.sub ha⟩, ?_⟩⟩
    refine spoil_turns (Lr := Ls i) (G := fun w1 H1 => Same w.Z w1.Z) r.x r.s S2 none_set2 (by rw [← r.sl.len]; exact hjl) ho q.1 hl (fun l p' hp' hm => ?_) (Same.refl _) (fun w1 H1 w2 H2 L hL x1 g => g.trans x1.z) (fun w1 H1 st1 s1 g => ?_) fun w' H' σ' Ls' le x1 s1 S1 sub hσ g => ?_
    · split at hm
      · simp at hm
      · rename_i h1
        split at hm
        · simp at hm
        · exact S.dj i l p' (fun z => h1 z.symm) hp' hm
    · have sq : SqT X.K H1 p vs := Same.seqT (g.trans s1.sub) ha
      refine ⟨fun i v hi => ⟨walk_tup.goes i H1 (List.getElem?_eq_some_iff.mp hi).1 sq, fun x' H' y => ?_⟩, walk_tup.stops H1 sq⟩
      obtain ⟨e1, e2⟩ := walk_tup.yields i H1 x' H' (List.getElem?_eq_some_iff.mp hi).1 sq y
      exact ⟨Option.some.inj (e2.symm.trans hi), e1⟩
    · have hl' : ds.length = vs.length := ho.length
      have hσi : σ'[i]? = some (some (.ref p)) := by rw [hσ i hij]; exact hv
      have S3 := S1.put i (L := []) (v := .ref p) (ev := .dat (.tup (List.replicate ds.length .top))) ⟨rfl, p, vs, rfl, Same.seqT g ha, by rw [hl']; exact Reps.tops vs⟩ (fun q hq => by simp at hq) (by rw [List.length_set, List.length_set]; exact (List.getElem?_eq_some_iff.mp hev).1) (fun l hne q hq hm => by simp at hq)
      rw [set_id hσi] at S3
      exact k.nx w' σ' H' _ st le ⟨x1, s1, S3.slots⟩ q.2
  · exact q.elim
/-- the callee's start -/
theorem slots_spoil {w : Wd} {H : Hp} {N : List Str} {d : D} {v : V} {L : List Addr} (ho : OwnT K w H d v L) (hl : ∀ p ∈ L, H p ≠ none ∧ w.Z p = none ∧ p ∉ w.cl) : Slots K (minus H L) w (L2.start N [v]) H (some (.deep d) :: List.replicate (N.length - 1) none) := by
  refine ⟨by unfold L2.start; simp, fun i => if i = 0 then L else [], fun i ev he => ?_, fun i j p hne hm => ?_⟩
  · cases i with
    | zero => cases he; exact ⟨v, rfl, ho, fun p hp => ⟨minus_in hp, hl p hp⟩⟩
    | succ i =>
      rw [List.getElem?_cons_succ] at he
      have := List.mem_of_getElem? he
      rw [List.mem_replicate] at this
      cases this.2
  · by_cases e : i = 0
    · subst e
      simp [Ne.symm hne]
    · simp [e] at hm
variable {P : Program} {w : World} {mg : Str → Option Value} {base : Heap} {qual : Str} {params : Arguments} {body : List Stmt} {scope : Scope} {dvs : List V} {kws : List (Str × V)}
theorem def_okW {N ps : List Str} {k n : Nat} (F : FunD K x qual params body scope dvs kws f fd) (S : FnScope N ps scope) (hn : ps.length = 1)
    (hb : ∀ (cdv : Value) (A : Around) (outer : List Env) (s : Shared) (H : Hp) (E : XK), Room k (A.deeper (PyProof.Rows.envOfC qual scope s.heap.objs.size f cdv)) →
      ∃ tds, DSs (cxOf CX0 P w K mg base N qual scope f cdv A outer s H E).nox body tds ∧ ∀ d st, okS n d = true → tds { nx := fun _ st' => st' = st, rt := fun _ _ => False } (some (.deep d) :: List.replicate (N.length - 1) none) st) : FnOk P w K mg base CX0 (k + 1) f fd ps (spW K n) := by
  refine F.ok S (fun vs H Q E h => ?_) fun cdv A outer s H vs Q E hr h => ?_
  · obtain ⟨w, d, v, L, st, rfl, _⟩ := h
    rw [hn]; rfl
  · obtain ⟨tds, hd, hq⟩ := hb cdv A outer s H E hr
    obtain ⟨t, p, l⟩ := hd.ex
    obtain ⟨w, d, v, L, st, rfl, hS, so, ho, hl, k⟩ := h
    refine ⟨t, p.nox, l w (minus H L) w (L2.start N [v]) H _ st _ _ ⟨ext_minus w H L, so, slots_spoil ho hl⟩ (hq d st hS) ⟨fun w' σ' H' env' st' le r' q => ?_, fun w' H' v ev st' x s r q => q.elim, fun _ _ _ _ _ _ _ q => q.elim, fun _ _ _ _ _ _ _ q => q.elim⟩⟩
    subst q
    exact k w' H' r'.x r'.s
end
end DL

set_option Elab.async false
set_option linter.all false
set_option maxRecDepth 100000
set_option maxHeartbeats 4000000
/-! DL14: loops and comprehensions by an invariant; purses. -/
namespace DL
open PySem PySem.Spec L2
theorem dLoop_inv {g : TDG} {tb : TDS} {D : DEnds} (I : Nat → DEnv → Store → Prop) : ∀ (ds : List DL.D) (env : DEnv) (st : Store),
    (∀ i d env st nx, ds[i]? = some d → I i env st → (∀ env' st', I (i + 1) env' st' → nx env' st') → g d env st fun env1 st1 => tb { D with nx := nx, ct := nx, bk := D.nx } env1 st1) →
    I 0 env st → (∀ env st, I ds.length env st → D.nx env st) → dLoop g tb ds D env st
  | [], env, st, _, h0, he => he env st h0
  | d :: ds, env, st, h, h0, he => by
    show g d env st fun env1 st1 => tb { D with nx := dLoop g tb ds D, ct := dLoop g tb ds D, bk := D.nx } env1 st1
    refine h 0 d env st _ rfl h0 fun env' st' h1 => ?_
    exact dLoop_inv (fun i => I (i + 1)) ds env' st' (fun i d env st nx hd hi k => h (i + 1) d env st nx (by simpa using hd) hi k) h1 he
theorem dComp_inv {gd : TDG} {tt : TDT} {te : TD} {vs : List Nat} {env : DEnv} {Q : List D → Store → Prop} (I : Nat → List D → Store → Prop) : ∀ (ds acc : List D) (st : Store),
    (∀ i d acc st (Q1 : D → Store → Prop) (Q2 : Store → Prop), ds[i]? = some d → I i acc st → (∀ y st', I (i + 1) (acc ++ [y]) st' → Q1 y st') → (∀ st', I (i + 1) acc st' → Q2 st') → gd d (wipeE env vs) st fun env1 st1 => tt env1 st1 fun b st2 => if b = true then te env1 st2 Q1 else Q2 st2) →
    I 0 acc st → acc.length + ds.length ≤ sizeLine → (∀ acc st, I ds.length acc st → Q acc st) → dComp gd tt te vs ds acc env st Q
  | [], acc, st, _, h0, hl, he => he acc st h0
  | d :: ds, acc, st, h, h0, hl, he => by
    rw [List.length_cons] at hl
    refine h 0 d acc st (fun y st3 => acc.length < sizeLine ∧ dComp gd tt te vs ds (acc ++ [y]) env st3 Q) (fun st2 => dComp gd tt te vs ds acc env st2 Q) rfl h0 (fun y st' h1 => ⟨by omega, ?_⟩) fun st' h1 => ?_
    · exact dComp_inv (fun i => I (i + 1)) ds _ _ (fun i d acc st Q1 Q2 hd hi k1 k2 => h (i + 1) d acc st Q1 Q2 (by simpa using hd) hi k1 k2) h1 (by simp; omega) he
    · exact dComp_inv (fun i => I (i + 1)) ds _ _ (fun i d acc st Q1 Q2 hd hi k1 k2 => h (i + 1) d acc st Q1 Q2 (by simpa using hd) hi k1 k2) h1 (by omega) he
theorem dComp_map {gd : TDG} {te : TD} {vs : List Nat} {env : DEnv} {st : Store} {Q : List D → Store → Prop} (f : D → D) : ∀ (ds acc : List D), (∀ d ∈ ds, ∀ Q1 : D → Store → Prop, Q1 (f d) st → gd d (wipeE env vs) st fun env1 st1 => te env1 st1 Q1) →
    acc.length + ds.length ≤ sizeLine → Q (acc ++ ds.map f) st → dComp gd dYes te vs ds acc env st Q
  | [], acc, h, hl, q => by simpa [dComp] using q
  | d :: ds, acc, h, hl, q => by
    rw [List.length_cons] at hl
    refine h d List.mem_cons_self (fun y st3 => acc.length < sizeLine ∧ dComp gd dYes te vs ds (acc ++ [y]) env st3 Q) ⟨by omega, ?_⟩
    exact dComp_map f ds _ (fun d hd => h d (List.mem_cons_of_mem _ hd)) (by simp; omega) (by simpa using q)
theorem dComp_filter {gd : TDG} {tt : TDT} {te : TD} {vs : List Nat} {env : DEnv} {st : Store} {Q : List D → Store → Prop} (p : D → Bool) (f : D → D) : ∀ (ds acc : List D),
    (∀ d ∈ ds, ∀ (Q1 : D → Store → Prop) (Q2 : Store → Prop), (if p d = true then Q1 (f d) st else Q2 st) → gd d (wipeE env vs) st fun env1 st1 => tt env1 st1 fun b st2 => if b = true then te env1 st2 Q1 else Q2 st2) →
    acc.length + ds.length ≤ sizeLine → Q (acc ++ (ds.filter p).map f) st → dComp gd tt te vs ds acc env st Q
  | [], acc, h, hl, q => by simpa [dComp] using q
  | d :: ds, acc, h, hl, q => by
    rw [List.length_cons] at hl
    refine h d List.mem_cons_self (fun y st3 => acc.length < sizeLine ∧ dComp gd tt te vs ds (acc ++ [y]) env st3 Q) (fun st2 => dComp gd tt te vs ds acc env st2 Q) ?_
    by_cases hp : p d = true
    · rw [if_pos hp]
      rw [List.filter_cons_of_pos hp] at q
      exact ⟨by omega, dComp_filter p f ds _ (fun d hd => h d (List.mem_cons_of_mem _ hd)) (by simp; omega) (by simpa using q)⟩
    · rw [if_neg hp]
      rw [List.filter_cons_of_neg hp] at q
      exact dComp_filter p f ds _ (fun d hd => h d (List.mem_cons_of_mem _ hd)) (by omega) q
/-! ### purses: what _law_purse makes, what _law_draw changes -/
def Purse (b : Nat) (ns : List Int) : Prop := ∃ a c s t : Int, ns = [a, c, s, t] ∧ (0 ≤ a ∧ a < 2 ^ 1700) ∧ (0 ≤ c ∧ c < 2 ^ 31) ∧ (0 ≤ s ∧ s ≤ b) ∧ (0 ≤ t ∧ t ≤ 64)
theorem Purse.mono {b b' : Nat} {ns : List Int} (h : Purse b ns) (hb : b ≤ b') : Purse b' ns := by
  obtain ⟨a, c, s, t, e, h1, h2, h3, h4⟩ := h
  exact ⟨a, c, s, t, e, h1, h2, ⟨h3.1, by omega⟩, h4⟩
/-- a draw: any r below many -/
def phiDraw : Phi := fun ds st Q => ∃ (n : Nat) (many : Int) (ns : List Int) (b : Nat), ds = [.cel n, .int many] ∧ (1 ≤ many ∧ many < 2 ^ 27) ∧ st[n]? = some ns ∧ Purse b ns ∧ b < 2 ^ 30 ∧ ∀ (r : Int) (ns' : List Int), 0 ≤ r → r < many → Purse (b + 1) ns' → Q (.dat (.int r)) (st.set n ns')
/-- natural numbers as data -/
theorem rangeD_get {lo : Int} {n i : Nat} {d : D} (h : (rangeD lo n)[i]? = some d) : i < n ∧ d = .int (lo + (i : Nat)) := by
  unfold rangeD at h
  rw [List.getElem?_map] at h
  cases q : (List.range n)[i]? with
  | none => rw [q] at h; cases h
  | some j =>
    rw [q] at h
    cases h
    obtain ⟨h1, h2⟩ := List.getElem?_eq_some_iff.mp q
    rw [List.getElem_range] at h2
    rw [List.length_range] at h1
    subst h2
    exact ⟨h1, rfl⟩
theorem rangeD_mem {lo : Int} {n : Nat} {d : D} (h : d ∈ rangeD lo n) : ∃ i : Nat, i < n ∧ d = .int (lo + (i : Nat)) := by
  obtain ⟨i, hi, e⟩ := List.getElem_of_mem h
  obtain ⟨a, b⟩ := rangeD_get (lo := lo) (n := n) (i := i) (d := d) (by rw [List.getElem?_eq_getElem hi, e])
  exact ⟨i, a, b⟩
theorem ixN_of {n : Nat} {k : Int} {j : Nat} (h : k = (j : Nat)) (hj : j < n) : ixN n k = some j := by
  subst h
  unfold ixN
  simp [hj]
/-! ### the readings of operators on data of a known shape -/
section
variable {Q : D → Prop} {a b c e : D} {r : List D} {T : String} {i j : Int}
theorem wIx_t0 : wIx (.tup (a :: r)) (.int 0) Q = Q a := by simp [wIx, atI, ixN]
theorem wIx_t1 : wIx (.tup (a :: b :: r)) (.int 1) Q = Q b := by
  have : (1 : Int) < (r.length : Int) + 1 + 1 := by omega
  simp [wIx, atI, ixN, this]
theorem wIx_t2 : wIx (.tup (a :: b :: c :: r)) (.int 2) Q = Q c := by
  have : (2 : Int) < (r.length : Int) + 1 + 1 + 1 := by omega
  simp [wIx, atI, ixN, this]
theorem wIx_l0 : wIx (.lst (a :: r)) (.int 0) Q = Q a := by simp [wIx, atI, ixN]
theorem wIx_q0 {q : Rat} : wIx (qD q) (.int 0) Q = Q (.int q.num) := wIx_t0
theorem wIx_q1 {q : Rat} : wIx (qD q) (.int 1) Q = Q (.int (q.den : Int)) := wIx_t1
theorem wIx_l {xs : List D} {k : Int} {n : Nat} {x : D} (h : xs[n]? = some x) (hk : k = (n : Nat)) (q : Q x) : wIx (.lst xs) (.int k) Q := by
  have hn := (List.getElem?_eq_some_iff.mp h).1
  exact ⟨x, by unfold atI; rw [ixN_of hk hn]; exact h, q⟩
theorem wIx_last {xs : List D} {x : D} (h : xs.getLast? = some x) (q : Q x) : wIx (.lst xs) (.int (-1)) Q := by
  have hne : xs ≠ [] := by intro z; subst z; simp at h
  have hp : 0 < xs.length := List.length_pos_iff.mpr hne
  refine ⟨x, ?_, q⟩
  have h1 : -(xs.length : Int) ≤ -1 := by omega
  have h2 : (-1 + (xs.length : Int)).toNat = xs.length - 1 := by omega
  unfold atI ixN
  rw [if_neg (by omega), if_pos h1, h2]
  rw [List.getLast?_eq_getElem?] at h
  exact h
theorem wIsi_int : wIsi (.int i) (.ty T) Q = (tyKnown T = true ∧ Q (.bl (isiT "int" T))) := by simp [wIsi, D.tyn]
theorem wIsi_bl {x : Bool} : wIsi (.bl x) (.ty T) Q = (tyKnown T = true ∧ Q (.bl (isiT "bool" T))) := by simp [wIsi, D.tyn]
theorem wIsi_str {x : Str} : wIsi (.str x) (.ty T) Q = (tyKnown T = true ∧ Q (.bl (isiT "str" T))) := by simp [wIsi, D.tyn]
theorem wIsi_non : wIsi .non (.ty T) Q = (tyKnown T = true ∧ Q (.bl (isiT "NoneType" T))) := by simp [wIsi, D.tyn]
theorem wIsi_lst : wIsi (.lst r) (.ty T) Q = (tyKnown T = true ∧ Q (.bl (isiT "list" T))) := by simp [wIsi, D.tyn]
theorem wIsi_tup : wIsi (.tup r) (.ty T) Q = (tyKnown T = true ∧ Q (.bl (isiT "tuple" T))) := by simp [wIsi, D.tyn]
theorem wIsi_q {q : Rat} : wIsi (qD q) (.ty T) Q = (tyKnown T = true ∧ Q (.bl (isiT "tuple" T))) := wIsi_tup
theorem wLen_lst : wLen (.lst r) Q = Q (.int r.length) := rfl
theorem wLen_scr {ns : List Int} : wLen (.scr ns) Q = Q (.int ns.length) := rfl
theorem wLen_tup : wLen (.tup r) Q = Q (.int r.length) := rfl
theorem wLen_q {q : Rat} : wLen (qD q) Q = Q (.int 2) := rfl
theorem wEq_int : wEq (.int i) (.int j) Q = Q (.bl (decide (i = j))) := by
  have : (D.int i).eqv (.int j) = decide (i = j) := by
    rw [Bool.eq_iff_iff, decide_eq_true_iff]; simp [D.eqv, D.toPy, PyData.eqv]
  simp [wEq, this, D.py]
theorem wNe_int : wNe (.int i) (.int j) Q = Q (.bl (!decide (i = j))) := by
  have : (D.int i).eqv (.int j) = decide (i = j) := by
    rw [Bool.eq_iff_iff, decide_eq_true_iff]; simp [D.eqv, D.toPy, PyData.eqv]
  simp [wNe, this, D.py]
theorem wEq_bl {x y : Bool} : wEq (.bl x) (.bl y) Q = Q (.bl (x == y)) := by
  have : (D.bl x).eqv (.bl y) = (x == y) := by cases x <;> cases y <;> simp [D.eqv, D.toPy, PyData.eqv]
  simp [wEq, this, D.py]
theorem wNe_bl {x y : Bool} : wNe (.bl x) (.bl y) Q = Q (.bl (!(x == y))) := by
  have : (D.bl x).eqv (.bl y) = (x == y) := by cases x <;> cases y <;> simp [D.eqv, D.toPy, PyData.eqv]
  simp [wNe, this, D.py]
theorem wEq_q {p q : Rat} : wEq (qD p) (qD q) Q = Q (.bl (decide (p = q))) := by
  simp [wEq, qD_py, qD_eqv]
theorem wNe_q {p q : Rat} : wNe (qD p) (qD q) Q = Q (.bl (!decide (p = q))) := by
  simp [wNe, qD_py, qD_eqv]
theorem size_small {n : Nat} (h : n ≤ 1000) : n ≤ sizeLine := Nat.le_trans h (by decide)
theorem size_lt {n : Nat} (h : n ≤ 1000) : n < sizeLine := Nat.lt_of_le_of_lt h (by decide)
end
theorem tk_int : tyKnown "int" = true := by decide
theorem tk_bool : tyKnown "bool" = true := by decide
theorem tk_str : tyKnown "str" = true := by decide
theorem tk_list : tyKnown "list" = true := by decide
theorem tk_tuple : tyKnown "tuple" = true := by decide
theorem tk_dict : tyKnown "dict" = true := by decide
theorem isi_NoneType_int : isiT "NoneType" "int" = false := by decide
theorem isi_NoneType_bool : isiT "NoneType" "bool" = false := by decide
theorem isi_NoneType_str : isiT "NoneType" "str" = false := by decide
theorem isi_NoneType_list : isiT "NoneType" "list" = false := by decide
theorem isi_NoneType_tuple : isiT "NoneType" "tuple" = false := by decide
theorem isi_NoneType_dict : isiT "NoneType" "dict" = false := by decide
theorem isi_int_int : isiT "int" "int" = true := by decide
theorem isi_int_bool : isiT "int" "bool" = false := by decide
theorem isi_int_str : isiT "int" "str" = false := by decide
theorem isi_int_list : isiT "int" "list" = false := by decide
theorem isi_int_tuple : isiT "int" "tuple" = false := by decide
theorem isi_int_dict : isiT "int" "dict" = false := by decide
theorem isi_bool_int : isiT "bool" "int" = true := by decide
theorem isi_bool_bool : isiT "bool" "bool" = true := by decide
theorem isi_bool_str : isiT "bool" "str" = false := by decide
theorem isi_bool_list : isiT "bool" "list" = false := by decide
theorem isi_bool_tuple : isiT "bool" "tuple" = false := by decide
theorem isi_bool_dict : isiT "bool" "dict" = false := by decide
theorem isi_str_int : isiT "str" "int" = false := by decide
theorem isi_str_bool : isiT "str" "bool" = false := by decide
theorem isi_str_str : isiT "str" "str" = true := by decide
theorem isi_str_list : isiT "str" "list" = false := by decide
theorem isi_str_tuple : isiT "str" "tuple" = false := by decide
theorem isi_str_dict : isiT "str" "dict" = false := by decide
theorem isi_list_int : isiT "list" "int" = false := by decide
theorem isi_list_bool : isiT "list" "bool" = false := by decide
theorem isi_list_str : isiT "list" "str" = false := by decide
theorem isi_list_list : isiT "list" "list" = true := by decide
theorem isi_list_tuple : isiT "list" "tuple" = false := by decide
theorem isi_list_dict : isiT "list" "dict" = false := by decide
theorem isi_tuple_int : isiT "tuple" "int" = false := by decide
theorem isi_tuple_bool : isiT "tuple" "bool" = false := by decide
theorem isi_tuple_str : isiT "tuple" "str" = false := by decide
theorem isi_tuple_list : isiT "tuple" "list" = false := by decide
theorem isi_tuple_tuple : isiT "tuple" "tuple" = true := by decide
theorem isi_tuple_dict : isiT "tuple" "dict" = false := by decide
theorem isi_dict_int : isiT "dict" "int" = false := by decide
theorem isi_dict_bool : isiT "dict" "bool" = false := by decide
theorem isi_dict_str : isiT "dict" "str" = false := by decide
theorem isi_dict_list : isiT "dict" "list" = false := by decide
theorem isi_dict_tuple : isiT "dict" "tuple" = false := by decide
theorem isi_dict_dict : isiT "dict" "dict" = true := by decide
theorem all_const {α : Type} (xs : List α) : (xs.map fun _ => true).all id = true := by
  rw [List.all_eq_true]
  intro x hx
  obtain ⟨_, _, rfl⟩ := List.mem_map.mp hx
  rfl
theorem bls_const {α : Type} (xs : List α) (f : α → D) : ((xs.map f).map fun _ => D.bl true) = (xs.map fun _ => true).map D.bl := by simp
theorem sz_0 : (0 ≤ sizeLine) = True := by simp
theorem sz_1 : (1 ≤ sizeLine) = True := by simp; decide
theorem sz_2 : (2 ≤ sizeLine) = True := by simp; decide
theorem sz_3 : (3 ≤ sizeLine) = True := by simp; decide
theorem sz_4 : (4 ≤ sizeLine) = True := by simp; decide
theorem sz_5 : (5 ≤ sizeLine) = True := by simp; decide
theorem sz_6 : (6 ≤ sizeLine) = True := by simp; decide
def natD (ns : List Nat) : List D := ns.map fun i => D.int (i : Nat)
theorem rangeD_nat {n : Nat} : rangeD 0 n = natD (List.range n) := by unfold rangeD natD; simp
theorem natD_mem {ns : List Nat} {d : D} (h : d ∈ natD ns) : ∃ i ∈ ns, d = .int (i : Nat) := by
  obtain ⟨i, hi, e⟩ := List.mem_map.mp h
  exact ⟨i, hi, e.symm⟩
theorem natD_filter {p : D → Bool} {ns : List Nat} : (natD ns).filter p = natD (ns.filter fun i => p (.int (i : Nat))) := by unfold natD; rw [List.filter_map]; rfl
theorem natD_length {ns : List Nat} : (natD ns).length = ns.length := by unfold natD; rw [List.length_map]
def D.toN : D → Nat
  | .int i => i.toNat
  | _ => 0
theorem toN_nat {n : Nat} : (D.int (n : Nat)).toN = n := by simp [D.toN]
theorem dComp_mapOf {α : Type} {gd : TDG} {te : TD} {vs : List Nat} {env : DEnv} {st : Store} {Q : List D → Store → Prop} (g h : α → D) : ∀ (xs : List α) (acc : List D), (∀ x ∈ xs, ∀ Q1 : D → Store → Prop, Q1 (h x) st → gd (g x) (wipeE env vs) st fun env1 st1 => te env1 st1 Q1) →
    acc.length + xs.length ≤ sizeLine → Q (acc ++ xs.map h) st → dComp gd dYes te vs (xs.map g) acc env st Q
  | [], acc, hh, hl, q => by simpa [dComp] using q
  | x :: xs, acc, hh, hl, q => by
    rw [List.length_cons] at hl
    refine hh x List.mem_cons_self (fun y st3 => acc.length < sizeLine ∧ dComp gd dYes te vs (xs.map g) (acc ++ [y]) env st3 Q) ⟨by omega, ?_⟩
    exact dComp_mapOf g h xs _ (fun d hd => hh d (List.mem_cons_of_mem _ hd)) (by simp; omega) (by simpa using q)
theorem bq_tf : (true == false) = false := rfl
theorem bq_ft : (false == true) = false := rfl
end DL

set_option Elab.async false
set_option linter.all false
set_option maxRecDepth 100000
set_option maxHeartbeats 4000000
/-! DL15: what a law's helpers promise. -/
namespace DL
open PySem PySem.Spec L2
theorem fnok_false {P : Program} {w : World} {K : Frag} {mg : Str → Option Value} {base : Heap} {f : Addr} {fd : FuncData} {ps : List Str} {n k : Nat} : FnOk P w K mg base CX0 k f fd ps (spD K n fun _ _ _ => False) :=
  ⟨fun _ _ _ _ ⟨_, _, _, _, _, _, _, h, _⟩ => h.elim, fun _ _ _ _ _ _ _ _ _ _ _ _ _ ⟨_, _, _, _, _, _, _, h, _⟩ => h.elim⟩
/-! ### copies, likeness -/
def phi_plainN : Nat → Phi
  | 0 => fun _ _ _ => False
  | n + 1 => fun ds st Q => ∃ d, ds = [d] ∧ okS n d = true ∧ ∀ ev : EV, ev.d = d → Q ev st
def phi_sameN : Nat → Phi
  | 0 => fun _ _ _ => False
  | n + 1 => fun ds st Q => ∃ d, ds = [d, d] ∧ okS n d = true ∧ Q (.dat (.bl true)) st
theorem okS_lst {n : Nat} {ds : List D} (h : okS (n + 1) (.lst ds) = true) : ds.length < sizeLine ∧ ∀ d ∈ ds, okS n d = true := by
  simp [okS] at h
  exact ⟨h.1, h.2⟩
theorem okS_tup {n : Nat} {ds : List D} (h : okS (n + 1) (.tup ds) = true) : ds.length < sizeLine ∧ ∀ d ∈ ds, okS n d = true := by
  simp [okS] at h
  exact ⟨h.1, h.2⟩
/-- what such data are -/
theorem okS_cases {n : Nat} {d : D} (h : okS n d = true) : d = .non ∨ (∃ b, d = .bl b) ∨ (∃ i, d = .int i) ∨ (∃ x, d = .str x ∧ PyData.strOk x = true) ∨ (∃ m ds, n = m + 1 ∧ d = .lst ds ∧ ds.length < sizeLine ∧ ∀ d ∈ ds, okS m d = true) ∨ (∃ m ds, n = m + 1 ∧ d = .tup ds ∧ ds.length < sizeLine ∧ ∀ d ∈ ds, okS m d = true) ∨ (∃ m ks ds, n = m + 1 ∧ d = .dK ks ds ∧ ks.length < 1000 ∧ ks.length = ds.length ∧ ∀ d ∈ ds, d.flat = true ∧ okS m d = true) := by
  cases n with
  | zero => cases d <;> simp_all [okS, D.leaf]
  | succ n =>
    cases d with
    | lst ds => exact .inr (.inr (.inr (.inr (.inl ⟨n, ds, rfl, rfl, (okS_lst h).1, (okS_lst h).2⟩))))
    | tup ds => exact .inr (.inr (.inr (.inr (.inr (.inl ⟨n, ds, rfl, rfl, (okS_tup h).1, (okS_tup h).2⟩)))))
    | dK ks ds =>
      simp [okS] at h
      exact .inr (.inr (.inr (.inr (.inr (.inr ⟨n, ks, ds, rfl, rfl, h.1.1, h.1.2, h.2⟩)))))
    | _ => simp_all [okS, D.leaf]
theorem zipD_self (ds : List D) : zipD ds ds = ds.map fun d => .tup [d, d] := by
  unfold zipD
  induction ds with
  | nil => rfl
  | cons d ds ih => rw [List.zipWith_cons_cons, ih, List.map_cons]
theorem wEq_leaf {d : D} {Q : D → Prop} (h : d.leaf = true) : wEq d d Q = Q (.bl true) := by
  cases d <;> simp_all [D.leaf, wEq, D.py, D.eqv, D.toPy, PyData.eqv]
theorem okS_q {q : Rat} (n : Nat) : okS (n + 1) (qD q) = true := by
  have h : (2 : Nat) < sizeLine := by decide
  cases n <;> simp [qD, okS, D.leaf, h]
/-! ### purses -/
def phi__law_purse : Phi := fun ds st Q => ∃ (ns : List Int) (t : Int), ds = [.scr ns, .int t] ∧ 0 ≤ t ∧ t ≤ 64 ∧ ∀ c, Purse 0 c → Q (.dat (.cel st.length)) (st ++ [c])
def phi__law_mixed : Phi := fun ds st Q => ∃ a b c : Int, ds = [.int a, .int b, .int c] ∧ (0 ≤ a ∧ a < 2 ^ 31) ∧ (0 ≤ b ∧ b < 2 ^ 31) ∧ (0 ≤ c ∧ c ≤ 64) ∧ ∀ r : Int, 0 ≤ r → r < 2 ^ 31 → Q (.dat (.int r)) st
abbrev phi__law_draw : Phi := phiDraw
def phi__law_one_of : Phi := fun ds st Q => ∃ (n : Nat) (xs : List D) (ns : List Int) (b : Nat), ds = [.cel n, .lst xs] ∧ xs ≠ [] ∧ xs.length < 1000 ∧ st[n]? = some ns ∧ Purse b ns ∧ b < 2 ^ 30 ∧ ∀ x ns', x ∈ xs → Purse (b + 1) ns' → Q (.dat x) (st.set n ns')
def phi__law_purses : Phi := fun ds st Q => ∃ (ns : List Int) (few : Nat), ds = [.scr ns, .int few] ∧ few ≤ 60 ∧ st = [] ∧ ∀ (k : Nat) (cs : List (List Int)), 1 ≤ k → k ≤ max 1 few → cs.length = k → (∀ c ∈ cs, Purse 0 c) → ∀ ev : EV, ev.d = .lst ((List.range k).map .cel) → Q ev cs
theorem bits_small {i : Int} (h0 : 0 ≤ i) (h : i < 2 ^ 27) : Builtin.Int.intBits i ≤ 27 := by
  exact PySem.intBits_le_iff.mpr (by omega)
theorem small_div {i j : Int} (h0 : j ≠ 0) (h : j.natAbs < 2 ^ 100) : CDivG i j := ⟨h0, Nat.lt_of_lt_of_le h (Nat.pow_le_pow_right (by decide) (by decide))⟩
theorem mod_in {i j : Int} (h : 0 < j) : 0 ≤ i % j ∧ i % j < j := ⟨Int.emod_nonneg _ (by omega), Int.emod_lt_of_pos _ h⟩
theorem mixed_facts {x y z : Int} (h0 : 0 ≤ x ∧ x < 2 ^ 31) (h1 : 0 ≤ y ∧ y < 2 ^ 31) (h2 : 0 ≤ z ∧ z ≤ 64) : CMulW x 69069 ∧ CMulW 104729 y ∧ CMulW (104729 * y) y ∧ CMulW 7919 z :=
  ⟨mulW_of (a := 31) (b := 31) (by omega) (by decide), mulW_of (a := 31) (b := 31) (by decide) (by omega), mulW_of (a := 62) (b := 31) (natAbs_mul_lt (a := 31) (b := 31) (by decide) (by omega)) (by omega), mulW_of (a := 31) (b := 31) (by decide) (by omega)⟩
theorem small_mul {i j : Int} (h0 : 0 ≤ i ∧ i < 2 ^ 32) (h1 : 0 ≤ j ∧ j < 2 ^ 32) : CMulW i j := mulW_of (a := 32) (b := 32) (by omega) (by omega)
theorem pow_60 : CPowW (10 ^ Int.toNat 60) 8 := by unfold CPowW; decide +kernel
theorem pow_18 : CPowW 10 18 := by unfold CPowW; decide +kernel
theorem pow_10 : CPowW 10 60 := by unfold CPowW; decide +kernel
theorem pow_480 : (0 : Int) < (10 ^ Int.toNat 60) ^ Int.toNat 8 ∧ (10 ^ Int.toNat 60) ^ Int.toNat 8 < (2 : Int) ^ 1700 := by decide +kernel
theorem range_one : rangeD 0 1 = [.int 0] := rfl
/-- the rest of a block is put aside -/
theorem seq_hide {A R : TDS} {D : DEnds} {env : DEnv} {st : Store} (h : ∀ R', R' = R → sSeq A R' D env st) : sSeq A R D env st := h R rfl
theorem EVd_dat {d : D} : (EV.dat d).d = d := rfl
theorem EVd_own {d : D} : (EV.own d).d = d := rfl
theorem EVd_deep {d : D} : (EV.deep d).d = d := rfl
end DL

set_option Elab.async false
set_option linter.all false
set_option maxRecDepth 100000
set_option maxHeartbeats 4000000
/-! DL16: sorted of data. -/
namespace DL
open PySem PySem.Spec L2
def rSortedD (K : Frag) : List V → Hp → VK → Prop := fun vs H Q => ∃ (a : Addr) (ps : List (V × PyData)), vs = [V.ref a] ∧ SqL K H a (ps.map Prod.fst) ∧ (∀ p ∈ ps, Dp K H p.1 p.2) ∧ PySem.W.AllAlike (ps.map Prod.snd) ∧ PySem.W.Sortable (ps.map Prod.snd) ∧ ps.length ≤ sizeLine ∧ (∀ p ∈ ps, p.2.depth ≤ 60) ∧
  ∀ p', H p' = none → Q (.ref p') (upd H p' (.lst ((ps.mergeSort (PySem.W.dataLe false Prod.snd)).map Prod.fst)))
theorem each_of {ps : List (V × PyData)} : ∀ {us : List Value}, Vals (ps.map Prod.fst) us → PySem.W.EachIs (fun v (p : V × PyData) => RelV p.1 v) us ps := by
  induction ps with
  | nil => intro us h; cases h; exact .nil
  | cons p ps ih => intro us h; cases h with | cons h1 h2 => exact .cons h1 (ih h2)
theorem of_each {ps : List (V × PyData)} : ∀ {us : List Value}, PySem.W.EachIs (fun v (p : V × PyData) => RelV p.1 v) us ps → Vals (ps.map Prod.fst) us := by
  induction ps with
  | nil => intro us h; cases h; exact .nil
  | cons p ps ih => intro us h; cases h with | cons h1 h2 => exact .cons h1 (ih h2)
theorem cr_sortedD {X : Cx} (hu : X.A.units + 64 < cLine) : CallR X (.builtin "sorted") (rSortedD X.K) := by
  intro pins s σ H vs us Q I r h
  obtain ⟨a, ps, rfl, hs, hd, hal, hk, hz, hdp, q⟩ := h
  obtain ⟨its, rv, hl, _⟩ := I.list hs
  rw [Vals.ref1 r]
  have e := each_of rv
  have er : PySem.W.EachIs (fun v (p : V × PyData) => ∃ as, Reads s.heap v p.2 as) its ps := (PySem.W.each_mem e).mono fun v p ⟨h1, hm⟩ => Dp.reads I p.2 p.1 v (hd p hm) h1
  refine PySem.W.sorted_data (R := fun v (p : V × PyData) => RelV p.1 v) hl.isList e er hal hk hz (fun b hb => by have := hdp b hb; omega) fun out hlen he => ?_
  obtain ⟨ep, he'⟩ := PyProof.Rows.sortedAll_at s.heap its out.toArray
  have ho := of_each he
  refine ⟨.ref _, upd H (s.heap.objs.size + 1) (.lst ((ps.mergeSort (PySem.W.dataLe false Prod.snd)).map Prod.fst)), I.laid (t' := s.toks) (fun _ _ => PyProof.Rows.sortedAll_old) (Nat.le_succ _) ⟨by rw [List.length_map, List.length_mergeSort]; exact hz, out, ep, ho, by simpa using he'⟩, rfl, q _ (I.hok.fresh (Nat.le_succ _))⟩
/-- the order of sorted, on data -/
def leD (x y : D) : Bool := PySem.W.dataLe false D.toPy x y
def wSorted : W1 := fun x Q => match x with
  | .lst ds => (ds.length ≤ sizeLine ∧ (∀ d ∈ ds, d.py 50 = true) ∧ PySem.W.AllAlike (ds.map D.toPy) ∧ PySem.W.Sortable (ds.map D.toPy)) ∧ Q (.lst (ds.mergeSort leD))
  | _ => False
theorem Reps.of_pairs {K : Frag} {cl : List Addr} {Z : Hp} : ∀ {l : List (V × D)}, (∀ z ∈ l, Rep K cl Z z.2 z.1) → Reps K cl Z (l.map Prod.snd) (l.map Prod.fst)
  | [], _ => rfl
  | z :: l, h => .cons (h z List.mem_cons_self) (Reps.of_pairs fun y hy => h y (List.mem_cons_of_mem _ hy))
theorem Reps.pairs {K : Frag} {cl : List Addr} {Z : Hp} : ∀ {ds : List D} {vs : List V}, Reps K cl Z ds vs → ∃ l : List (V × D), l.map Prod.snd = ds ∧ l.map Prod.fst = vs ∧ ∀ z ∈ l, Rep K cl Z z.2 z.1
  | [], vs, h => ⟨[], rfl, (show vs = [] from h).symm, fun z hz => by simp at hz⟩
  | d :: ds, vs, h => by
    obtain ⟨v, r, rfl, h1, h2⟩ := (show ∃ v r, vs = v :: r ∧ Rep K cl Z d v ∧ Reps K cl Z ds r from h)
    obtain ⟨l, e1, e2, e3⟩ := Reps.pairs h2
    refine ⟨(v, d) :: l, by rw [List.map_cons, e1], by rw [List.map_cons, e2], fun z hz => ?_⟩
    rcases List.mem_cons.mp hz with rfl | hz
    · exact h1
    · exact e3 z hz
section
variable {X : Cx} {e : Expr} {p pos : Pos} {ta : TD}
theorem r_sorted (hu : X.A.units + 64 < cLine) (hm : X.mg "sorted" = none) (ha : DE X e ta) (hg : Gl X "sorted" := by rfl) (h1 : starEach [e] X.env = (false, eval e X.env) :: starEach [] X.env := by rfl) (h2 : (backTo pos (starEach [] X.env)).any (·.1) = false := by rfl) :
    RE X (.Call (.Name "sorted" p) [e] [] pos) (dUnR wSorted ta) := r_b1 (cr_sortedD hu) (by
  intro w H st x v Qd Q' so rx q k
  unfold wSorted at q
  split at q
  · rename_i ds
    obtain ⟨⟨hz, hpy, hal, hk⟩, q⟩ := q
    obtain ⟨a, vs, rfl, ha, r⟩ := rx
    obtain ⟨l, rfl, rfl, hl⟩ := r.pairs
    have em : (l.map fun z => (z.1, z.2.toPy)).map Prod.fst = l.map Prod.fst := by rw [List.map_map]; rfl
    have es : (l.map fun z => (z.1, z.2.toPy)).map Prod.snd = (l.map Prod.snd).map D.toPy := by rw [List.map_map, List.map_map]; rfl
    refine ⟨a, l.map fun z => (z.1, z.2.toPy), rfl, by rw [em]; exact .of (so.sub _ _ ha), fun p hp => ?_, by rw [es]; exact hal, by rw [es]; exact hk, by rw [List.length_map]; rwa [List.length_map] at hz, fun p hp => ?_, fun p' hp' => ?_⟩
    · obtain ⟨z, hz, rfl⟩ := List.mem_map.mp hp
      exact Rep.dp so.sub z.2 z.1 50 (hpy _ (List.mem_map.mpr ⟨z, hz, rfl⟩)) (hl z hz)
    · obtain ⟨z, hz, rfl⟩ := List.mem_map.mp hp
      have := D.py_dep z.2 50 (hpy _ (List.mem_map.mpr ⟨z, hz, rfl⟩))
      show z.2.toPy.depth ≤ 60
      omega
    · have e1 : ((l.map fun z => (z.1, z.2.toPy)).mergeSort (PySem.W.dataLe false Prod.snd)).map Prod.fst = (l.mergeSort fun x y => leD x.2 y.2).map Prod.fst := by
        rw [← List.map_mergeSort (r := fun x y => leD x.2 y.2) (fun _ _ _ _ => rfl), List.map_map]; rfl
      have e2 : (l.map Prod.snd).mergeSort leD = (l.mergeSort fun x y => leD x.2 y.2).map Prod.snd := by
        rw [List.map_mergeSort (s := leD) (fun _ _ _ _ => rfl)]
      rw [e1]
      rw [e2] at q
      obtain ⟨x2, s2⟩ := ext_laid (o := .lst ((l.mergeSort fun x y => leD x.2 y.2).map Prod.fst)) so hp'
      exact k (.lst ((l.mergeSort fun x y => leD x.2 y.2).map Prod.snd)) w _ p' x2 s2 hp' ⟨_, upd_same, .of_pairs fun z hz => hl z (List.mem_mergeSort.mp hz)⟩ (so.zfree hp') (so.notcell hp') q
  · exact q.elim) hm boot_sorted ha hg (by decide) (by decide) h1 h2
end
end DL

set_option Elab.async false
set_option linter.all false
set_option maxRecDepth 100000
set_option maxHeartbeats 4000000
/-! DL17: order of texts; is True; in a list; insert. -/
namespace DL
open PySem PySem.Spec L2
section
variable {X : Cx} {a b e : Expr} {pos : Pos} {ta tb tc : TD}
def ltS (i j : Str) : Bool := decide (i.cps.toList < j.cps.toList)
def wS (g : Str → Str → Bool) : W2 := fun x y Q => match x, y with | .str i, .str j => Q (.bl (g i j)) | _, _ => False
theorem opl_S {K : Frag} {g : Str → Str → Bool} : OpL K (fun x y H Q => ∃ i j, x = .str i ∧ y = .str j ∧ Q (.bl (g i j)) H) (wS g) := by
  intro w H st x y v u Qd Q' so rx ry q k
  unfold wS at q
  split at q
  · rename_i i j
    exact ⟨i, j, rx, ry, k (.bl _) w H _ (Ext.refl _ _) so rfl q⟩
  · exact q.elim
abbrev wLtS : W2 := wS fun i j => ltS i j
abbrev wLeS : W2 := wS fun i j => !ltS j i
theorem d_ltS (ha : DE X a ta) (hb : DE X b tb) : DE X (.Compare a [.Lt] [b] pos) (dOp wLtS ta tb) := d_cmp op_lt_str opl_S ha hb
theorem d_leS (ha : DE X a ta) (hb : DE X b tb) : DE X (.Compare a [.LtE] [b] pos) (dOp wLeS ta tb) := d_cmp op_le_str opl_S ha hb
theorem t_ltS (ha : DE X a ta) (hb : DE X b tb) : DT X (.Compare a [.Lt] [b] pos) (dTest (dOp wLtS ta tb)) := t_cmp op_lt_str opl_S ha hb
theorem t_leS (ha : DE X a ta) (hb : DE X b tb) : DT X (.Compare a [.LtE] [b] pos) (dTest (dOp wLeS ta tb)) := t_cmp op_le_str opl_S ha hb
/-- x is True, x is not False, .. of two bools -/
def wB (g : Bool → Bool → Bool) : W2 := fun x y Q => match x, y with | .bl i, .bl j => Q (.bl (g i j)) | _, _ => False
theorem opl_B {K : Frag} {g : Bool → Bool → Bool} : OpL K (fun x y H Q => ∃ i j, x = .bl i ∧ y = .bl j ∧ Q (.bl (g i j)) H) (wB g) := by
  intro w H st x y v u Qd Q' so rx ry q k
  unfold wB at q
  split at q
  · rename_i i j
    exact ⟨i, j, rx, ry, k (.bl _) w H _ (Ext.refl _ _) so rfl q⟩
  · exact q.elim
abbrev wIsB : W2 := wB fun i j => decide (i = j)
abbrev wNotB : W2 := wB fun i j => !decide (i = j)
theorem d_isB (ha : DE X a ta) (hb : DE X b tb) : DE X (.Compare a [.Is] [b] pos) (dOp wIsB ta tb) := d_cmp op_is_bl opl_B ha hb
theorem d_notB (ha : DE X a ta) (hb : DE X b tb) : DE X (.Compare a [.IsNot] [b] pos) (dOp wNotB ta tb) := d_cmp op_isnot_bl opl_B ha hb
theorem t_isB (ha : DE X a ta) (hb : DE X b tb) : DT X (.Compare a [.Is] [b] pos) (dTest (dOp wIsB ta tb)) := t_cmp op_is_bl opl_B ha hb
theorem t_notB (ha : DE X a ta) (hb : DE X b tb) : DT X (.Compare a [.IsNot] [b] pos) (dTest (dOp wNotB ta tb)) := t_cmp op_isnot_bl opl_B ha hb
/-- x in a list -/
def wInL : W2 := fun x y Q => match y with | .lst ds => (x.py 50 = true ∧ D.pys ds 50 = true) ∧ Q (.bl (ds.any fun z => z.eqv x)) | _ => False
def wNotInL : W2 := fun x y Q => match y with | .lst ds => (x.py 50 = true ∧ D.pys ds 50 = true) ∧ Q (.bl (!ds.any fun z => z.eqv x)) | _ => False
theorem any_toPys (x : D) : ∀ ds : List D, ((D.toPys ds).any fun z => PyData.eqv z x.toPy) = ds.any fun z => z.eqv x
  | [] => by simp [D.toPys]
  | d :: ds => by simp [D.toPys, any_toPys x ds, D.eqv]
theorem opl_in {K : Frag} : OpL K (rInD K) wInL := by
  intro w H st x y v u Qd Q' so rx ry q k
  unfold wInL at q
  split at q
  · rename_i ds
    obtain ⟨⟨h1, h2⟩, q⟩ := q
    have h3 : (D.lst ds).py 51 = true := by simpa [D.py] using h2
    exact ⟨x.toPy, D.toPys ds, rx.dp so.sub x v 50 h1, by simpa [D.toPy] using ry.dp so.sub (.lst ds) u 51 h3, D.py_shaped h1 (by decide), by simpa [D.toPy] using D.py_shaped h3 (by decide), k (.bl _) w H _ (Ext.refl _ _) so (by rw [any_toPys]; rfl) q⟩
  · exact q.elim
theorem opl_notin {K : Frag} : OpL K (rNotInD K) wNotInL := by
  intro w H st x y v u Qd Q' so rx ry q k
  unfold wNotInL at q
  split at q
  · rename_i ds
    obtain ⟨⟨h1, h2⟩, q⟩ := q
    have h3 : (D.lst ds).py 51 = true := by simpa [D.py] using h2
    exact ⟨x.toPy, D.toPys ds, rx.dp so.sub x v 50 h1, by simpa [D.toPy] using ry.dp so.sub (.lst ds) u 51 h3, D.py_shaped h1 (by decide), by simpa [D.toPy] using D.py_shaped h3 (by decide), k (.bl _) w H _ (Ext.refl _ _) so (by rw [any_toPys]; rfl) q⟩
  · exact q.elim
theorem d_in (hu : X.A.units + 65 < cLine) (ha : DE X a ta) (hb : DE X b tb) (hm : behindInMarks .In b = false := by first | exact nomark _ | rfl) : DE X (.Compare a [.In] [b] pos) (dOp wInL ta tb) := d_cmp (op_inD hu) opl_in ha hb hm
theorem t_in (hu : X.A.units + 65 < cLine) (ha : DE X a ta) (hb : DE X b tb) (hm : behindInMarks .In b = false := by first | exact nomark _ | rfl) : DT X (.Compare a [.In] [b] pos) (dTest (dOp wInL ta tb)) := t_cmp (op_inD hu) opl_in ha hb hm
/-- x.insert(i, e), x a list of one's own -/
def sIns (i : Nat) (tx t : TD) : TDS := fun D env st => tx env st fun z st0 => match z with
  | .int n => t env st0 fun d st1 => (match env[i]? with
    | some (some (.own (.lst xs))) => (xs.length < sizeLine ∧ 0 ≤ n ∧ n < 2 ^ 63) ∧ D.nx (env.set i (some (.own (.lst (xs.take n.toNat ++ [d] ++ xs.drop n.toNat))))) st1
    | _ => False)
  | _ => False
theorem s_ins (i : Nat) {x : Str} {px pa pc : Pos} (hx : DE X a ta) (he : DE X e tb) (hN : X.N[i]? = some x := by rfl) (hv : Vis X.env.scope x := by first | exact Or.inl rfl | exact Or.inr (Or.inl rfl) | exact Or.inr (Or.inr rfl)) (hd : (x == ("__debug__" : Str)) = false := by decide)
    (hcd : (x == ("__classdict__" : Str)) = false := by decide) (h1 : starEach [a, e] X.env = (false, eval a X.env) :: starEach [e] X.env := by rfl) (h3 : starEach [e] X.env = (false, eval e X.env) :: starEach [] X.env := by rfl)
    (hb : attributeBase (.Name x px) "insert" X.env (eval (.Name x px) X.env) = eval (.Name x px) X.env := by rfl)
    (hfew : ((backTo pc (starEach [a, e] X.env)).all (fun x => !x.1) && (backToKw pc (keywordEach [] X.env)).all (fun x => x.1.isSome)
      && decide (([a, e] : List Expr).length + ([] : List Keyword).length + (if ([] : List Keyword).isEmpty then 0 else 1) < 30)) = true := by rfl) (hl : (pa.endLine == pc.line) = true := by rfl) (hp : (backTo pc (starEach [e] X.env)).any (·.1) = false := by rfl)
    (hs : swapsWith (.Call (.Attribute (.Name x px) "insert" pa) [a, e] [] pc) none pos.line X.env = pure false := by rfl) : DS X (.Expr (.Call (.Attribute (.Name x px) "insert" pa) [a, e] [] pc) pos) (fun D env st => (∃ xs, env[i]? = some (some (.own (.lst xs)))) ∧ sIns i ta tb D env st) := by
  obtain ⟨f, p, l⟩ := hx.ex
  obtain ⟨f2, p2, l2⟩ := he.ex
  refine ⟨_, ps_expr (pe_bm PySem.F.plainAttrs_list PySem.F.slot_list_insert PySem.F.type_list_insert mt_insert (pe_var hN hv hd hcd) (pa_cons p (pa_cons p2 pa_nil h3) h1) hb hfew hl h1 hp) hs, fun w0 H0 w σ H env st D D' r q k => ?_⟩
  obtain ⟨⟨xs, he⟩, q⟩ := q
  obtain ⟨p0, hσ, hp0, hz, hn, ⟨vs, hH, rs⟩, hm⟩ := slots_mut r.sl he
  refine ⟨.ref p0, hσ, .inl ⟨rfl, vs, .of hH⟩, l H0 w σ H env st _ _ r.sl r.s q fun w1 H1 v1 z st1 x1 s1 r1 q1 => ?_⟩
  split at q1
  · rename_i n
    obtain rfl : v1 = .int n := r1
    refine l2 H0 w1 σ H1 env st1 _ _ (r.sl.ext x1) s1 q1 fun w' H' v' d st' x s rd q => ?_
    rw [he] at q
    obtain ⟨p1, hσ1, hp0, hz, hn, ⟨vs', hH', rs'⟩, hm⟩ := slots_mut ((r.sl.ext x1).ext x) he
    rw [hσ] at hσ1
    cases hσ1
    refine ⟨p0, vs', n, v', rfl, rfl, hH', by rw [← rs'.length]; exact q.1.1, q.1.2.1, q.1.2.2, ?_⟩
    exact k.nx w' σ _ _ st' (x1.le.trans x.le) ⟨ext_mut ((r.x.trans x1).trans x) hp0, sto_mut s hz hn, hm _ (.lst (xs.take n.toNat ++ [d] ++ xs.drop n.toNat)) ⟨_, upd_same, ((rs'.take n.toNat).append (Reps.cons rd Reps.nil)).append (rs'.drop n.toNat)⟩⟩ q.2
  · exact q1.elim
end
theorem room65 {k : Nat} {A : Around} (r : Room k A) : A.units + 65 < cLine := by have := r.un; omega
/-- x[::-1], a list -/
def dRevL (t : TD) : TDR := fun env st Q => t env st fun d st1 => match d with | .lst ds => Q (.own (.lst ds.reverse)) st1 | _ => False
theorem Reps.reverse {K : Frag} {cl : List Addr} {Z : Hp} : ∀ {ds : List D} {vs : List V}, Reps K cl Z ds vs → Reps K cl Z ds.reverse vs.reverse
  | [], vs, h => by rw [show vs = [] from h]; rfl
  | d :: ds, vs, h => by
    obtain ⟨v, r, rfl, h1, h2⟩ := (show ∃ v r, vs = v :: r ∧ Rep K cl Z d v ∧ Reps K cl Z ds r from h)
    rw [List.reverse_cons, List.reverse_cons]
    exact (Reps.reverse h2).append (.cons h1 .nil)
section
variable {X : Cx} {e : Expr} {pos p1 p2 p3 : Pos} {ta : TD} {k : Nat}
theorem r_revL (he : DE X e ta) : RE X (.Subscript e (.Slice none none (some (.UnaryOp .USub (.Constant (.int 1) k p1) p2)) p3) pos) (dRevL ta) := by
  obtain ⟨t, p, l⟩ := he.ex
  refine ⟨_, pe_revL p, fun H0 w σ H env st Q Q' sl so q kk => l H0 w σ H env st _ _ sl so q fun w1 H1 v d st1 e1 s1 r1 q1 => ?_⟩
  split at q1
  · rename_i ds
    obtain ⟨a, vs, rfl, ha, r⟩ := r1
    refine ⟨a, vs, rfl, .of (s1.sub _ _ ha), fun p hp => ?_⟩
    obtain ⟨e4, s4⟩ := ext_laid (o := .lst vs.reverse) s1 hp
    exact kk w1 _ _ (.own (.lst ds.reverse)) st1 (e1.trans e4) s4 ⟨p, rfl, e1.tr p hp, s1.zfree hp, s1.notcell hp, _, upd_same, r.reverse⟩ q1
  · exact q1.elim
end
theorem wEq_str {a b : Str} {Q : D → Prop} (ha : PyData.strOk a = true) (hb : PyData.strOk b = true) : wEq (.str a) (.str b) Q = Q (.bl (decide (a = b))) := by
  have h1 : (D.str a).eqv (.str b) = decide (a = b) := by
    rw [Bool.eq_iff_iff, decide_eq_true_iff]; simp [D.eqv, D.toPy, PyData.eqv]
  simp [wEq, D.py, ha, hb, h1]
theorem wNe_str {a b : Str} {Q : D → Prop} (ha : PyData.strOk a = true) (hb : PyData.strOk b = true) : wNe (.str a) (.str b) Q = Q (.bl (!decide (a = b))) := by
  have h1 : (D.str a).eqv (.str b) = decide (a = b) := by
    rw [Bool.eq_iff_iff, decide_eq_true_iff]; simp [D.eqv, D.toPy, PyData.eqv]
  simp [wNe, D.py, ha, hb, h1]
end DL

set_option Elab.async false
set_option linter.all false
set_option maxRecDepth 100000
set_option maxHeartbeats 4000000
/-! DL18: sums of fractions; filters over a mapped list; == of lists; words. -/
namespace DL
open PySem PySem.Spec L2
def BdAll (n : Nat) (f : List Rat) : Prop := ∀ q ∈ f, Bd n q
theorem bd_zero : Bd 1 (0 : Rat) := ⟨by decide, by decide⟩
theorem bd_one : Bd 1 (1 : Rat) := ⟨by decide, by decide⟩
def sumOf (qs : List Rat) : Rat := qs.foldl (· + ·) 0
theorem take_succ_of {α : Type} {xs : List α} {i : Nat} {x : α} (h : xs[i]? = some x) : xs.take (i + 1) = xs.take i ++ [x] := by
  rw [List.take_succ, h]; rfl
theorem sumOf_snoc {qs : List Rat} {x : Rat} : sumOf (qs ++ [x]) = sumOf qs + x := by unfold sumOf; rw [List.foldl_append]; rfl
theorem foldl_add (qs : List Rat) : ∀ a : Rat, qs.foldl (· + ·) a = a + sumOf qs := by
  unfold sumOf
  induction qs with
  | nil => intro a; exact (Rat.add_zero a).symm
  | cons q qs ih => intro a; rw [List.foldl_cons, List.foldl_cons, ih, ih (0 + q), Rat.zero_add, Rat.add_assoc]
theorem sumOf_cons (x : Rat) (qs : List Rat) : sumOf (x :: qs) = x + sumOf qs := by
  show (x :: qs).foldl (· + ·) 0 = _
  rw [List.foldl_cons, foldl_add, Rat.zero_add]
theorem sum_bd {n : Nat} : ∀ {k : Nat} {qs : List Rat}, BdAll n qs → qs.length = k → Bd ((n + 1) * k + 1) (sumOf qs)
  | 0, qs, h, hk => by rw [List.length_eq_zero_iff.mp hk]; exact bd_zero.mono (by omega)
  | k + 1, qs, h, hk => by
    obtain ⟨r, x, rfl⟩ : ∃ r x, qs = r ++ [x] := by
      rcases List.eq_nil_or_concat qs with e | ⟨r, x, e⟩
      · subst e; simp at hk
      · exact ⟨r, x, by simpa using e⟩
    rw [sumOf_snoc]
    rw [List.length_append, List.length_singleton] at hk
    have := sum_bd (k := k) (qs := r) (fun q hq => h q (List.mem_append_left _ hq)) (by omega)
    refine (this.add (h x (by simp))).mono ?_
    rw [Nat.mul_succ]; omega
theorem sum_bd' {n : Nat} {qs : List Rat} (h : BdAll n qs) (i : Nat) (hi : i ≤ qs.length) : Bd ((n + 1) * i + 1) (sumOf (qs.take i)) :=
  sum_bd (fun q hq => h q (List.mem_of_mem_take hq)) (by rw [List.length_take]; omega)
/-- a comprehension with an if, over mapped things -/
theorem dComp_filterOf {α : Type} {gd : TDG} {tt : TDT} {te : TD} {vs : List Nat} {env : DEnv} {st : Store} {Q : List D → Store → Prop} (g : α → D) (p : α → Bool) (h : α → D) : ∀ (xs : List α) (acc : List D),
    (∀ x ∈ xs, ∀ (Q1 : D → Store → Prop) (Q2 : Store → Prop), (p x = true → Q1 (h x) st) → (p x = false → Q2 st) → gd (g x) (wipeE env vs) st fun env1 st1 => tt env1 st1 fun b st2 => if b = true then te env1 st2 Q1 else Q2 st2) →
    acc.length + xs.length ≤ sizeLine → Q (acc ++ (xs.filter p).map h) st → dComp gd tt te vs (xs.map g) acc env st Q
  | [], acc, hh, hl, q => by simpa [dComp] using q
  | x :: xs, acc, hh, hl, q => by
    rw [List.length_cons] at hl
    refine hh x List.mem_cons_self (fun y st3 => acc.length < sizeLine ∧ dComp gd tt te vs (xs.map g) (acc ++ [y]) env st3 Q) (fun st2 => dComp gd tt te vs (xs.map g) acc env st2 Q) (fun hp => ⟨by omega, ?_⟩) fun hp => ?_
    · rw [List.filter_cons_of_pos hp] at q
      exact dComp_filterOf g p h xs _ (fun d hd => hh d (List.mem_cons_of_mem _ hd)) (by simp; omega) (by simpa using q)
    · rw [List.filter_cons_of_neg (by rw [hp]; exact Bool.false_ne_true)] at q
      exact dComp_filterOf g p h xs _ (fun d hd => hh d (List.mem_cons_of_mem _ hd)) (by omega) q
/-! ### == of lists -/
theorem pys_map {α : Type} {f : α → D} {n : Nat} : ∀ {xs : List α}, (∀ x ∈ xs, (f x).py n = true) → D.pys (xs.map f) n = true
  | [], _ => by simp [D.pys]
  | x :: xs, h => by rw [List.map_cons, D.pys, h x List.mem_cons_self, pys_map (xs := xs) fun w hw => h w (List.mem_cons_of_mem _ hw)]; rfl
theorem eqvAll_map {α : Type} {f : α → D} (inj : ∀ x y, (f x).eqv (f y) = true → x = y) (self : ∀ x, (f x).eqv (f x) = true) : ∀ xs ys : List α, PyData.eqvAll (D.toPys (xs.map f)) (D.toPys (ys.map f)) = true ↔ xs = ys
  | [], [] => by simp [D.toPys, PyData.eqvAll]
  | [], y :: ys => by simp [D.toPys, PyData.eqvAll]
  | x :: xs, [] => by simp [D.toPys, PyData.eqvAll]
  | x :: xs, y :: ys => by
    simp only [List.map_cons, D.toPys, PyData.eqvAll, Bool.and_eq_true, eqvAll_map inj self xs ys, List.cons.injEq]
    exact ⟨fun h => ⟨inj x y h.1, h.2⟩, fun h => ⟨by rw [h.1]; exact self y, h.2⟩⟩
theorem wEq_lst {xs ys : List D} {b : Bool} {Q : D → Prop} (hx : D.pys xs 59 = true) (hy : D.pys ys 59 = true) (he : PyData.eqvAll (D.toPys xs) (D.toPys ys) = b) (q : Q (.bl b)) : wEq (.lst xs) (.lst ys) Q := by
  have h1 : (D.lst xs).py 60 = true := by rw [D.py]; exact hx
  have h2 : (D.lst ys).py 60 = true := by rw [D.py]; exact hy
  have h3 : (D.lst xs).eqv (.lst ys) = b := by simp only [D.eqv, D.toPy, PyData.eqv]; exact he
  exact ⟨⟨h1, h2⟩, by rw [h3]; exact q⟩
theorem wNe_lst {xs ys : List D} {b : Bool} {Q : D → Prop} (hx : D.pys xs 59 = true) (hy : D.pys ys 59 = true) (he : PyData.eqvAll (D.toPys xs) (D.toPys ys) = b) (q : Q (.bl (!b))) : wNe (.lst xs) (.lst ys) Q := by
  have h1 : (D.lst xs).py 60 = true := by rw [D.py]; exact hx
  have h2 : (D.lst ys).py 60 = true := by rw [D.py]; exact hy
  have h3 : (D.lst xs).eqv (.lst ys) = b := by simp only [D.eqv, D.toPy, PyData.eqv]; exact he
  exact ⟨⟨h1, h2⟩, by rw [h3]; exact q⟩
theorem eqvAll_nil (xs : List D) : PyData.eqvAll (D.toPys xs) (D.toPys []) = xs.isEmpty := by
  cases xs <;> simp [D.toPys, PyData.eqvAll]
/-! ### blocks within blocks -/
section
variable {X : Cx} {N : List Str} {sc o1 o2 scope : Scope} {own : List (Str × Nat)} {s s2 : Shared} {H H2 : Hp} {C C2 : Addr} {cl cl2 : List (Str × Addr)} {fp fp2 : List Addr}
theorem blk2 (N : List Str) (sc : Scope) (hN : X.N = N) (hs : X.env.scope = sc) (h : blkC N (relS o1 sc) scope own = true) : BlkOk (Blk X o1 s H C cl fp).N (Blk X o1 s H C cl fp).env.scope scope own := by
  subst hN hs; exact blkOk_by h
theorem blk3 (N : List Str) (sc : Scope) (hN : X.N = N) (hs : X.env.scope = sc) (h : blkC N (relS o2 (relS o1 sc)) scope own = true) : BlkOk (Blk (Blk X o1 s H C cl fp) o2 s2 H2 C2 cl2 fp2).N (Blk (Blk X o1 s H C cl fp) o2 s2 H2 C2 cl2 fp2).env.scope scope own := by
  subst hN hs; exact blkOk_by h
end
end DL

set_option Elab.async false
set_option linter.all false
set_option maxRecDepth 100000
set_option maxHeartbeats 4000000
/-! DL19: an empty dictionary; any data. -/
namespace DL
open PySem PySem.Spec L2
section
variable {X : Cx} {pos : Pos}
theorem d_dict0 : DE X (.Dict [] [] pos) (dC (.dK [] [])) := ⟨_, pe_dnewK, fun H0 w σ H env st Q Q' sl so q k => fun p hp => by
  obtain ⟨e2, s2⟩ := ext_frozen (o := .dK []) so hp
  exact k _ _ _ (.dK [] []) st e2 s2 ⟨p, [], rfl, rfl, .inl upd_same, rfl⟩ q⟩
end
/-- any data at most n deep, as bent things are -/
def leafV : D → Bool
  | .non => true
  | .bl _ => true
  | .int i => decide (i.natAbs < 2 ^ 2000)
  | .str x => PyData.strOk x && decide (x.length ≤ 1000)
  | .dK [] [] => true
  | _ => false
def okV : Nat → D → Bool
  | n + 1, .lst ds => decide (ds.length ≤ 1000) && ds.all (okV n)
  | n + 1, .tup ds => decide (ds.length ≤ 1000) && ds.all (okV n)
  | _, d => leafV d
theorem okV_cases {n : Nat} {d : D} (h : okV n d = true) : d = .non ∨ (∃ b, d = .bl b) ∨ (∃ i : Int, d = .int i ∧ i.natAbs < 2 ^ 2000) ∨ (∃ x : Str, d = .str x ∧ PyData.strOk x = true ∧ x.length ≤ 1000) ∨ d = .dK [] [] ∨ (∃ m ds, n = m + 1 ∧ d = .lst ds ∧ ds.length ≤ 1000 ∧ ∀ d ∈ ds, okV m d = true) ∨ (∃ m ds, n = m + 1 ∧ d = .tup ds ∧ ds.length ≤ 1000 ∧ ∀ d ∈ ds, okV m d = true) := by
  have leaf : ∀ d : D, leafV d = true → d = .non ∨ (∃ b, d = .bl b) ∨ (∃ i : Int, d = .int i ∧ i.natAbs < 2 ^ 2000) ∨ (∃ x : Str, d = .str x ∧ PyData.strOk x = true ∧ x.length ≤ 1000) ∨ d = .dK [] [] := by
    intro d h
    unfold leafV at h
    split at h
    · exact .inl rfl
    · exact .inr (.inl ⟨_, rfl⟩)
    · exact .inr (.inr (.inl ⟨_, rfl, of_decide_eq_true h⟩))
    · rw [Bool.and_eq_true] at h; exact .inr (.inr (.inr (.inl ⟨_, rfl, h.1, of_decide_eq_true h.2⟩)))
    · exact .inr (.inr (.inr (.inr rfl)))
    · cases h
  have up : ∀ {d : D}, leafV d = true → _ := fun {d} h => (leaf d h)
  unfold okV at h
  split at h
  · rw [Bool.and_eq_true, List.all_eq_true] at h
    exact .inr (.inr (.inr (.inr (.inr (.inl ⟨_, _, rfl, rfl, of_decide_eq_true h.1, h.2⟩)))))
  · rw [Bool.and_eq_true, List.all_eq_true] at h
    exact .inr (.inr (.inr (.inr (.inr (.inr ⟨_, _, rfl, rfl, of_decide_eq_true h.1, h.2⟩)))))
  · rcases up h with h | h | h | h | h
    · exact .inl h
    · exact .inr (.inl h)
    · exact .inr (.inr (.inl h))
    · exact .inr (.inr (.inr (.inl h)))
    · exact .inr (.inr (.inr (.inr (.inl h))))
theorem okV_mono : ∀ {n : Nat} {d : D}, okV n d = true → okV (n + 1) d = true := by
  intro n
  induction n with
  | zero => intro d h; cases d <;> simp_all [okV, leafV]
  | succ n ih =>
    intro d h
    rcases okV_cases h with rfl | ⟨b, rfl⟩ | ⟨i, rfl, hi⟩ | ⟨x, rfl, hx, hl⟩ | rfl | ⟨m, ds, e, rfl, hl, hds⟩ | ⟨m, ds, e, rfl, hl, hds⟩
    · rfl
    · rfl
    · simp only [okV, leafV, decide_eq_true_eq]; exact hi
    · simp only [okV, leafV, Bool.and_eq_true, decide_eq_true_eq]; exact ⟨hx, hl⟩
    · rfl
    · cases e
      simp only [okV, Bool.and_eq_true, decide_eq_true_eq, List.all_eq_true]
      exact ⟨hl, fun d hd => ih (hds d hd)⟩
    · cases e
      simp only [okV, Bool.and_eq_true, decide_eq_true_eq, List.all_eq_true]
      exact ⟨hl, fun d hd => ih (hds d hd)⟩
/-- a fraction, as is_fraction has it -/
def isFracD : D → Bool
  | .tup [.int a, .int b] => decide (1 ≤ b) && decide (Int.gcd a b = 1)
  | _ => false
theorem isFracD_q {d : D} (h : isFracD d = true) : ∃ q : Rat, d = qD q := by
  unfold isFracD at h
  split at h
  · rename_i a b
    rw [Bool.and_eq_true, decide_eq_true_eq, decide_eq_true_eq] at h
    refine ⟨⟨a, b.toNat, by omega, ?_⟩, ?_⟩
    · show Nat.gcd a.natAbs b.toNat = 1
      have h2 := h.2
      unfold Int.gcd at h2
      rwa [show b.toNat = b.natAbs by omega]
    · simp only [qD]
      rw [show ((b.toNat : Nat) : Int) = b by omega]
  · cases h
theorem isFracD_qD (q : Rat) : isFracD (qD q) = true := by
  simp only [qD, isFracD, Bool.and_eq_true, decide_eq_true_eq]
  refine ⟨by have := den_pos q; omega, ?_⟩
  have := q.reduced
  unfold Int.gcd
  exact this
end DL

set_option Elab.async false
set_option linter.all false
set_option maxRecDepth 100000
set_option maxHeartbeats 4000000
/-! DL20: repr of data; defs that are run while nothing is being shown (no guard stands around). -/
namespace DL
open PySem PySem.Spec PyProof.Rows PyProof L2
/-- nothing is being shown around -/
abbrev NoG (A : Around) : Prop := A.guards = some []
/-- a def's promise where nothing is being shown around -/
structure FnOkG (P : Program) (w : World) (K : Frag) (mg : Str → Option Value) (base : Heap) (k : Nat) (f : Addr) (fd : FuncData) (ps : List Str) (sp : Sp) : Prop where
  len : ∀ vs H Q E, sp vs H Q E → vs.length = ps.length
  run : ∀ (A : Around) (outer : List Env) (s : Shared) (H : Hp) (args : Args) (us : List Value) (vs : List V) (Q : VK) (E : XK), NoG A → Room k A → Env0 P w K mg base A outer s H →
    BindsTo s fd args (ps.zip us) → Vals vs us → sp vs H Q E → codeAny (model P w) A (.call (.ref f) args) (CR L2.CX0 outer P w H s Q E) s
section
variable {P : Program} {w : World} {K : Frag} {mg : Str → Option Value} {base : Heap} {x qual : Str} {params : Arguments} {body : List Stmt} {scope : Scope} {dvs : List V} {kws : List (Str × V)} {f : Addr} {fd : FuncData}
theorem okG_of {N ps : List Str} {k : Nat} {sp : Sp} (F : FunD K x qual params body scope dvs kws f fd) (S : FnScope N ps scope) (len : ∀ vs H Q E, sp vs H Q E → vs.length = ps.length)
    (inner : ∀ (cdv : Value) (A : Around) (outer : List Env) (s : Shared) (H : Hp) (vs : List V) (Q : VK) (E : XK), NoG (A.deeper (envOfC qual scope s.heap.objs.size f cdv)) → Room k (A.deeper (envOfC qual scope s.heap.objs.size f cdv)) → sp vs H Q E →
      ∃ t, PSs (cxOf L2.CX0 P w K mg base N qual scope f cdv A outer s H E) body t ∧ t { nx := fun _ H' => Q .non H', rt := Q } (L2.start N vs) H) :
    FnOkG P w K mg base (k + 1) f fd ps sp := by
  obtain ⟨oc, od, dV, kV, doc, pm, an, cdv, ct, osl, rfl, lk, hcd, _, _⟩ := F.ex
  refine { len := len, run := ?_ }
  intro A outer s H args us vs Q E ng room e0 bnd rv prom
  have stays : ∀ b o, base.get? b = some o → s.heap.get? b = some o := fun b o q => (e0.bs b o q).1
  have inK : K.In s.heap := e0.mod.kin.keeps stays
  have places : ∀ y ∈ ps.zip us, scope.names.lookup y.1 = some .local ∨ (scope.names.lookup y.1 = some .cell ∧ ((cellsFrom (s.heap.objs.size + 1) scope.names []).lookup y.1).isSome = true) := by
    intro y hy
    rcases S.par y.1 (List.of_mem_zip hy).1 with q | q
    · exact Or.inl q
    · exact Or.inr ⟨q, PySem.W.cellsFrom_some _ _ _ (Or.inl q)⟩
  refine codeAny_call_function room.depth (inK f _ lk) rfl S.co S.gen rfl (PySem.W.codeRec_of inK hcd) ?_
  refine bnd _ _ _ _ (wpAny_newFunctionEnv_cells S.kind places fun env he s1 inC => ?_)
  subst he
  refine ⟨(e0.mod.nolimit.keeps stays).keeps inC.toInCall.keep, codeAny_func ?_⟩
  obtain ⟨t, pt, goal⟩ := inner cdv A outer s H vs Q E ng (room.deeper _) prom
  have I : Inv (cxOf L2.CX0 P w K mg base N qual scope f cdv A outer s H E) [] (L2.start N vs) H s1 := inv_start S room.hd e0 (len vs H Q E prom) rv inC
  have ends : ∀ (σ' : L2.St) (H' : Hp) (v : V) (u : Value) (s' : Shared), Inv (cxOf L2.CX0 P w K mg base N qual scope f cdv A outer s H E) [] σ' H' s' → RelV v u → Q v H' → CE outer P w H s Q u s' := fun _ H' v _ _ J r q => ⟨v, H', J.os, J.bare, J.base, J.hok, r, q⟩
  refine wpAny_mono (pt.run [] s1 _ H _ I goal) (fun fl s' got => ?_) fun _ _ bad => bad
  match fl, got with
  | .ret u, ⟨v, σ', H', J, r, q⟩ => exact ends σ' H' v u s' J r q
  | .next, ⟨σ', H', J, q⟩ => exact ends σ' H' .non .none s' J rfl q
  | .brk, ⟨_, _, _, q⟩ => exact q.elim
  | .cont, ⟨_, _, _, q⟩ => exact q.elim
theorem def_okG {N ps : List Str} {k n : Nat} {φ : Phi} (F : FunD K x qual params body scope dvs kws f fd) (S : FnScope N ps scope) (hn : ps.length = n)
    (hb : ∀ (cdv : Value) (A : Around) (outer : List Env) (s : Shared) (H : Hp) (E : XK), NoG (A.deeper (envOfC qual scope s.heap.objs.size f cdv)) → Room k (A.deeper (envOfC qual scope s.heap.objs.size f cdv)) →
      ∃ tds, DSs (cxOf L2.CX0 P w K mg base N qual scope f cdv A outer s H E).nox body tds ∧ ∀ ds st Q, ds.length = n → φ ds st Q → tds { nx := fun _ st' => Q (.dat .non) st', rt := Q } (startE N ds) st) : FnOkG P w K mg base (k + 1) f fd ps (spD K n φ) := by
  refine okG_of F S (fun vs H Q E ⟨w, ds, st, Q', hl, so, r, _⟩ => by rw [← r.length, hl, hn]) fun cdv A outer s H vs Q E ng hr h => ?_
  obtain ⟨tds, hd, hq⟩ := hb cdv A outer s H E ng hr
  obtain ⟨t, p, l⟩ := hd.ex
  obtain ⟨w, ds, st, Q', hl, so, r, hφ, k⟩ := h
  refine ⟨t, p.nox, l w H w (L2.start N vs) H (startE N ds) st _ _ ⟨Ext.refl _ _, so, slots_start r⟩ (hq ds st Q' hl hφ) ⟨fun w' σ' H' env' st' le r' q => ?_, fun w' H' v ev st' x s r q => k w' H' v ev st' x s r q, fun _ _ _ _ _ _ _ q => q.elim, fun _ _ _ _ _ _ _ q => q.elim⟩⟩
  exact k w' H' .non (.dat .non) st' r'.x r'.s rfl q
/-- the promise of the law, at the heap behind the top -/
theorem headG {mb : Str → Option Value} {k : Nat} {fa a : Addr} {y : Str} {sp : Sp} {s₁ : Shared} {vs : List Value} {ns : List Int} (hA : Room k callerA)
    (KX : K.In s₁.heap) (glob : s₁.heap.Ns mainGlobals mg) (blt : s₁.heap.Ns builtinsNs mb) (same : ∀ z : Str, z ≠ "__name__" → mb z = bootBuiltins z) (free : s₁.heap.NoLimit) (gens : s₁.gens = #[])
    (obj : s₁.heap.get? a = some { cls := .type "list", data := .seq vs.toArray }) (nums : IntsAre vs ns) (few : ns.length ≤ sizeLine)
    (F : ∀ base : Heap, K.In base → base.Ns mainGlobals mg → FnOkG P w K mg base k fa fd [y] sp) (bind : ∀ (s : Shared) (u : Value), BindsTo s fd ⟨[u], []⟩ [(y, u)])
    (first : ∀ H : Hp, Only H → SqL K H a (ns.map V.int) → sp [.ref a] H (fun v _ => v = .bl true) fun _ _ _ => False) :
    codeAny (model P w) callerA (.call (.ref fa) ⟨[.ref a], []⟩) (fun r s' => r = .ok (.ret (.bool true)) ∧ OldK s₁.heap s'.heap ∧ s'.os = s₁.os ∧ AllBare s'.gens) s₁ := by
  have rv := vals_ints nums
  -- what is tracked: nothing, or the script alone
  have run : ∀ H : Hp, Only H → SqL K H a (ns.map V.int) → HOk P w H s₁.heap → (∀ b, H b ≠ none → b = a ∧ K.lookup a = none) →
      codeAny (model P w) callerA (.call (.ref fa) ⟨[.ref a], []⟩) (fun r s' => r = .ok (.ret (.bool true)) ∧ OldK s₁.heap s'.heap ∧ s'.os = s₁.os ∧ AllBare s'.gens) s₁ := by
    intro H only sq hok own
    have under : ∀ {b : Addr} {o : Obj}, s₁.heap.get? b = some o → H b = none → (hidT s₁.heap H).get? b = some o := fun e n => hidT_get e n
    have dicts : ∀ {b : Addr} {m : Str → Option Value}, s₁.heap.Ns b m → (hidT s₁.heap H).Ns b m := by
      rintro b m ⟨o, es, ep, e, d, r⟩
      refine ⟨o, es, ep, under e ?_, d, r⟩
      refine Classical.byContradiction fun hne => ?_
      obtain ⟨rfl, _⟩ := own b hne
      rw [obj] at e
      cases e
      cases d
    have kin : K.In (hidT s₁.heap H) := by
      intro b o e
      refine under (KX b o e) (Classical.byContradiction fun hne => ?_)
      obtain ⟨rfl, z⟩ := own b hne
      rw [z] at e
      cases e
    have mod : Mod K mg (hidT s₁.heap H) := ⟨kin, dicts glob, ⟨mb, dicts blt, same⟩, by
      obtain ⟨mc, h1, h2⟩ := free
      exact ⟨mc, dicts h1, h2⟩⟩
    have e0 : Env0 P w K mg (hidT s₁.heap H) callerA [] s₁ H :=
      { frames := rfl, mod := mod, bs := fun b o e => of_hidT e, bsz := Nat.le_of_eq (hidT_size _ _), funs := trivial, frf := fun b hb => absurd (show b ∈ ([] : List Addr) from hb) (by simp), hok := hok, bare := .of_eq gens }
    have ran := (F _ kin (dicts glob)).run callerA [] s₁ H ⟨[.ref a], []⟩ [.ref a] [.ref a] _ _ rfl hA e0 (bind s₁ (.ref a)) (.cons rfl .nil) (first H only sq)
    refine codeAny_mono ran fun r s' got => ?_
    match r, got with
    | .error _, bad => exact bad.elim
    | .ok (.ret u), ⟨v, H', os, bare, un, hok', r', q⟩ =>
      obtain rfl : v = .bl true := q
      obtain rfl : u = Value.bool true := r'
      refine ⟨rfl, OldK.of_keep fun b o e => ?_, os, bare⟩
      by_cases hb : H b = none
      · exact un.keep b o e hb (fun z => absurd (show b ∈ ([] : List Addr) from z) (by simp)) (by simp)
      · rcases only b with z | ⟨ob, xs, z⟩
        · exact absurd z hb
        · obtain ⟨e1, _⟩ := hok b _ z
          obtain ⟨e2, _⟩ := hok' b _ (un.frzs b ob _ z)
          rw [e] at e1
          cases e1
          exact e2
    | .ok .next, bad => exact bad.elim
    | .ok .brk, bad => exact bad.elim
    | .ok .cont, bad => exact bad.elim
  cases hk : K.lookup a with
  | some o =>
    have e := KX a o hk
    rw [obj] at e
    cases e
    exact run (fun _ => none) (fun _ => .inl rfl) (.inr ⟨_, vs.toArray, _, hk, rfl, rfl, rfl, by rw [List.size_toArray, nums.length]; exact few, by simpa using rv⟩) (fun b u z => nomatch (show (none : Option HO) = some u from z)) fun b z => absurd rfl z
  | none =>
    refine run (fun b => if b = a then some (.frz { cls := .type "list", data := .seq vs.toArray } (.lst (ns.map V.int))) else none) (fun b => ?_) (.inl (.inr ⟨{ cls := .type "list", data := .seq vs.toArray }, if_pos rfl⟩)) (fun b u z => ?_) fun b z => ⟨?_, hk⟩
    · by_cases hb : b = a
      · exact .inr ⟨_, _, if_pos hb⟩
      · exact .inl (if_neg hb)
    · by_cases hb : b = a
      · subst hb
        cases (if_pos rfl).symm.trans z
        exact ⟨obj, by rw [List.length_map]; exact few, vs, _, rv, obj⟩
      · cases (if_neg hb).symm.trans z
    · exact Classical.byContradiction fun hb => z (if_neg hb)
/-- the goal that k_head leaves -/
theorem walkG {l : PySem.W.OpenLaw} {n k : Nat} {q : Program} {loose : List Str} {XP : (Str → Option Value) → Heap → Prop} {YP : World → Heap → Prop} {d : DefRec} {KK : Params → Frag} {y : Str}
    (most : l.most = some n) (small : n ≤ 63) (plain : d.params.defaults = []) (hA : Room k callerA) (hY : ∀ (w : World) (h : Heap), YP w h → (KK w.params).In h)
    (F : ∀ (w : World) (mg : Str → Option Value) (fa : Addr) (h : Heap), (KK w.params).In h → h.Ns mainGlobals mg → mg d.name = some (.ref fa) →
      ∃ fd : FuncData, (∀ (s : Shared) (u : Value), BindsTo s fd ⟨[u], []⟩ [(y, u)]) ∧ ∀ base : Heap, (KK w.params).In base → base.Ns mainGlobals mg → FnOkG l.prog w (KK w.params) mg base k fa fd [y] (spD (KK w.params) 1 phiLaw)) :
    PySem.W.WalkO q loose XP YP l.row.toRowW d [] (fun f vs => PySem.call f vs) :=
  Att.attach_call most plain fun w s₀ s₁ mg mb fa o pm cd doc a vs ns G Y _ _ _ hmg obj nums len gens => by
    have KX := hY w _ Y
    obtain ⟨fd, bind, prom⟩ := F w mg fa _ KX G.T.g hmg
    exact headG hA KX G.T.g G.T.b G.T.builtins G.T.nolimit gens obj nums (Nat.le_trans len (Nat.le_trans small (by decide))) prom bind fun H only sq => law_entry H a ns (Nat.le_trans len small) only sq
end
end DL

set_option Elab.async false
set_option linter.all false
set_option maxRecDepth 100000
set_option maxHeartbeats 4000000
/-! DL21: repr of data; == of texts; calls of defs that show. -/
namespace DL
open PySem PySem.Spec PyProof.Rows PyProof L2
mutual
theorem D.py_noDict : ∀ (d : D) (n : Nat), d.py n = true → d.toPy.hasDict = false
  | .non, _, _ => by simp [D.toPy, PyData.hasDict]
  | .bl _, _, _ => by simp [D.toPy, PyData.hasDict]
  | .int _, _, _ => by simp [D.toPy, PyData.hasDict]
  | .str x, _, h => by simp [D.toPy, PyData.hasDict]
  | .lst ds, 0, h => by simp [D.py] at h
  | .lst ds, n + 1, h => by simpa [D.toPy, PyData.hasDict] using D.pys_noDict ds n (by simpa [D.py] using h)
  | .tup ds, 0, h => by simp [D.py] at h
  | .tup ds, n + 1, h => by simpa [D.toPy, PyData.hasDict] using D.pys_noDict ds n (by simpa [D.py] using h)
  | .ty _, _, h => by simp [D.py] at h
  | .ref _, _, h => by simp [D.py] at h
  | .top, _, h => by simp [D.py] at h
  | .cel _, _, h => by simp [D.py] at h
  | .scr _, _, h => by simp [D.py] at h
  | .dK _ _, _, h => by simp [D.py] at h
  | .dT _ _, _, h => by simp [D.py] at h
theorem D.pys_noDict : ∀ (ds : List D) (n : Nat), D.pys ds n = true → PyData.hasDictAll (D.toPys ds) = false
  | [], _, _ => by simp [D.toPys, PyData.hasDictAll]
  | d :: ds, n, h => by
    have h : d.py n = true ∧ D.pys ds n = true := by simpa [D.pys] using h
    simp [D.toPys, PyData.hasDictAll, D.py_noDict d n h.1, D.pys_noDict ds n h.2]
end
/-- what repr tells of a list -/
def showD (ds : List D) : Str := (D.lst ds).toPy.shown
def rReprD (K : Frag) : List V → Hp → VK → Prop := fun vs H Q => ∃ (v : V) (d : PyData), vs = [v] ∧ Dp K H v d ∧ PyProof.Rows.isDisplay d = true ∧ d.showable = true ∧ d.hasDict = false ∧ d.depth ≤ 60 ∧ d.shown.length ≤ sizeLine ∧ Q (.str d.shown) H
theorem cr_repr {X : Cx} (ng : NoG X.A) (hu : X.A.units + 65 < cLine) : CallR X (.builtin "repr") (rReprD X.K) := by
  intro pins s σ H vs us Q I r h
  obtain ⟨v, d, rfl, hd, hdis, hsh, hnd, hdp, hsz, q⟩ := h
  obtain ⟨u, rfl, ru⟩ : ∃ u, us = [u] ∧ RelV v u := by
    cases r with
    | cons a b => cases b; exact ⟨_, rfl, a⟩
  obtain ⟨as, rd⟩ := Dp.reads I d v u hd ru
  obtain ⟨a, rfl⟩ := PyProof.Rows.isRef_of_reads rd hdis
  exact repr_of_reads' rd hsh (PyData.noDict_hsm hnd) ng (by omega) (fun _ _ e => e) (fun h' t tk hk => ⟨.str d.shown, H, I.kept hk, ⟨t, rfl⟩, q⟩) hsz
def wRepr : W1 := fun x Q => match x with
  | .lst ds => (D.pys ds 50 = true ∧ PyData.showableAll (D.toPys ds) = true ∧ (showD ds).length ≤ sizeLine) ∧ Q (.str (showD ds))
  | _ => False
theorem boot_repr : bootBuiltins "repr" = some (.builtin "repr") := by decide +kernel
section
variable {X : Cx} {e a b : Expr} {p pos : Pos} {ta tb : TD}
theorem d_repr (ng : NoG X.A) (hu : X.A.units + 65 < cLine) (hm : X.mg "repr" = none) (ha : DE X e ta) (hg : Gl X "repr" := by rfl) (h1 : starEach [e] X.env = (false, eval e X.env) :: starEach [] X.env := by rfl) (h2 : (backTo pos (starEach [] X.env)).any (·.1) = false := by rfl) :
    DE X (.Call (.Name "repr" p) [e] [] pos) (dUn wRepr ta) := d_b1 (cr_repr ng hu) (by
  intro w H st x v Qd Q' so rx q k
  unfold wRepr at q
  split at q
  · rename_i ds
    obtain ⟨⟨hpy, hsh, hsz⟩, q⟩ := q
    have h51 : (D.lst ds).py 51 = true := by rw [D.py]; exact hpy
    refine ⟨v, (D.lst ds).toPy, rfl, Rep.dp so.sub _ v 51 h51 rx, ?_, ?_, D.py_noDict _ 51 h51, ?_, hsz, ?_⟩
    · simp [D.toPy, PyProof.Rows.isDisplay]
    · simpa [D.toPy, PyData.showable] using hsh
    · have := D.py_dep _ 51 h51; omega
    · exact k (.str _) w H _ (Ext.refl _ _) so rfl q
  · exact q.elim) hm boot_repr ha hg (by decide) (by decide) h1 h2
theorem op_eqS {X : Cx} : OpR X (compareOp .Eq) (fun x y H Q => ∃ i j, x = .str i ∧ y = .str j ∧ Q (.bl (i == j)) H) := by
  intro pins s σ H x y v u Q I rx ry h
  obtain ⟨i, j, rfl, rfl, q⟩ := h
  obtain ⟨t, rfl⟩ := rx
  obtain ⟨t', rfl⟩ := ry
  exact eq_str ⟨.bl _, H, I, rfl, q⟩
theorem op_neS {X : Cx} : OpR X (compareOp .NotEq) (fun x y H Q => ∃ i j, x = .str i ∧ y = .str j ∧ Q (.bl (i != j)) H) := by
  intro pins s σ H x y v u Q I rx ry h
  obtain ⟨i, j, rfl, rfl, q⟩ := h
  obtain ⟨t, rfl⟩ := rx
  obtain ⟨t', rfl⟩ := ry
  exact ne_str ⟨.bl _, H, I, rfl, q⟩
abbrev wEqS : W2 := wS fun i j => i == j
abbrev wNeS : W2 := wS fun i j => !(i == j)
theorem d_eqS (ha : DE X a ta) (hb : DE X b tb) : DE X (.Compare a [.Eq] [b] pos) (dOp wEqS ta tb) := d_cmp op_eqS opl_S ha hb
theorem d_neS (ha : DE X a ta) (hb : DE X b tb) : DE X (.Compare a [.NotEq] [b] pos) (dOp wNeS ta tb) := d_cmp op_neS opl_S ha hb
theorem t_eqS (ha : DE X a ta) (hb : DE X b tb) : DT X (.Compare a [.Eq] [b] pos) (dTest (dOp wEqS ta tb)) := t_cmp op_eqS opl_S ha hb
theorem t_neS (ha : DE X a ta) (hb : DE X b tb) : DT X (.Compare a [.NotEq] [b] pos) (dTest (dOp wNeS ta tb)) := t_cmp op_neS opl_S ha hb
end
/-! ### calls of defs that show -/
section
variable {X : Cx} {k n : Nat} {f : Addr} {fd : FuncData} {ps : List Str} {sp : Sp} {φ : Phi} {x : Str} {e : Expr} {es : List Expr} {p pos : Pos} {tas : TDA} {t : TA} {dvs : List V} {ds : List Value}
theorem pe_callG (ng : NoG X.A) (F : FnOkG X.prog X.w X.K X.mg X.base k f fd ps sp) (room : Room k X.A) (glob : Gl X x) (where_ : X.mg x = some (.ref f)) (keep : PySem.W.keepIn X.K (.ref f) = true) (bind : Binds X.K fd ps ds) (dfl : Vals dvs ds)
    (args : PA X (e :: es) t) (hdb : (x == ("__debug__" : Str)) = false := by decide) (he : starEach (e :: es) X.env = (false, eval e X.env) :: starEach es X.env := by rfl) (hpl : (backTo pos (starEach es X.env)).any (·.1) = false := by rfl) :
    PE X (.Call (.Name x p) (e :: es) [] pos) (tCall sp dvs L2.E0 t) := by
  constructor
  intro pins s σ H Q I h
  refine wpAny_Call_Name_kw (ld_glob I glob where_ ?_ hdb)
  refine PySem.W.callWith_K (h₀ := X.base) I.ok.mod.kin keep (thn (args.run pos pins s σ H _ I h) fun us s1 ⟨vs, H1, I1, r, q⟩ => ⟨I1.kIn, ?_⟩) he hpl
  have both : Vals (vs ++ dvs) (us ++ ds) := r.append dfl
  have many : (us ++ ds).length = ps.length := by rw [← both.length]; exact F.len _ _ _ _ q
  have ran := F.run X.A X.stack s1 H1 ⟨us, []⟩ (us ++ ds) (vs ++ dvs) Q L2.E0 ng room I1.env0 (bind s1 us I1.kIn many) both q
  refine wpAny_call (codeAny_mono ran fun res s' got => ?_)
  match res, got with
  | .error _, bad => exact bad.elim
  | .ok (.ret _), good => exact I1.after good
  | .ok .next, bad => exact bad.elim
  | .ok .brk, bad => exact bad.elim
  | .ok .cont, bad => exact bad.elim
theorem r_callG (ng : NoG X.A) (F : FnOkG X.prog X.w X.K X.mg X.base k f fd ps (spD X.K n φ)) (T : TxF X.K X.mg x f fd ps) (hr : Room k X.A) (ha : DA X (e :: es) tas) (hg : Gl X x := by rfl) (hdb : (x == ("__debug__" : Str)) = false := by decide)
    (he : starEach (e :: es) X.env = (false, eval e X.env) :: starEach es X.env := by rfl) (hpl : (backTo pos (starEach es X.env)).any (·.1) = false := by rfl) : RE X (.Call (.Name x p) (e :: es) [] pos) (dCall n φ [] tas) := by
  obtain ⟨t, pa, la⟩ := ha.ex
  exact ⟨_, pe_callG ng F hr hg T.g T.kp T.b .nil pa hdb he hpl, lift_call la fun _ _ => rfl⟩
end
end DL

set_option Elab.async false
set_option linter.all false
set_option maxRecDepth 100000
set_option maxHeartbeats 4000000
/-! DL22: zip of three lists. -/
namespace DL
open PySem PySem.Spec PyProof.Rows PyProof L2
/-- three lists as they stand at each turn, the items in new triples -/
def It3 (K : Frag) (a b c : Addr) : It where
  go := fun i H => ∃ (xs ys zs : List V) (x y z : V), (SqL K H a xs ∧ SqL K H b ys ∧ SqL K H c zs) ∧ xs[i]? = some x ∧ ys[i]? = some y ∧ zs[i]? = some z
  yld := fun i H v H' => ∃ (T : Addr) (x y z : V), v = .ref T ∧ H T = none ∧ H' = upd H T (.tup [x, y, z]) ∧ (∀ xs, SqL K H a xs → xs[i]? = some x) ∧ (∀ ys, SqL K H b ys → ys[i]? = some y) ∧ ∀ zs, SqL K H c zs → zs[i]? = some z
  stop := fun i H => ∃ xs ys zs : List V, (SqL K H a xs ∧ SqL K H b ys ∧ SqL K H c zs) ∧ (i ≤ xs.length ∧ i ≤ ys.length ∧ i ≤ zs.length) ∧ (i = xs.length ∨ i = ys.length ∨ i = zs.length)
abbrev sep3 (z TI TO i1 i2 i3 a b c : Addr) : Prop := ZipSep3 z TI TO i1 i2 i3 [i1, a] [i2, b] [i3, c]
theorem turn3 {P : Program} {w : World} {K : Frag} {elts : List Expr} {kk : Nat} {tpos : Pos} {a b c z TI TO i1 i2 i3 : Addr} (S : sep3 z TI TO i1 i2 i3 a b c) (na : a ≠ i1) (nb : b ≠ i2) (nc : c ≠ i3) :
    Turn P w K (.Tuple elts kk tpos) (It3 K a b c) [z, TI, TO, i1, i2, i3] z (fun i h => IsZip h z TI TO .none ∧ IsTupOf3 h TI (.ref i1) (.ref i2) (.ref i3) ∧ (∃ u v t, IsTupOf3 h TO u v t) ∧ h.IsListIter i1 a i ∧ h.IsListIter i2 b i ∧ h.IsListIter i3 c i) where
  mem := List.mem_cons_self
  obj := by
    rintro i h ⟨hz, hTI, ⟨u, v, t, hTO⟩, ⟨o1, e1, _, d1⟩, ⟨o2, e2, _, d2⟩, ⟨o3, e3, _, d3⟩⟩ q hq
    simp only [List.mem_cons, List.not_mem_nil, or_false] at hq
    rcases hq with rfl | rfl | rfl | rfl | rfl | rfl
    · exact ⟨_, hz, fun v z => nomatch z⟩
    · exact ⟨_, hTI, fun v z => nomatch z⟩
    · exact ⟨_, hTO, fun v z => nomatch z⟩
    · exact ⟨o1, e1, fun v z => by rw [d1] at z; cases z⟩
    · exact ⟨o2, e2, fun v z => by rw [d2] at z; cases z⟩
    · exact ⟨o3, e3, fun v z => by rw [d3] at z; cases z⟩
  keep := by
    rintro i h h' ⟨hz, hTI, ⟨u, v, t, hTO⟩, h1, h2, h3⟩ k
    exact ⟨k z (by simp) _ hz, k TI (by simp) _ hTI, ⟨u, v, t, k TO (by simp) _ hTO⟩, h1.at fun o q => k i1 (by simp) o q, h2.at fun o q => k i2 (by simp) o q, h3.at fun o q => k i3 (by simp) o q⟩
  item := by
    rintro X hP hw hK hc i pins s σ H E I hf ⟨hz, hTI, ⟨u0, v0, t0, hTO⟩, h1, h2, h3⟩ ⟨xs, ys, zs, x, y, y3, ⟨qx, qy, qz⟩, hx, hy, hy3⟩
    subst hP hw hK
    obtain ⟨l1, r1, p1, _⟩ := I.list qx
    obtain ⟨l2, r2, p2, _⟩ := I.list qy
    obtain ⟨l3, r3, p3, _⟩ := I.list qz
    obtain ⟨u1, g1, ru1⟩ := r1.get hx
    obtain ⟨u2, g2, ru2⟩ := r2.get hy
    obtain ⟨u3, g3, ru3⟩ := r3.get hy3
    have hh : X.A.in1.handled = none := I.ok.hd hc
    have D1 := Draws.list (A := X.A.in1) (prog := X.prog) (w := X.w) hh i1 a na l1.toArray
    have D2 := Draws.list (A := X.A.in1) (prog := X.prog) (w := X.w) hh i2 b nb l2.toArray
    have D3 := Draws.list (A := X.A.in1) (prog := X.prog) (w := X.w) hh i3 c nc l3.toArray
    have few : ∀ {l : List Value} {u : Value}, l[i]? = some u → i < l.toArray.size := fun {l u} g => by
      rw [List.size_toArray]; exact (List.getElem?_eq_some_iff.mp g).1
    have below : z < s.heap.objs.size := Heap.lt_size hz
    refine wpAny_pyNext_zipD3_item S D1 D2 D3 hz hTI hTO ⟨h1, p1.isList⟩ ⟨h2, p2.isList⟩ ⟨h3, p3.isList⟩ (few g1) (few g2) (few g3) fun x1 x2 x3 h' tk y1 y2 y3' b1 b2 d1 d2 d3 b5 b6 k => ?_
    obtain rfl : u1 = x1 := by
      have : l1[i]? = some x1 := by simpa using y1
      rw [g1] at this; exact Option.some.inj this
    obtain rfl : u2 = x2 := by
      have : l2[i]? = some x2 := by simpa using y2
      rw [g2] at this; exact Option.some.inj this
    obtain rfl : u3 = x3 := by
      have : l3[i]? = some x3 := by simpa using y3'
      rw [g3] at this; exact Option.some.inj this
    refine ⟨_, rfl, wpAny_letOwnedTupleGo_zip (s := { s with heap := h', toks := tk }) b1 fun h'' z'' sb => ?_⟩
    have made : h''.get? s.heap.objs.size = some { cls := .type "tuple", data := .seq #[u1, u2, u3] } := (sb.2 _ (Nat.ne_of_gt below)).trans b5
    have new : ObjOk X.prog X.w (upd H s.heap.objs.size (.tup [x, y, y3])) h'' s.heap.objs.size (.tup [x, y, y3]) :=
      ⟨show 3 ≤ sizeLine by decide, [u1, u2, u3], .cons ru1 (.cons ru2 (.cons ru3 .nil)), ⟨_, made, rfl, _, rfl⟩⟩
    have six : ∀ q, q ∈ [z, TI, TO, i1, i2, i3] → q < s.heap.objs.size := fun q hq => by
      simp only [List.mem_cons, List.not_mem_nil, or_false] at hq
      rcases hq with rfl | rfl | rfl | rfl | rfl | rfl
      · exact below
      · exact Heap.lt_size hTI
      · exact Heap.lt_size hTO
      · obtain ⟨_, e, _⟩ := h1; exact Heap.lt_size e
      · obtain ⟨_, e, _⟩ := h2; exact Heap.lt_size e
      · obtain ⟨_, e, _⟩ := h3; exact Heap.lt_size e
    have I1 : Inv X pins σ (upd H s.heap.objs.size (.tup [x, y, y3])) { s with heap := h'', toks := tk } :=
      I.turnedNew (ch := [z, TI, TO, i1, i2, i3]) (fun q o hq e => (sb.2 q fun v => hq (by simp [v])).trans (k q o (fun v => hq (by simp [v])) (fun v => hq (by simp [v])) (fun v => hq (by simp [v])) (fun v => hq (by simp [v])) (fun v => hq (by simp [v])) e)) hf (Nat.le_refl _) new
    refine ⟨.ref s.heap.objs.size, _, I1, rfl, ⟨_, x, y, y3, rfl, I.hok.fresh (Nat.le_refl _), rfl, fun l hl => by rw [I.list_inj hl qx]; exact hx, fun l hl => by rw [I.list_inj hl qy]; exact hy, fun l hl => by rw [I.list_inj hl qz]; exact hy3⟩,
      ⟨z'', ?_, ⟨u1, u2, u3, (sb.2 _ S.TOz).trans b2⟩, d1.1.at fun o q => (sb.2 _ (Ne.symm S.zi1)).trans q, d2.1.at fun o q => (sb.2 _ (Ne.symm S.zi2)).trans q, d3.1.at fun o q => (sb.2 _ (Ne.symm S.zi3)).trans q⟩, fun q hq => ?_⟩
    · exact (sb.2 _ S.TIz).trans (k _ _ S.TIz S.TITO S.TIi1 S.TIi2 S.TIi3 hTI)
    · rw [upd_ne (Nat.ne_of_lt (six q hq))]
      exact (hf q hq).1
  done := by
    rintro X hP hw hK hc i pins s σ H E I hf ⟨hz, hTI, ⟨u0, v0, t0, hTO⟩, h1, h2, h3⟩ ⟨xs, ys, zs, ⟨qx, qy, qz⟩, ⟨k1, k2, k3⟩, hend⟩
    subst hP hw hK
    obtain ⟨l1, r1, p1, _⟩ := I.list qx
    obtain ⟨l2, r2, p2, _⟩ := I.list qy
    obtain ⟨l3, r3, p3, _⟩ := I.list qz
    have e1 := r1.length
    have e2 := r2.length
    have e3 := r3.length
    have hh : X.A.in1.handled = none := I.ok.hd hc
    have D1 := Draws.list (A := X.A.in1) (prog := X.prog) (w := X.w) hh i1 a na l1.toArray
    have D2 := Draws.list (A := X.A.in1) (prog := X.prog) (w := X.w) hh i2 b nb l2.toArray
    have D3 := Draws.list (A := X.A.in1) (prog := X.prog) (w := X.w) hh i3 c nc l3.toArray
    have z1 : l1.toArray.size = l1.length := List.size_toArray ..
    have z2 : l2.toArray.size = l2.length := List.size_toArray ..
    have z3 : l3.toArray.size = l3.length := List.size_toArray ..
    refine wpAny_pyNext_zipD3_end S D1 D2 D3 hz hTI hTO ⟨h1, p1.isList⟩ ⟨h2, p2.isList⟩ ⟨h3, p3.isList⟩ (by omega) (by omega) (by omega) (by omega) fun h' tk k => ⟨rfl, ?_⟩
    exact I.turnedL (ch := [z, TI, TO, i1, i2, i3]) (fun q o hq e => k q o (fun v => hq (by simp [v])) (fun v => hq (by simp [v])) (fun v => hq (by simp [v])) (fun v => hq (by simp [v])) (fun v => hq (by simp [v])) e) hf
  self := fun A i s Q E st h => wpAny_pyIter_zip st.1 h
def iZip3 (K : Frag) (ta : TA) : TI := fun σ H R => ta σ H fun vs H1 => ∃ a b c xs ys zs, vs = [.ref a, .ref b, .ref c] ∧ (SqL K H1 a xs ∧ SqL K H1 b ys ∧ SqL K H1 c zs) ∧ R (It3 K a b c) H1
theorem pi_zip3 {X : Cx} {e e2 e3 : Expr} {ta : TA} {p pos tpos : Pos} {elts : List Expr} {kk : Nat} (hg : Gl X "zip") (hm : X.mg "zip" = none) (ha : PA X [e, e2, e3] ta)
    (hs : starEach [e, e2, e3] X.env = (false, eval e X.env) :: starEach [e2, e3] X.env := by rfl) (hpl : (backTo pos (starEach [e2, e3] X.env)).any (·.1) = false := by rfl) :
    PI X (.Tuple elts kk tpos) (.Call (.Name "zip" p) [e, e2, e3] [] pos) (iZip3 X.K ta) := by
  constructor
  intro pins s σ H R I h
  refine Call_ (ld_blt I hg hm PyProof.Rows.boot_zip (PyProof.Rows.callWith_type1 (thn (ha.run pos pins s σ H _ I h) fun us s1 ⟨vs, H1, I1, r1, q1⟩ => ?_) hs hpl))
  obtain ⟨a, b, c, xs, ys, zs, rfl, ⟨qx, qy, qz⟩, q⟩ := q1
  obtain ⟨rfl⟩ : us = [.ref a, .ref b, .ref c] := by
    cases r1 with
    | cons ra r1 =>
      cases r1 with
      | cons rb r1 =>
        cases r1 with
        | cons rc r1 =>
          cases r1
          cases ra
          cases rb
          cases rc
          rfl
  obtain ⟨l1, _, p1, _⟩ := I1.list qx
  obtain ⟨l2, _, p2, _⟩ := I1.list qy
  obtain ⟨l3, _, p3, _⟩ := I1.list qz
  have la : a < s1.heap.objs.size := p1.lt
  have lb : b < s1.heap.objs.size := p2.lt
  have lc : c < s1.heap.objs.size := p3.lt
  refine zip_begins3 (begins_list a l1.toArray) (begins_list b l2.toArray) (begins_list c l3.toArray) p1.isList p2.isList p3.isList fun h' hz hTI hTO g1 g2 g3 hsz hk => wpAny_pyIter_zip hz ?_
  have I2 : Inv X pins σ H1 { s1 with heap := h' } := I1.kept (t' := s1.toks) hk
  have S : sep3 (s1.heap.objs.size + 5) (s1.heap.objs.size + 3) (s1.heap.objs.size + 4) s1.heap.objs.size (s1.heap.objs.size + 1) (s1.heap.objs.size + 2) a b c :=
    zip_sep3 (N := s1.heap.objs.size) (fp1 := [a]) (fp2 := [b]) (fp3 := [c]) (fun q hq => by rw [List.mem_singleton.mp hq]; exact la) (fun q hq => by rw [List.mem_singleton.mp hq]; exact lb) (fun q hq => by rw [List.mem_singleton.mp hq]; exact lc)
  have above : ∀ q, q ∈ [s1.heap.objs.size + 5, s1.heap.objs.size + 3, s1.heap.objs.size + 4, s1.heap.objs.size, s1.heap.objs.size + 1, s1.heap.objs.size + 2] → s1.heap.objs.size ≤ q := fun q hq => by
    simp only [List.mem_cons, List.not_mem_nil, or_false] at hq
    rcases hq with rfl | rfl | rfl | rfl | rfl | rfl
    any_goals exact Nat.le_add_right _ _
    exact Nat.le_refl _
  refine ⟨s1.heap.objs.size + 5, [s1.heap.objs.size + 5, s1.heap.objs.size + 3, s1.heap.objs.size + 4, s1.heap.objs.size, s1.heap.objs.size + 1, s1.heap.objs.size + 2], _, _, H1, rfl, I2, turn3 S (Nat.ne_of_lt la) (fun z => ?_) (fun z => ?_), ⟨hz, hTI, ⟨_, _, _, hTO⟩, ?_, ?_, ?_⟩, fun q hq => I1.fpOk (above q hq) (I1.hok.fresh (above q hq)), q⟩
  · subst z
    exact absurd lb (Nat.not_lt.mpr (Nat.le_add_right _ _))
  · subst z
    exact absurd lc (Nat.not_lt.mpr (Nat.le_add_right _ _))
  · exact ⟨_, g1, rfl, rfl⟩
  · exact ⟨_, g2, rfl, rfl⟩
  · exact ⟨_, g3, rfl, rfl⟩
/-! ### as data -/
def zipD3 (ds es fs : List D) : List D := (ds.zip (es.zip fs)).map fun p => D.tup [p.1, p.2.1, p.2.2]
theorem zipD3_get {ds es fs : List D} {i : Nat} {d : D} (h : (zipD3 ds es fs)[i]? = some d) : ∃ x y z, ds[i]? = some x ∧ es[i]? = some y ∧ fs[i]? = some z ∧ d = .tup [x, y, z] := by
  unfold zipD3 at h
  rw [List.getElem?_map] at h
  obtain ⟨⟨x, y, z⟩, hp, rfl⟩ := Option.map_eq_some_iff.mp h
  obtain ⟨h1, h2⟩ := List.getElem?_zip_eq_some.mp hp
  obtain ⟨h3, h4⟩ := List.getElem?_zip_eq_some.mp h2
  exact ⟨x, y, z, h1, h3, h4, rfl⟩
theorem zipD3_length (ds es fs : List D) : (zipD3 ds es fs).length = min ds.length (min es.length fs.length) := by
  unfold zipD3; rw [List.length_map, List.length_zip, List.length_zip]
section
variable {K : Frag} {w1 : Wd} {a b c : Addr} {xs ys zs : List V} {ds es fs : List D}
theorem feeds_zip3 (ha : SqL K w1.Z a xs) (hb : SqL K w1.Z b ys) (hc : SqL K w1.Z c zs) (r : Reps K w1.cl w1.Z ds xs) (r2 : Reps K w1.cl w1.Z es ys) (r3 : Reps K w1.cl w1.Z fs zs) : Feeds K w1 (It3 K a b c) (zipD3 ds es fs) := by
  have walk : Walk (It3 K a b c) (zipD3 ds es fs).length (fun H => SqL K H a xs ∧ SqL K H b ys ∧ SqL K H c zs) fun i H v H' => (It3 K a b c).yld i H v H' := by
    have n1 := r.length
    have n2 := r2.length
    have n3 := r3.length
    rw [zipD3_length]
    refine ⟨fun i H hi g => ?_, fun H g => ?_, fun i H v H' _ _ y => y⟩
    · have h1 : i < xs.length := by omega
      have h2 : i < ys.length := by omega
      have h3 : i < zs.length := by omega
      exact ⟨xs, ys, zs, xs[i], ys[i], zs[i], g, by simp [h1], by simp [h2], by simp [h3]⟩
    · exact ⟨xs, ys, zs, g, by omega, by omega⟩
  refine feeds_of walk rfl (fun w H st l s => ⟨(l.z.trans s.sub).seq ha, (l.z.trans s.sub).seq hb, (l.z.trans s.sub).seq hc⟩) fun i d w H st v H' hd l s y => ?_
  obtain ⟨T, x, y, z, rfl, hT, rfl, h1, h2, h3⟩ := y
  obtain ⟨dx, dy, dz, e1, e2, e3, rfl⟩ := zipD3_get hd
  obtain ⟨x', g1, rx⟩ := r.get e1
  obtain ⟨y', g2, ry⟩ := r2.get e2
  obtain ⟨z', g3, rz⟩ := r3.get e3
  obtain rfl : x = x' := Option.some.inj ((h1 xs ((l.z.trans s.sub).seq ha)).symm.trans g1)
  obtain rfl : y = y' := Option.some.inj ((h2 ys ((l.z.trans s.sub).seq hb)).symm.trans g2)
  obtain rfl : z = z' := Option.some.inj ((h3 zs ((l.z.trans s.sub).seq hc)).symm.trans g3)
  obtain ⟨e, s2⟩ := ext_frozen (o := .tup [x, y, z]) s hT
  exact ⟨_, e, s2, T, _, rfl, .inl (.inl upd_same), .cons (e.rep (l.rep rx)) (.cons (e.rep (l.rep ry)) (.cons (e.rep (l.rep rz)) rfl))⟩
end
def diZip3 (t u v : TD) : TDI := fun env st Q => t env st fun a st1 => u env st1 fun b st2 => v env st2 fun c st3 => match a, b, c with | .lst xs, .lst ys, .lst zs => Q (zipD3 xs ys zs) st3 | _, _, _ => False
section
variable {X : Cx} {a b c : Expr} {ta tb tc : TD} {p pos tpos : Pos} {elts : List Expr} {kk : Nat}
theorem i_zip3 (hm : X.mg "zip" = none) (h : DE X a ta) (h' : DE X b tb) (h'' : DE X c tc) (hg : Gl X "zip" := by rfl) (hs : starEach [a, b, c] X.env = (false, eval a X.env) :: starEach [b, c] X.env := by rfl)
    (h2 : starEach [b, c] X.env = (false, eval b X.env) :: starEach [c] X.env := by rfl) (h3 : starEach [c] X.env = (false, eval c X.env) :: starEach [] X.env := by rfl) (hpl : (backTo pos (starEach [b, c] X.env)).any (·.1) = false := by rfl) :
    DI X (.Tuple elts kk tpos) (.Call (.Name "zip" p) [a, b, c] [] pos) (diZip3 ta tb tc) := by
  obtain ⟨t, p, l⟩ := h.ex
  obtain ⟨t2, p2, l2⟩ := h'.ex
  obtain ⟨t3, p3, l3⟩ := h''.ex
  refine ⟨_, pi_zip3 hg hm (pa_cons p (pa_cons p2 (pa_cons p3 pa_nil h3) h2) hs) hs hpl, fun H0 w σ H env st Q R sl so q k => l H0 w σ H env st _ _ sl so q fun w1 H1 v c1 st1 x1 s1 r1 q1 => ?_⟩
  refine l2 H0 w1 σ H1 env st1 _ _ (sl.ext x1) s1 q1 fun w2 H2 v2 c2 st2 x2 s2 r2 q2 => ?_
  refine l3 H0 w2 σ H2 env st2 _ _ ((sl.ext x1).ext x2) s2 q2 fun w3 H3 v3 c3 st3 x3 s3 r3 q3 => ?_
  split at q3
  · rename_i xs ys zs
    obtain ⟨a, vs, rfl, ha, ra⟩ := (x2.trans x3).rep r1
    obtain ⟨b, us, rfl, hb, rb⟩ := x3.rep r2
    obtain ⟨c, ws, rfl, hc, rc⟩ := r3
    exact ⟨a, b, c, vs, us, ws, rfl, ⟨.of (s3.sub _ _ ha), .of (s3.sub _ _ hb), .of (s3.sub _ _ hc)⟩, k w3 H3 st3 _ _ ((x1.trans x2).trans x3) s3 (feeds_zip3 (.of ha) (.of hb) (.of hc) ra rb rc) q3⟩
  · exact q3.elim
end
/-! ### list(range(n)) -/
theorem reps_ints {K : Frag} {cl : List Addr} {Z : Hp} : ∀ ns : List Int, Reps K cl Z (ns.map D.int) (ns.map V.int)
  | [] => rfl
  | n :: ns => .cons rfl (reps_ints ns)
def dListRg (t : TD) : TDR := fun env st Q => t env st fun d st1 => match d with | .int n => RgOk 0 n ∧ Q (.own (.lst (rangeD 0 n.toNat))) st1 | _ => False
section
variable {X : Cx} {a : Expr} {ta : TD} {p p2 pos pos2 : Pos}
theorem r_listRg (hm : X.mg "list" = none) (hm2 : X.mg "range" = none) (ha : DE X a ta) (hc : X.calm = true := by rfl) (hg : Gl X "list" := by rfl) (hg2 : Gl X "range" := by rfl) (h1 : starEach [a] X.env = (false, eval a X.env) :: starEach [] X.env := by rfl) : RE X (.Call (.Name "list" p) [.Call (.Name "range" p2) [a] [] pos2] [] pos) (dListRg ta) := by
  obtain ⟨t, pa, l⟩ := ha.ex
  refine ⟨_, pe_listRg hc hg hm (prg_1 hg2 hm2 pa h1), fun H0 w σ H env st Q Q' sl so q k => l H0 w σ H env st _ _ sl so q fun w1 H1 v d st1 x1 s1 r1 q1 => ?_⟩
  split at q1
  · rename_i n
    obtain rfl : v = .int n := r1
    refine ⟨n, rfl, q1.1, fun q hq => ?_⟩
    obtain ⟨e2, s2⟩ := ext_laid (o := .lst (rgV 0 n)) s1 hq
    refine k w1 _ _ (.own (.lst (rangeD 0 n.toNat))) st1 (x1.trans e2) s2 ⟨q, rfl, x1.tr q hq, s1.zfree hq, s1.notcell hq, _, upd_same, ?_⟩ q1.2
    have e : rgV 0 n = ((List.range n.toNat).map fun i : Nat => (0 : Int) + (i : Nat)).map V.int := by
      unfold rgV
      rw [List.map_map, show (n - 0).toNat = n.toNat by omega]
      rfl
    have e2 : rangeD 0 n.toNat = ((List.range n.toNat).map fun i : Nat => (0 : Int) + (i : Nat)).map D.int := by
      unfold rangeD
      rw [List.map_map]
      rfl
    rw [e, e2]
    exact reps_ints _
  · exact q1.elim
end
/-! ### comprehensions with tuples within tuples as their target -/
def LiftCs (K : Frag) (g : TGs) (gd : TDGs) (vs : List Nat) : Prop := ∀ (H0 : Hp) (w : Wd) (σ : L2.St) (H : Hp) (env : DEnv) (st : Store) (d : List D) (v : List V) (Q : DEnv → Store → Prop) (Q' : L2.St → Hp → Prop), Slots K H0 w σ H env → Sto w H st → Reps K w.cl w.Z d v → gd d env st Q →
  (∀ σ' env' st', Slots K H0 w σ' H env' → Sto w H st' → wipe σ' vs = wipe σ vs → Q env' st' → Q' σ' H) → g v σ H Q'
theorem liftcs_nil {K : Frag} {vs : List Nat} : LiftCs K gNil gdNil vs := fun H0 w σ H env st d v Q Q' sl so rd q k => by
  obtain ⟨rfl, q⟩ := q
  exact ⟨rd, k σ env st sl so rfl q⟩
theorem liftcs_cons {K : Frag} {vs : List Nat} {g : TG} {gd : TDG} {gs : TGs} {gds : TDGs} (l : LiftC K g gd vs) (ls : LiftCs K gs gds vs) : LiftCs K (gCons g gs) (gdCons gd gds) vs := fun H0 w σ H env st d v Q Q' sl so rd q k => by
  unfold gdCons at q
  split at q
  · rename_i d0 ds
    obtain ⟨v0, vr, rfl, r1, r2⟩ := rd
    refine ⟨v0, vr, rfl, l H0 w σ H env st d0 v0 _ _ sl so r1 q fun σ1 env1 st1 sl1 so1 e1 q1 => ?_⟩
    exact ls H0 w σ1 H env1 st1 ds vr _ _ sl1 so1 r2 q1 fun σ2 env2 st2 sl2 so2 e2 q2 => k σ2 env2 st2 sl2 so2 (e2.trans e1) q2
  · exact q.elim
theorem liftc_tupG {K : Frag} {n : Nat} {vs : List Nat} {gs : TGs} {gds : TDGs} (l : LiftCs K gs gds vs) : LiftC K (gTup K n gs) (gdTup n gds) vs := fun H0 w σ H env st d v Q Q' sl so rd q k => by
  unfold gdTup at q
  split at q
  · rename_i ds
    obtain ⟨a, us, rfl, ha, rs⟩ := rd
    exact ⟨a, us, rfl, Same.seqT so.sub ha, by rw [← rs.length]; exact q.1, l H0 w σ H env st ds us Q Q' sl so rs q.2 k⟩
  · exact q.elim
section
variable {X : Cx} {tg e elt c : Expr} {ti : TDI} {ted : TD} {ttd : TDT} {scope : Scope} {pos : Pos} {g : TG} {gd : TDG}
theorem r_lcG (own : List (Str × Nat)) (hN : X.N.Nodup) (hi : DI X tg e ti) (hg : ∀ s H C cl fp, PG (Blk X scope s H C cl fp) tg g) (lg : LiftC X.K g gd (own.map (·.2))) (he : ∀ s H C cl fp, DE (Blk X scope s H C cl fp) elt ted) (ok : BlkOk X.N X.env.scope scope own) (hc : X.calm = true := by rfl) (hs : ∀ x, foldedSetIterable e X.env x = pure x := by intro _; rfl) :
    RE X (.ListComp elt [⟨tg, e, [], 0⟩] scope pos) (dLc ti gd dYes ted (own.map (·.2))) := by
  obtain ⟨wi, p, l⟩ := hi.ex
  exact ⟨_, pe_lc hc hN p ok hg (fun _ _ _ _ _ => pts_nil) (fun s H C cl fp => (he s H C cl fp).can) hs, lift_lc l lg lift_yes lift_canE⟩
end
end DL

set_option Elab.async false
set_option linter.all false
set_option maxRecDepth 100000
set_option maxHeartbeats 4000000
/-! DL23: trees of one's own through tuples and comprehensions. -/
namespace DL
open PySem PySem.Spec L2
section
variable {K : Frag} {w w0 w1 w2 : Wd} {H H0 H1 H2 : Hp} {st : Store}
theorem OwnTs.append : ∀ {ds es : List D} {vs us : List V} {L M : List Addr}, OwnTs K w H ds vs L → OwnTs K w H es us M → (∀ p ∈ L, p ∉ M) → OwnTs K w H (ds ++ es) (vs ++ us) (L ++ M)
  | [], es, vs, us, L, M, h, g, dj => by
    obtain ⟨rfl, rfl⟩ := (show vs = [] ∧ L = [] from h)
    exact g
  | d :: ds, es, vs, us, L, M, h, g, dj => by
    obtain ⟨v, r, L1, L2, rfl, rfl, h1, h2, h3⟩ := (show ∃ v r L1 L2, vs = v :: r ∧ L = L1 ++ L2 ∧ (∀ p ∈ L1, p ∉ L2) ∧ OwnT K w H d v L1 ∧ OwnTs K w H ds r L2 from h)
    refine ⟨v, r ++ us, L1, L2 ++ M, rfl, List.append_assoc .., fun p hp hq => ?_, h2, OwnTs.append h3 g fun p hp => dj p (List.mem_append_right _ hp)⟩
    rcases List.mem_append.mp hq with h | h
    · exact h1 p hp h
    · exact dj p (List.mem_append_left _ hp) h
theorem OwnTs.one {d : D} {v : V} {L : List Addr} (h : OwnT K w H d v L) : OwnTs K w H [d] [v] L := ⟨v, [], L, [], rfl, (List.append_nil _).symm, fun p _ hq => by simp at hq, h, rfl, rfl⟩
theorem LOk.append {L M : List Addr} (h : LOk w H0 H L) (g : LOk w H0 H M) : LOk w H0 H (L ++ M) := fun p hp => by
  rcases List.mem_append.mp hp with z | z
  · exact h p z
  · exact g p z
end
section
variable {X : Cx} {e : Expr} {es : List Expr} {pos : Pos} {tr : TDR} {tas : TDA}
def dTupO (t : TDA) : TDR := fun env st Q => t env st fun ds st1 => ds.length ≤ sizeLine ∧ Q (.deep (.tup ds)) st1
theorem r_tupO {k : Nat} (h : DOw X es tas) : RE X (.Tuple es k pos) (dTupO tas) := by
  obtain ⟨t, p, l⟩ := h.ex
  refine ⟨_, pe_tup p, fun H0 w σ H env st Q Q' sl so q k => l H0 w σ H env st _ _ sl so q fun w1 H1 vs ds st1 L e1 s1 o1 lo1 q1 => ⟨by rw [← o1.length]; exact q1.1, fun p hp => ?_⟩⟩
  obtain ⟨e2, s2⟩ := ext_frozen (o := .tup vs) s1 hp
  exact k _ _ _ (.deep (.tup ds)) st1 (e1.trans e2) s2 ⟨L, ⟨p, vs, rfl, .inl (.inl upd_same), OwnTs.ext e2 ds vs L (fun q hq => (lo1 q hq).2.2.2) o1⟩, lo1.ext e2⟩ q1.2
/-! ### a result in each of a comprehension's blocks -/
def canR (K : Frag) (td : TDR) : TE := fun σ H Q' => ∃ (H0 : Hp) (w : Wd) (env : DEnv) (st : Store) (Q : EV → Store → Prop), Slots K H0 w σ H env ∧ Sto w H st ∧ td env st Q ∧ ∀ w' H' v ev st', Ext w H w' H' → Sto w' H' st' → ROk K H w' H' v ev → Q ev st' → Q' v H'
theorem RE.can (h : RE X e tr) : PE X e (canR X.K tr) := by
  obtain ⟨t, p, l⟩ := h.ex
  refine ⟨fun pins s σ H Q' I q => ?_⟩
  obtain ⟨H0, w, env, st, Q, sl, so, q, k⟩ := q
  exact p.run pins s σ H Q' I (l H0 w σ H env st Q Q' sl so q k)
theorem lift_canR {K : Frag} {td : TDR} : LiftR K (canR K td) td := fun H0 w σ H env st Q Q' sl so q k => ⟨H0, w, env, st, Q, sl, so, q, k⟩
/-- [elt for .. in ..], the items trees of one's own -/
def dCompO (gd : TDG) (tt : TDT) (te : TDR) (vs : List Nat) : List D → List D → DEnv → Store → (List D → Store → Prop) → Prop
  | [], acc, _, st, Q => Q acc st
  | d :: r, acc, env, st, Q => gd d (wipeE env vs) st fun env1 st1 => tt env1 st1 fun b st2 => if b = true then te env1 st2 fun ev st3 => ev.tree = true ∧ acc.length < sizeLine ∧ dCompO gd tt te vs r (acc ++ [ev.d]) env st3 Q else dCompO gd tt te vs r acc env st2 Q
def dLcO (ti : TDI) (gd : TDG) (tt : TDT) (te : TDR) (vs : List Nat) : TDR := fun env st Q => ti env st fun ds st1 => dCompO gd tt te vs ds [] env st1 fun ys st2 => Q (.deep (.lst ys)) st2
theorem wipe_wipe {σ : L2.St} (vs : List Nat) : wipe (wipe σ vs) vs = wipe σ vs := by
  have : ∀ (us vs : List Nat), (∀ u ∈ us, u ∈ vs) → wipe (wipe σ vs) us = wipe σ vs := fun us vs => by
    induction us with
    | nil => intro _; rfl
    | cons u us ih =>
      intro h
      show (wipe (wipe σ vs) us).set u none = wipe σ vs
      rw [ih fun z hz => h z (List.mem_cons_of_mem _ hz)]
      apply List.ext_getElem?
      intro j
      by_cases e : u = j
      · subst e
        by_cases hu : u < (wipe σ vs).length
        · rw [List.getElem?_set_self hu]
          cases q : (wipe σ vs)[u]? with
          | none => rw [List.getElem?_eq_none_iff] at q; omega
          | some o =>
            cases o with
            | none => rfl
            | some x => exact absurd (h u List.mem_cons_self) (wipe_some q).2
        · rw [List.getElem?_eq_none (by simpa using hu), List.getElem?_eq_none (by simpa using hu)]
      · rw [List.getElem?_set_ne e]
  exact this vs vs fun _ h => h
theorem lift_lcO {K : Frag} {wi : TI} {g : TG} {tt : TT} {te : TE} {ti : TDI} {gd : TDG} {ttd : TDT} {ted : TDR} {vs : List Nat} (li : LiftI K wi ti) (lg : LiftC K g gd vs) (lt : LiftT K tt ttd) (le : LiftR K te ted) : LiftR K (tLc wi g tt te vs) (dLcO ti gd ttd ted vs) := by
  intro H0 w σ H env st Q Q' sl so q k
  refine li H0 w σ H env st _ _ sl so q fun w1 H1 st1 ds J x1 s1 fd q1 => ?_
  intro D hD
  have hD0 : H D = none := x1.tr D hD
  obtain ⟨x2, s2⟩ := ext_laid (o := .lst []) s1 hD
  refine ⟨fun i m Hh => m = ds.length - i ∧ i ≤ ds.length ∧ ∃ w' acc us st' La, Le w1 w' ∧ Ext w H w' Hh ∧ Sto w' Hh st' ∧ Hh D = some (.lst us) ∧ w'.Z D = none ∧ D ∉ w'.cl ∧ OwnTs K w' Hh acc us La ∧ LOk w' H Hh La ∧ D ∉ La ∧ dCompO gd ttd ted vs (ds.drop i) acc env st' fun ys st2 => Q (.deep (.lst ys)) st2,
    ⟨ds.length, by simp, Nat.zero_le _, w1, [], [], st1, [], Le.refl _, x1.trans x2, s2, upd_same, s1.zfree hD, s1.notcell hD, ⟨rfl, rfl⟩, fun p hp => by simp at hp, by simp, by simpa using q1⟩, ?_⟩
  rintro i m Hh ⟨rfl, hi, w', acc, us, st', La, l, x, s, hDh, hz, hn, oa, loa, hDa, q⟩
  obtain ⟨f1, f2⟩ := fd w' Hh st' l s
  by_cases hlt : i < ds.length
  · obtain ⟨go, yl⟩ := f1 i ds[i] (List.getElem?_eq_getElem hlt)
    rw [List.drop_eq_getElem_cons hlt] at q
    refine .inr ⟨go, fun Hh => ∃ w' acc us st' La, Le w1 w' ∧ Ext w H w' Hh ∧ Sto w' Hh st' ∧ Hh D = some (.lst us) ∧ w'.Z D = none ∧ D ∉ w'.cl ∧ OwnTs K w' Hh acc us La ∧ LOk w' H Hh La ∧ D ∉ La ∧ dCompO gd ttd ted vs (ds.drop (i + 1)) acc env st' fun ys st2 => Q (.deep (.lst ys)) st2,
      fun H' p' => ⟨ds.length - (i + 1), by omega, rfl, hlt, p'⟩, fun v H' y => ?_⟩
    obtain ⟨w2, x2, s2, r2⟩ := yl v H' y
    refine lg H0 w2 (wipe σ vs) H' (wipeE env vs) st' _ v _ _ (slots_wipe (sl.ext (x.trans x2)) vs) s2 r2 q fun σ3 env3 st3 sl3 s3 hw q3 => ?_
    refine ⟨hw.trans (wipe_wipe vs), lt H0 w2 σ3 H' env3 st3 _ _ sl3 s3 q3 fun w4 H4 b st4 x4 s4 q4 => ?_⟩
    have xx := x.trans (x2.trans x4)
    have hD4 : H4 D = some (.lst us) := (x2.trans x4).kp _ _ hDh hn
    have hz4 := (x2.trans x4).znone (some_ne hDh) hz
    have hn4 := (x2.trans x4).cln (some_ne hDh) hn
    have oa4 := OwnTs.ext (x2.trans x4) _ _ _ (fun p hp => (loa p hp).2.2.2) oa
    have loa4 := loa.ext (x2.trans x4)
    cases b with
    | false =>
      rw [if_neg Bool.false_ne_true] at q4 ⊢
      exact ⟨w4, acc, us, st4, La, l.trans (x2.trans x4).le, xx, s4, hD4, hz4, hn4, oa4, loa4, hDa, q4⟩
    | true =>
      rw [if_pos rfl] at q4 ⊢
      refine le H0 w4 σ3 H4 env3 st4 _ _ (sl3.ext x4) s4 q4 fun w5 H5 y ev st5 x5 s5 r5 q5 => ?_
      obtain ⟨L1, o1, lo1⟩ := r5.ok
      have hD5 : H5 D = some (.lst us) := x5.kp _ _ hD4 hn4
      have hz5 := x5.znone (some_ne hD4) hz4
      have hn5 := x5.cln (some_ne hD4) hn4
      have oa5 := OwnTs.ext x5 _ _ _ (fun p hp => (loa4 p hp).2.2.2) oa4
      have loa5 := loa4.ext x5
      have hDL : D ∉ L1 := fun z => some_ne hD4 (lo1 D z).1
      have dj : ∀ p ∈ La, p ∉ L1 := fun p hp hq => (loa4 p hp).2.1 (lo1 p hq).1
      have lo1' : LOk w5 H H5 L1 := fun p hp => let ⟨a, b⟩ := lo1 p hp; ⟨xx.tr p a, b⟩
      have both := OwnTs.append oa5 (OwnTs.one (o1.own_t q5.1)) dj
      have bothL : LOk w5 H H5 (La ++ L1) := loa5.append lo1'
      have hDb : D ∉ La ++ L1 := fun z => by
        rcases List.mem_append.mp z with z | z
        · exact hDa z
        · exact hDL z
      have hne : ∀ p ∈ La ++ L1, upd H5 D (.lst (us ++ [y])) p = H5 p := fun p hp => upd_ne (fun z => hDb (z ▸ hp))
      refine ⟨us, hD5, by rw [← oa5.length]; exact q5.2.1, w5, acc ++ [ev.d], us ++ [y], st5, La ++ L1, l.trans (x2.trans (x4.trans x5)).le, ext_mut (xx.trans x5) hD0, sto_mut s5 hz5 hn5, upd_same, hz5, hn5, ?_, fun p hp => ?_, hDb, q5.2.2⟩
      · exact OwnTs.at_ (w' := w5) (Same.refl _) (Pre.refl _) _ _ _ hne both
      · obtain ⟨a, b, c⟩ := bothL p hp
        exact ⟨a, by rw [hne p hp]; exact b, c⟩
  · have e : i = ds.length := by omega
    subst e
    rw [List.drop_length] at q
    refine .inl ⟨f2, k w' Hh (.ref D) (.deep (.lst acc)) st' x s ⟨D :: La, ⟨D, us, La, rfl, rfl, hDa, hDh, oa⟩, fun p hp => ?_⟩ q⟩
    rcases List.mem_cons.mp hp with h | h
    · rw [h]; exact ⟨hD0, some_ne hDh, hz, hn⟩
    · exact loa p h
section
variable {elt : Expr} {scope : Scope} {own : List (Str × Nat)} {ted : TDR} {ttd : TDT} {x : Str} {i : Nat} {px : Pos} {ti : TDI}
/-- [elt for x in iter], the items one's own -/
theorem r_lcO (own : List (Str × Nat)) (hN : X.N.Nodup) (hi : DI X (.Name x px) e ti) (hg : ∀ s H C cl fp, PG (Blk X scope s H C cl fp) (.Name x px) (gName i)) (he : ∀ s H C cl fp, RE (Blk X scope s H C cl fp) elt ted) (ok : BlkOk X.N X.env.scope scope own) (hm : i ∈ own.map (·.2)) (hc : X.calm = true := by rfl) (hs : ∀ x, foldedSetIterable e X.env x = pure x := by intro _; rfl) :
    RE X (.ListComp elt [⟨.Name x px, e, [], 0⟩] scope pos) (dLcO ti (gdName i) dYes ted (own.map (·.2))) := by
  obtain ⟨wi, p, l⟩ := hi.ex
  exact ⟨_, pe_lc hc hN p ok hg (fun _ _ _ _ _ => pts_nil) (fun s H C cl fp => (he s H C cl fp).can) hs, lift_lcO l (liftc_name hm) lift_yes lift_canR⟩
theorem s_setLcTO (j : Nat) {es : List Expr} {kt n : Nat} {is : List Nat} {y : Str} {py spos : Pos} (own : List (Str × Nat)) (hN : X.N.Nodup) (hi : DI X (.Tuple es kt px) e ti) (hg : ∀ s H C cl fp, PG (Blk X scope s H C cl fp) (.Tuple es kt px) (gTup X.K n (gNames is))) (he : ∀ s H C cl fp, RE (Blk X scope s H C cl fp) elt ted) (ok : BlkOk X.N X.env.scope scope own) (hm : ∀ i ∈ is, i ∈ own.map (·.2))
    (hy : X.N[j]? = some y := by rfl) (hyl : X.env.scope.names.lookup y = some .local := by rfl) (hk : X.env.scope.kind = .function := by rfl) (hl : (py.line == pos.line) = true := by rfl) (ha : (scope.names.any fun (n, k) => n == y && (k == .local || k == .cell)) = false := by decide +kernel)
    (hc : X.calm = true := by rfl) (hs : ∀ x, foldedSetIterable e X.env x = pure x := by intro _; rfl) : DS X (.Assign [.Name y py] (.ListComp elt [⟨.Tuple es kt px, e, [], 0⟩] scope pos) spos) (sSet j (dLcO ti (gdTup n (gdNames is)) dYes ted (own.map (·.2)))) := by
  obtain ⟨wi, p, l⟩ := hi.ex
  exact ⟨_, ps_setLc hc hN hy hyl (sw_true hk hyl hl ha) p ok hg (fun _ _ _ _ _ => pts_nil) (fun s H C cl fp => (he s H C cl fp).can) hs, lifts_set j (lift_lcO l (liftc_tup hm) lift_yes lift_canR)⟩
end
end
end DL

set_option Elab.async false
set_option linter.all false
set_option maxRecDepth 100000
set_option maxHeartbeats 4000000
/-! DL24: return [(a, b) for a, b in x if ..], x a tree of one's own: what is kept goes over into the new list. -/
namespace DL
open PySem PySem.Spec L2
section
variable {K : Frag} {w : Wd} {H : Hp}
mutual
theorem OwnT.flat_rep : ∀ {d : D} {v : V} {L : List Addr}, d.flat = true → OwnT K w H d v L → L = [] ∧ Rep K w.cl w.Z d v
  | .lst ds, v, L, f, r => by simp [D.flat] at f
  | .tup ds, v, L, f, r => by
    obtain ⟨a, vs, rfl, h1, h2⟩ := (show ∃ a vs, v = .ref a ∧ SqT K w.Z a vs ∧ OwnTs K w H ds vs L from r)
    obtain ⟨e, h3⟩ := OwnTs.flat_reps (by simpa [D.flat] using f) h2
    exact ⟨e, a, vs, rfl, h1, h3⟩
  | .non, v, L, f, r => ⟨r.1, r.2.2⟩
  | .bl _, v, L, f, r => ⟨r.1, r.2.2⟩
  | .int _, v, L, f, r => ⟨r.1, r.2.2⟩
  | .str _, v, L, f, r => ⟨r.1, r.2.2⟩
  | .ty _, v, L, f, r => ⟨r.1, r.2.2⟩
  | .ref _, v, L, f, r => ⟨r.1, r.2.2⟩
  | .top, v, L, f, r => ⟨r.1, r.2.2⟩
  | .cel _, v, L, f, r => ⟨r.1, r.2.2⟩
  | .scr _, v, L, f, r => ⟨r.1, r.2.2⟩
  | .dK _ _, v, L, f, r => by simp [D.flat] at f
  | .dT _ _, v, L, f, r => ⟨r.1, r.2.2⟩
theorem OwnTs.flat_reps : ∀ {ds : List D} {vs : List V} {L : List Addr}, D.flats ds = true → OwnTs K w H ds vs L → L = [] ∧ Reps K w.cl w.Z ds vs
  | [], vs, L, f, r => ⟨r.2, r.1⟩
  | d :: ds, vs, L, f, h => by
    obtain ⟨v, r, L1, L2, rfl, rfl, _, h2, h3⟩ := (show ∃ v r L1 L2, vs = v :: r ∧ L = L1 ++ L2 ∧ (∀ p ∈ L1, p ∉ L2) ∧ OwnT K w H d v L1 ∧ OwnTs K w H ds r L2 from h)
    simp [D.flats] at f
    obtain ⟨rfl, a⟩ := OwnT.flat_rep f.1 h2
    obtain ⟨rfl, b⟩ := OwnTs.flat_reps f.2 h3
    exact ⟨rfl, v, r, rfl, a, b⟩
end
end
theorem wipeE_none {env : DEnv} {j : Nat} : ∀ {vs : List Nat}, j ∈ vs → ∀ ev, (wipeE env vs)[j]? ≠ some (some ev)
  | v :: vs, h, ev, z => by
    have z : ((wipeE env vs).set v none)[j]? = some (some ev) := z
    by_cases e : v = j
    · subst e
      by_cases hi : v < (wipeE env vs).length
      · rw [List.getElem?_set_self hi] at z; cases z
      · rw [List.getElem?_eq_none (by simpa using hi)] at z; cases z
    · rw [List.getElem?_set_ne e] at z
      rcases List.mem_cons.mp h with h | h
      · exact e h.symm
      · exact wipeE_none h ev z
theorem wipe_len {σ : L2.St} : ∀ (vs : List Nat), (wipe σ vs).length = σ.length
  | [] => rfl
  | v :: vs => by
    show ((wipe σ vs).set v none).length = σ.length
    rw [List.length_set, wipe_len vs]
def dMove2 (i1 : Nat) (tt : TDT) (vs : List Nat) : List D → List D → DEnv → Store → (List D → Store → Prop) → Prop
  | [], acc, _, st, Q => Q acc st
  | d :: r, acc, env, st, Q => ∃ x y, d = .tup [x, y] ∧ x.flat = true ∧ tt ((wipeE env vs).set i1 (some (.dat x))) st fun b st2 => acc.length < sizeLine ∧ dMove2 i1 tt vs r (if b = true then acc ++ [.tup [x, y]] else acc) env st2 Q
def sRetMove2 (i i1 i2 : Nat) (tt : TDT) (vs : List Nat) : TDS := fun D env st => (i1 < env.length ∧ i2 < env.length) ∧ match env[i]? with
  | some (some (.deep (.lst ds))) => dMove2 i1 tt vs ds [] (env.set i none) st fun ys st2 => D.rt (.deep (.lst ys)) st2
  | _ => False
section
variable {X : Cx} {elt c : Expr} {scope : Scope} {own : List (Str × Nat)} {ttd : TDT} {px pz pos rpos : Pos}
theorem s_retMove2 (i i1 i2 : Nat) {z : Str} {tes : List Expr} {kt : Nat} (own : List (Str × Nat)) (hN : X.N.Nodup) (hne : i1 ≠ i2)
    (hg : ∀ s H C cl fp, PG (Blk X scope s H C cl fp) (.Tuple tes kt px) (gTup X.K 2 (gNames [i1, i2]))) (ht : ∀ s H C cl fp, DT (Blk X scope s H C cl fp) c ttd)
    (he : ∀ s H C cl fp, PE (Blk X scope s H C cl fp) elt (tTup (tCons (tVar i1) (tCons (tVar i2) tNil)))) (ok : BlkOk X.N X.env.scope scope own) (hm1 : i1 ∈ own.map (·.2)) (hm2 : i2 ∈ own.map (·.2))
    (hN2 : X.N[i]? = some z := by rfl) (hv2 : Vis X.env.scope z := by first | exact Or.inl rfl | exact Or.inr (Or.inl rfl) | exact Or.inr (Or.inr rfl)) (hd2 : (z == ("__debug__" : Str)) = false := by decide)
    (hcd2 : (z == ("__classdict__" : Str)) = false := by decide) (hc : X.calm = true := by rfl) (hs : ∀ x, foldedSetIterable (.Name z pz) X.env x = pure x := by intro _; rfl) :
    DS X (.Return (some (.ListComp elt [⟨.Tuple tes kt px, .Name z pz, [c], 0⟩] scope pos)) rpos) (sRetMove2 i i1 i2 ttd (own.map (·.2))) := by
  refine ⟨_, ps_ret (pe_lc (tt := canT X.K ttd) hc hN (pi_seq (pe_var hN2 hv2 hd2 hcd2)) ok hg (fun s H C cl fp => pts_one (ht s H C cl fp).can) he hs), fun w0 H0 w σ H env st D D' r q k => ?_⟩
  obtain ⟨⟨hl1, hl2⟩, q⟩ := q
  split at q
  case h_2 => exact q.elim
  rename_i ds hev
  obtain ⟨Ls, S⟩ := r.sl.norm
  obtain ⟨v, hv, hok, hl⟩ := S.ok i _ hev
  obtain ⟨p, vs, L', rfl, eL, hpL, hH, ho⟩ := (show ∃ p vs L', v = .ref p ∧ Ls i = p :: L' ∧ p ∉ L' ∧ H p = some (.lst vs) ∧ OwnTs X.K w H ds vs L' from hok)
  rw [eL] at hl
  have lp := hl p List.mem_cons_self
  have lo : LOk w H0 H L' := fun p hp => hl p (List.mem_cons_of_mem _ hp)
  have S2 := (S.drop i).slots
  have hlen := ho.length
  refine ⟨.ref p, hv, p, rfl, .inl ⟨⟨vs, .of hH⟩, ?_⟩⟩
  intro N hD
  have hD0 : H0 N = none := r.x.tr N hD
  obtain ⟨x2, s2⟩ := ext_laid (o := .lst []) r.s hD
  have hDL : N ∉ L' := fun z => (lo N z).2.1 hD
  refine ⟨fun j m Hh => m = ds.length - j ∧ j ≤ ds.length ∧ ∃ w' acc us st' La Lr, Le w w' ∧ Ext w H w' Hh ∧ Sto w' Hh st' ∧ Hh N = some (.lst us) ∧ w'.Z N = none ∧ N ∉ w'.cl ∧ OwnTs X.K w' Hh acc us La ∧ OwnTs X.K w' Hh (ds.drop j) (vs.drop j) Lr ∧ LOk w' H0 Hh La ∧ LOk w' H0 Hh Lr ∧ (∀ q ∈ La, q ∉ Lr) ∧ N ∉ La ∧ N ∉ Lr ∧ dMove2 i1 ttd (own.map (·.2)) (ds.drop j) acc (env.set i none) st' fun ys st2 => D'.rt (.deep (.lst ys)) st2,
    ⟨ds.length, by simp, Nat.zero_le _, w, [], [], st, [], L', Le.refl _, x2, s2, upd_same, r.s.zfree hD, r.s.notcell hD, ⟨rfl, rfl⟩, OwnTs.ext x2 _ _ _ (fun p hp => (lo p hp).2.2.2) (by simpa using ho), fun p hp => by simp at hp, lo.ext x2, fun p hp => by simp at hp, by simp, hDL, by simpa using q⟩, ?_⟩
  rintro j m Hh ⟨rfl, hj, w', acc, us, st', La, Lr, l, x, s, hDh, hz, hn, oa, orr, loa, lor, dj, hDa, hDr, q⟩
  have hp : Hh p = some (.lst vs) := x.kp _ _ hH lp.2.2.2
  have sq : SqL X.K Hh p vs := .of hp
  by_cases hlt : j < ds.length
  · have hltv : j < vs.length := by omega
    rw [List.drop_eq_getElem_cons hlt] at q
    rw [List.drop_eq_getElem_cons hlt, List.drop_eq_getElem_cons hltv] at orr
    obtain ⟨v1, r1, L1, L2, e1, rfl, g1, g2, g3⟩ := orr
    cases e1
    refine .inr ⟨walk_list.goes j Hh hltv sq, fun Hh => ∃ w' acc us st' La Lr, Le w w' ∧ Ext w H w' Hh ∧ Sto w' Hh st' ∧ Hh N = some (.lst us) ∧ w'.Z N = none ∧ N ∉ w'.cl ∧ OwnTs X.K w' Hh acc us La ∧ OwnTs X.K w' Hh (ds.drop (j + 1)) (vs.drop (j + 1)) Lr ∧ LOk w' H0 Hh La ∧ LOk w' H0 Hh Lr ∧ (∀ q ∈ La, q ∉ Lr) ∧ N ∉ La ∧ N ∉ Lr ∧ dMove2 i1 ttd (own.map (·.2)) (ds.drop (j + 1)) acc (env.set i none) st' fun ys st2 => D'.rt (.deep (.lst ys)) st2,
      fun H' p' => ⟨ds.length - (j + 1), by omega, rfl, hlt, p'⟩, fun v2 H' y => ?_⟩
    obtain ⟨e2, e3⟩ := walk_list.yields j Hh v2 H' hltv sq y
    subst e2
    obtain rfl : vs[j] = v2 := Option.some.inj ((List.getElem?_eq_getElem hltv).symm.trans e3)
    generalize ds[j] = d at q g2
    generalize vs[j] = v2 at g2
    obtain ⟨x1, y1, rfl, fx, q⟩ := q
    obtain ⟨a, us', rfl, ha, ho2⟩ := (show ∃ a us', v2 = .ref a ∧ SqT X.K w'.Z a us' ∧ OwnTs X.K w' H' [x1, y1] us' L1 from g2)
    have ho2' := ho2
    obtain ⟨u1, r1, Lx, Ly, rfl, e5, g4, g5, g6⟩ := ho2
    obtain ⟨u2, r2, Ly2, Le2, rfl, e6, g7, g8, g9⟩ := g6
    obtain ⟨rfl, rfl⟩ := (show r2 = [] ∧ Le2 = [] from g9)
    obtain ⟨rfl, rx⟩ := g5.flat_rep fx
    refine ⟨a, [u1, u2], rfl, Same.seqT s.sub ha, rfl, u1, [u2], rfl, u2, [], rfl, rfl, ?_⟩
    have sl1 := slots_dat (slots_wipe (S2.ext x) (own.map (·.2))) i1 rx
    obtain ⟨Ls3, S3⟩ := sl1.norm
    have sl3 := (S3.free (j := i2) (fun ev z => by
      rw [List.getElem?_set_ne hne] at z
      exact wipeE_none hm2 ev z) (some u2)).slots
    refine ⟨?_, lift_canT H0 w' _ H' _ st' _ _ sl3 s q fun w4 H4 b st4 x4 s4 q4 => ?_⟩
    · rw [wipe_set hm2, wipe_set hm1]; exact wipe_wipe _
    have hD4 : H4 N = some (.lst us) := x4.kp _ _ hDh hn
    have hz4 := x4.znone (some_ne hDh) hz
    have hn4 := x4.cln (some_ne hDh) hn
    have oa4 := OwnTs.ext x4 _ _ _ (fun p hp => (loa p hp).2.2.2) oa
    have lor1 : LOk w' H0 H' L1 := fun p hp => lor p (List.mem_append_left _ hp)
    have lor2 : LOk w' H0 H' L2 := fun p hp => lor p (List.mem_append_right _ hp)
    have o34 := OwnTs.ext x4 _ _ _ (fun p hp => (lor2 p hp).2.2.2) g3
    have hDr2 : N ∉ L2 := fun z => hDr (List.mem_append_right _ z)
    cases b with
    | false =>
      rw [if_neg Bool.false_ne_true] at q4 ⊢
      exact ⟨w4, acc, us, st4, La, L2, l.trans x4.le, x.trans x4, s4, hD4, hz4, hn4, oa4, o34, loa.ext x4, lor2.ext x4, fun p hp hq => dj p hp (List.mem_append_right _ hq), hDa, hDr2, q4.2⟩
    | true =>
      rw [if_pos rfl] at q4 ⊢
      have hlσ : ∀ i, i < env.length → i < (wipe σ (own.map (·.2))).length := fun i hi => by rw [wipe_len, ← r.sl.len]; exact hi
      refine ⟨u1, by rw [List.getElem?_set_ne (Ne.symm hne), List.getElem?_set_self (hlσ i1 hl1)], u2, by rw [List.getElem?_set_self (by rw [List.length_set]; exact hlσ i2 hl2)], (show 2 ≤ sizeLine by decide), fun t ht => ?_⟩
      obtain ⟨x5, s5⟩ := ext_frozen (o := .tup [u1, u2]) s4 ht
      have hD5 := x5.kp _ _ hD4 hn4
      have hz5 := x5.znone (some_ne hD4) hz4
      have hn5 := x5.cln (some_ne hD4) hn4
      have lo5 := (loa.ext x4).ext x5
      have lo15 := (lor1.ext x4).ext x5
      have lo25 := (lor2.ext x4).ext x5
      have oa5 := OwnTs.ext x5 _ _ _ (fun p hp => ((loa.ext x4) p hp).2.2.2) oa4
      have o35 := OwnTs.ext x5 _ _ _ (fun p hp => ((lor2.ext x4) p hp).2.2.2) o34
      have ot5 := OwnTs.ext x5 _ _ _ (fun p hp => ((lor1.ext x4) p hp).2.2.2) (OwnTs.ext x4 _ _ _ (fun p hp => (lor1 p hp).2.2.2) ho2')
      have one := OwnTs.one (d := .tup [x1, y1]) (v := .ref t) ⟨t, [u1, u2], rfl, .inl (.inl upd_same), ot5⟩
      have both := OwnTs.append oa5 one fun p hp hq => dj p hp (List.mem_append_left _ hq)
      have hDb : N ∉ La ++ L1 := fun z => by
        rcases List.mem_append.mp z with z | z
        · exact hDa z
        · exact hDr (List.mem_append_left _ z)
      have hne1 : ∀ p ∈ La ++ L1, upd (upd H4 t (.tup [u1, u2])) N (.lst (us ++ [.ref t])) p = upd H4 t (.tup [u1, u2]) p := fun p hp => upd_ne (fun z => hDb (z ▸ hp))
      have hne2 : ∀ p ∈ L2, upd (upd H4 t (.tup [u1, u2])) N (.lst (us ++ [.ref t])) p = upd H4 t (.tup [u1, u2]) p := fun p hp => upd_ne (fun z => hDr2 (z ▸ hp))
      refine ⟨us, hD5, by rw [← oa.length]; exact q4.1, _, acc ++ [.tup [x1, y1]], us ++ [.ref t], st4, La ++ L1, L2, l.trans (x4.trans x5).le, ext_mut (x.trans (x4.trans x5)) hD, sto_mut s5 hz5 hn5, upd_same, hz5, hn5, ?_, ?_, fun p hp => ?_, fun p hp => ?_, fun p hp hq => ?_, hDb, hDr2, q4.2⟩
      · exact OwnTs.at_ (Same.refl _) (Pre.refl _) _ _ _ hne1 both
      · exact OwnTs.at_ (Same.refl _) (Pre.refl _) _ _ _ hne2 o35
      · obtain ⟨a1, b1, c1⟩ := (lo5.append lo15) p hp
        exact ⟨a1, by rw [hne1 p hp]; exact b1, c1⟩
      · obtain ⟨a1, b1, c1⟩ := lo25 p hp
        exact ⟨a1, by rw [hne2 p hp]; exact b1, c1⟩
      · rcases List.mem_append.mp hp with hp | hp
        · exact dj p hp (List.mem_append_right _ hq)
        · exact g1 p hp hq
  · have e : j = ds.length := by omega
    subst e
    rw [List.drop_length] at q
    refine .inl ⟨by rw [hlen]; exact walk_list.stops Hh sq, k.rt w' Hh (.ref N) (.deep (.lst acc)) st' (r.x.trans x) s ⟨N :: La, ⟨N, us, La, rfl, rfl, hDa, hDh, oa⟩, fun p hp => ?_⟩ q⟩
    rcases List.mem_cons.mp hp with h | h
    · rw [h]; exact ⟨hD0, some_ne hDh, hz, hn⟩
    · exact loa p h
end
theorem dCompO_mapOf {α : Type} {gd : TDG} {te : TDR} {vs : List Nat} {env : DEnv} {st : Store} {Q : List D → Store → Prop} (g h : α → D) : ∀ (xs : List α) (acc : List D), (∀ x ∈ xs, ∀ Q1 : D → Store → Prop, Q1 (h x) st → gd (g x) (wipeE env vs) st fun env1 st1 => te env1 st1 fun ev st3 => ev.tree = true ∧ Q1 ev.d st3) →
    acc.length + xs.length ≤ sizeLine → Q (acc ++ xs.map h) st → dCompO gd dYes te vs (xs.map g) acc env st Q
  | [], acc, hh, hl, q => by simpa [dCompO] using q
  | x :: xs, acc, hh, hl, q => by
    rw [List.length_cons] at hl
    refine hh x List.mem_cons_self (fun y st3 => acc.length < sizeLine ∧ dCompO gd dYes te vs (xs.map g) (acc ++ [y]) env st3 Q) ⟨by omega, ?_⟩
    exact dCompO_mapOf g h xs _ (fun d hd => hh d (List.mem_cons_of_mem _ hd)) (by simp; omega) (by simpa using q)
theorem dMove2_filterOf {α : Type} {i1 : Nat} {tt : TDT} {vs : List Nat} {env : DEnv} {st : Store} {Q : List D → Store → Prop} (ga gb : α → D) (p : α → Bool) : ∀ (xs : List α) (acc : List D), (∀ x ∈ xs, (ga x).flat = true ∧ ∀ Q1 : Bool → Store → Prop, Q1 (p x) st → tt ((wipeE env vs).set i1 (some (.dat (ga x)))) st Q1) →
    acc.length + xs.length ≤ sizeLine → Q (acc ++ (xs.filter p).map fun x => .tup [ga x, gb x]) st → dMove2 i1 tt vs (xs.map fun x => .tup [ga x, gb x]) acc env st Q
  | [], acc, hh, hl, q => by simpa [dMove2] using q
  | x :: xs, acc, hh, hl, q => by
    rw [List.length_cons] at hl
    obtain ⟨hf, ht⟩ := hh x List.mem_cons_self
    refine ⟨_, _, rfl, hf, ht _ ⟨by omega, ?_⟩⟩
    cases e : p x with
    | true =>
      rw [if_pos rfl]
      refine dMove2_filterOf ga gb p xs _ (fun d hd => hh d (List.mem_cons_of_mem _ hd)) (by simp; omega) ?_
      rw [List.filter_cons, if_pos e] at q
      simpa using q
    | false =>
      rw [if_neg Bool.false_ne_true]
      refine dMove2_filterOf ga gb p xs _ (fun d hd => hh d (List.mem_cons_of_mem _ hd)) (by omega) ?_
      rw [List.filter_cons, if_neg (by rw [e]; exact Bool.false_ne_true)] at q
      exact q
end DL

set_option Elab.async false
set_option linter.all false
set_option maxRecDepth 100000
set_option maxHeartbeats 4000000
/-! DL25: x = x + .. with own trees; [x for x in .. if ..] out of an own tree; f([..]) that spoils. -/
namespace DL
open PySem PySem.Spec L2
section
variable {X : Cx} {e c : Expr} {es : List Expr} {p pos : Pos} {tr : TDR} {k n : Nat} {f : Addr} {fd : FuncData} {ps : List Str} {x : Str}
theorem set_over {env : DEnv} : env.set env.length none = env := List.set_eq_of_length_le (Nat.le_refl _)
/-- f(e), e a tree of one's own: it is spoilt -/
def sSpoilE (n : Nat) (t : TDR) : TDS := fun D env st => t env st fun ev st1 => (ev.tree = true ∧ okS n ev.d = true) ∧ D.nx env st1
theorem s_spoilE (F : FnOk X.prog X.w X.K X.mg X.base CX0 k f fd ps (spW X.K n)) (T : TxF X.K X.mg x f fd ps) (hr : Room k X.A) (he : RE X e tr) (hg : Gl X x := by rfl) (hdb : (x == ("__debug__" : Str)) = false := by decide)
    (h1 : starEach [e] X.env = (false, eval e X.env) :: starEach [] X.env := by rfl) (hpl : (backTo pos (starEach [] X.env)).any (·.1) = false := by rfl)
    (hs : swapsWith (.Call (.Name x p) [e] [] pos) none pos.line X.env = pure false := by rfl) : DS X (.Expr (.Call (.Name x p) [e] [] pos) pos) (sSpoilE n tr) := by
  obtain ⟨t, pe, l⟩ := he.ex
  refine ⟨_, ps_expr (pe_call (E := fun _ _ _ => False) F hr hg T.g T.kp T.b .nil (pass0) (pa_cons pe pa_nil h1) hdb h1 hpl) hs, fun w0 H0 w σ H env st D D' r q k => ?_⟩
  refine l H0 w σ H env st _ _ r.sl r.s q fun w1 H1 v ev st1 x1 s1 r1 q1 => ?_
  obtain ⟨L, o1, lo1⟩ := r1.ok
  refine ⟨w1, ev.d, v, L, st1, rfl, q1.1.2, s1, o1.own_t q1.1.1, fun p hp => (lo1 p hp).2, fun w' H' x2 s2 => ?_⟩
  obtain ⟨Ls, S⟩ := (r.sl.ext x1).norm
  obtain ⟨Ls0, S0⟩ := r.sl.norm
  have live : ∀ j p, p ∈ Ls0 j → p ∉ L := fun j p hp hq => (S0.live hp).2.1 (lo1 p hq).1
  have cut := (S0.ext x1).cut (L := L) (i := env.length) (fun j _ p hp hq => live j p hq hp) x2
  rw [set_over] at cut
  exact k.nx w' σ H' env st1 (x1.le.trans x2.le) ⟨(r.x.trans x1).cut x2 fun p hp => r.x.tr p (lo1 p hp).1, s2, cut.slots⟩ q1.2
/-- x = x + e, x and e trees of one's own -/
def sCatO (i : Nat) (t : TDR) : TDS := fun D env st => match env[i]? with
  | some (some (.deep (.lst xs))) => t env st fun ev st1 => ∃ ys, ev.d = .lst ys ∧ ev.tree = true ∧ xs.length + ys.length ≤ sizeLine ∧ D.nx (env.set i (some (.deep (.lst (xs ++ ys))))) st1
  | _ => False
theorem s_catO (i : Nat) {y : Str} {py pt bpos : Pos} (hN : X.N.Nodup) (he : RE X e tr) (hi : X.N[i]? = some y := by rfl) (hx : Loc X.env.scope y := by first | exact Or.inl rfl | exact Or.inr rfl)
    (hv : Vis X.env.scope y := by first | exact Or.inl rfl | exact Or.inr (Or.inl rfl) | exact Or.inr (Or.inr rfl)) (hd : (y == ("__debug__" : Str)) = false := by decide) (hcd : (y == ("__classdict__" : Str)) = false := by decide)
    (hs : swapsWith (.BinOp (.Name y py) .Add e bpos) (some (.Name y pt)) pos.line X.env = pure false := by rfl)
    (hf : X.fn y = true ∨ X.env.scope.names.lookup y = some .local := by first | exact .inl rfl | exact .inr rfl | assumption) : DS X (.Assign [.Name y pt] (.BinOp (.Name y py) .Add e bpos) pos) (sCatO i tr) := by
  obtain ⟨t, pe, l⟩ := he.ex
  refine ⟨_, ps_set hN hi hx (pe_op op_cat (pe_var hi hv hd hcd) pe) hs hf, fun w0 H0 w σ H env st D D' r q k => ?_⟩
  unfold sCatO at q
  split at q
  case h_2 => exact q.elim
  rename_i xs hev
  obtain ⟨Ls, S⟩ := r.sl.norm
  obtain ⟨v, hv, hok, hl⟩ := S.ok i _ hev
  obtain ⟨p0, vs, L', rfl, eL, hpL, hH, ho⟩ := (show ∃ p vs L', v = .ref p ∧ Ls i = p :: L' ∧ p ∉ L' ∧ H p = some (.lst vs) ∧ OwnTs X.K w H xs vs L' from hok)
  rw [eL] at hl
  have lp := hl p0 List.mem_cons_self
  have lo : LOk w H0 H L' := fun p hp => hl p (List.mem_cons_of_mem _ hp)
  refine ⟨.ref p0, hv, l H0 w σ H env st _ _ r.sl r.s q fun w1 H1 v1 ev st1 x1 s1 r1 q1 => ?_⟩
  obtain ⟨ys, ed, et, hz, q1⟩ := q1
  obtain ⟨L1, o1, lo1⟩ := r1.ok
  have o1 := o1.own_t et
  rw [ed] at o1
  obtain ⟨p2, us, L2, rfl, rfl, hp2, hH2, ho2⟩ := (show ∃ p vs L', v1 = .ref p ∧ L1 = p :: L' ∧ p ∉ L' ∧ H1 p = some (.lst vs) ∧ OwnTs X.K w1 H1 ys vs L' from o1)
  have hp1 : H1 p0 = some (.lst vs) := x1.kp _ _ hH lp.2.2.2
  refine ⟨p0, p2, vs, us, rfl, rfl, hp1, hH2, by rw [← ho.length, ← ho2.length]; exact hz, fun N hN0 => ?_⟩
  obtain ⟨x2, s2⟩ := ext_laid (o := .lst (vs ++ us)) s1 hN0
  have lo2 : LOk w1 H H1 L2 := fun p hp => lo1 p (List.mem_cons_of_mem _ hp)
  have x12 := x1.trans x2
  have oa := OwnTs.ext x12 _ _ _ (fun p hp => (lo p hp).2.2.2) ho
  have ob := OwnTs.ext x2 _ _ _ (fun p hp => (lo2 p hp).2.2.2) ho2
  have dj : ∀ p ∈ L', p ∉ L2 := fun p hp hq => (lo p hp).2.1 (lo2 p hq).1
  have both := OwnTs.append oa ob dj
  have hNL : N ∉ L' ++ L2 := fun z => by
    rcases List.mem_append.mp z with z | z
    · exact (lo.ext x1 N z).2.1 hN0
    · exact (lo2 N z).2.1 hN0
  have S1 := (S.drop i).ext x12
  have hil : i < (env.set i none).length := by rw [List.length_set]; exact (List.getElem?_eq_some_iff.mp hev).1
  have lo2' : LOk w1 H0 H1 L2 := fun p hp => let ⟨a, b⟩ := lo2 p hp; ⟨r.x.tr p a, b⟩
  have S2 := S1.put i (L := N :: (L' ++ L2)) (v := .ref N) (ev := .deep (.lst (xs ++ ys))) ⟨N, _, _, rfl, rfl, hNL, upd_same, both⟩ (fun q hq => by
    rcases List.mem_cons.mp hq with h | h
    · rw [h]; exact ⟨r.x.tr N (x1.tr N hN0), by rw [upd_same]; exact fun z => (nomatch z), s1.zfree hN0, s1.notcell hN0⟩
    · rcases List.mem_append.mp h with h | h
      · exact lo.ext x12 q h
      · exact lo2'.ext x2 q h) hil (fun j hj q hq hm => by
    rw [if_neg hj] at hm
    have hlive := (S.live hm)
    rcases List.mem_cons.mp hq with h | h
    · rw [h] at hlive; exact hlive.2.1 (x1.tr N hN0)
    · rcases List.mem_append.mp h with h | h
      · exact S.dj i j q (Ne.symm hj) (by rw [eL]; exact List.mem_cons_of_mem _ h) hm
      · exact hlive.2.1 (lo2 q h).1)
  rw [List.set_set] at S2
  exact k.nx w1 _ _ _ st1 x12.le ⟨r.x.trans x12, s2, S2.slots⟩ q1
end
end DL
namespace DL
open PySem PySem.Spec L2
section
variable {X : Cx} {e c : Expr} {tr : TDR} {ttd : TDT}
/-- own trees, frozen for a while -/
theorem lift_lent {K : Frag} {t : TT} {td : TDT} (lt : LiftT K t td) {H0 H : Hp} {w : Wd} {σ : L2.St} {env : DEnv} {st : Store} {L : List Addr} {Q : Bool → Store → Prop} {Q' : Bool → Hp → Prop}
    (sl : Slots K H0 ⟨w.cl, plus w.Z L H⟩ σ H env) (so : Sto w H st) (hL : ∀ p ∈ L, w.Z p = none ∧ p ∉ w.cl) (q : td env st Q) (k : ∀ w' H' b st', Ext w H w' H' → Sto w' H' st' → Q b st' → Q' b H') : t σ H Q' := by
  refine lt H0 ⟨w.cl, plus w.Z L H⟩ σ H env st Q Q' sl (sto_plus so fun p hp => (hL p hp).2) q fun w' H' b st' x s q => ?_
  refine k ⟨w'.cl, minus w'.Z L⟩ H' b st' ⟨fun a u h => ?_, fun a h => ?_, x.kp, x.tr, x.cl⟩ ⟨fun a u h => ?_, fun a h => ?_, s.nd, s.ln, s.at_⟩ q
  · show minus w'.Z L a = some u
    have hne : a ∉ L := fun hm => by rw [(hL a hm).1] at h; cases h
    rw [minus_out hne]
    exact x.z a u (by show plus w.Z L H a = some u; rw [plus_out hne]; exact h)
  · by_cases e : a ∈ L
    · exact absurd (minus_in e) h
    · have h1 : w'.Z a ≠ none := by rw [show (Wd.mk w'.cl (minus w'.Z L)).Z a = minus w'.Z L a from rfl, minus_out e] at h; exact h
      rcases x.fr a h1 with z | z
      · rw [show (Wd.mk w.cl (plus w.Z L H)).Z a = plus w.Z L H a from rfl, plus_out e] at z; exact .inl z
      · exact .inr z
  · by_cases e : a ∈ L
    · rw [show (Wd.mk w'.cl (minus w'.Z L)).Z a = minus w'.Z L a from rfl, minus_in e] at h; cases h
    · rw [show (Wd.mk w'.cl (minus w'.Z L)).Z a = minus w'.Z L a from rfl, minus_out e] at h; exact s.sub a u h
  · show minus w'.Z L a = none
    by_cases e : a ∈ L
    · exact minus_in e
    · rw [minus_out e]; exact s.zc a h
/-- slots beside which L is frozen -/
theorem slots_lent {K : Frag} {H0 H : Hp} {w : Wd} {σ : L2.St} {env : DEnv} {L : List Addr} (sl : Slots K H0 w σ H env) (hL : ∀ p ∈ L, w.Z p = none) (hd : ∀ Ls, SlotsL K H0 w σ H env Ls → ∀ j, ∀ p ∈ L, p ∉ Ls j) : Slots K H0 ⟨w.cl, plus w.Z L H⟩ σ H env := by
  obtain ⟨Ls, S⟩ := sl.norm
  have sm : Same w.Z (plus w.Z L H) := plus_same hL
  refine ⟨S.len, Ls, fun i ev he => ?_, S.dj⟩
  obtain ⟨v, hv, hok, hl⟩ := S.ok i ev he
  refine ⟨v, hv, hok.at_ sm (Pre.refl _) fun p _ => rfl, fun p hp => ?_⟩
  obtain ⟨a, b, c, d⟩ := hl p hp
  refine ⟨a, b, ?_, d⟩
  show plus w.Z L H p = none
  rw [plus_out fun hm => hd Ls S i p hm hp]
  exact c
def dMove1 (i : Nat) (tt : TDT) (vs : List Nat) : List D → List D → DEnv → Store → (List D → Store → Prop) → Prop
  | [], acc, _, st, Q => Q acc st
  | d :: r, acc, env, st, Q => tt ((wipeE env vs).set i (some (.dat d))) st fun b st2 => acc.length < sizeLine ∧ dMove1 i tt vs r (if b = true then acc ++ [d] else acc) env st2 Q
/-- [x for x in e if ..], e a tree of one's own: what is kept goes over -/
def dLcMove (t : TDR) (i : Nat) (tt : TDT) (vs : List Nat) : TDR := fun env st Q => t env st fun ev st1 => ∃ ds, ev.d = .lst ds ∧ ev.tree = true ∧ dMove1 i tt vs ds [] env st1 fun ys st2 => Q (.deep (.lst ys)) st2
theorem r_lcMove {elt : Expr} {scope : Scope} {i : Nat} {x : Str} {px pos : Pos} (own : List (Str × Nat)) (hN : X.N.Nodup) (he0 : RE X e tr)
    (hg : ∀ s H C cl fp, PG (Blk X scope s H C cl fp) (.Name x px) (gName i)) (ht : ∀ s H C cl fp, DT (Blk X scope s H C cl fp) c ttd) (he : ∀ s H C cl fp, PE (Blk X scope s H C cl fp) elt (tVar i))
    (ok : BlkOk X.N X.env.scope scope own) (hm : i ∈ own.map (·.2)) (hc : X.calm = true := by rfl) (hs : ∀ x, foldedSetIterable e X.env x = pure x := by intro _; rfl) :
    RE X (.ListComp elt [⟨.Name x px, e, [c], 0⟩] scope pos) (fun env st Q => i < env.length ∧ dLcMove tr i ttd (own.map (·.2)) env st Q) := by
  obtain ⟨t, pe, l⟩ := he0.ex
  refine ⟨_, pe_lc (tt := canT X.K ttd) hc hN (pi_seq pe) ok hg (fun s H C cl fp => pts_one (ht s H C cl fp).can) he hs, fun H0 w σ H env st Q Q' sl so q k => ?_⟩
  obtain ⟨hil, q⟩ := q
  refine l H0 w σ H env st _ _ sl so q fun w1 H1 v ev st1 x1 s1 r1 q1 => ?_
  obtain ⟨ds, ed, et, q1⟩ := q1
  obtain ⟨L1, o1, lo1⟩ := r1.ok
  have o1 := o1.own_t et
  rw [ed] at o1
  obtain ⟨p, vs, L', rfl, rfl, hpL, hH, ho⟩ := (show ∃ p vs L', v = .ref p ∧ L1 = p :: L' ∧ p ∉ L' ∧ H1 p = some (.lst vs) ∧ OwnTs X.K w1 H1 ds vs L' from o1)
  have lp := lo1 p List.mem_cons_self
  have lo : LOk w1 H H1 L' := fun p hp => lo1 p (List.mem_cons_of_mem _ hp)
  have hlen := ho.length
  refine ⟨p, rfl, .inl ⟨⟨vs, .of hH⟩, ?_⟩⟩
  intro N hD
  have hD0 : H N = none := x1.tr N hD
  obtain ⟨x2, s2⟩ := ext_laid (o := .lst []) s1 hD
  have hDL : N ∉ L' := fun z => (lo N z).2.1 hD
  obtain ⟨Ls0, S0⟩ := sl.norm
  refine ⟨fun j m Hh => m = ds.length - j ∧ j ≤ ds.length ∧ ∃ w' acc us st' La Lr, Le w1 w' ∧ Ext w1 H1 w' Hh ∧ Sto w' Hh st' ∧ Hh N = some (.lst us) ∧ w'.Z N = none ∧ N ∉ w'.cl ∧ OwnTs X.K w' Hh acc us La ∧ OwnTs X.K w' Hh (ds.drop j) (vs.drop j) Lr ∧ LOk w' H Hh La ∧ LOk w' H Hh Lr ∧ (∀ q ∈ La, q ∉ Lr) ∧ N ∉ La ∧ N ∉ Lr ∧ dMove1 i ttd (own.map (·.2)) (ds.drop j) acc env st' fun ys st2 => Q (.deep (.lst ys)) st2,
    ⟨ds.length, by simp, Nat.zero_le _, w1, [], [], st1, [], L', Le.refl _, x2, s2, upd_same, s1.zfree hD, s1.notcell hD, ⟨rfl, rfl⟩, OwnTs.ext x2 _ _ _ (fun p hp => (lo p hp).2.2.2) (by simpa using ho), fun p hp => by simp at hp, lo.ext x2, fun p hp => by simp at hp, by simp, hDL, by simpa using q1⟩, ?_⟩
  rintro j m Hh ⟨rfl, hj, w', acc, us, st', La, Lr, le, x, s, hDh, hz, hn, oa, orr, loa, lor, dj, hDa, hDr, q⟩
  have hp : Hh p = some (.lst vs) := x.kp _ _ hH lp.2.2.2
  have sq : SqL X.K Hh p vs := .of hp
  by_cases hlt : j < ds.length
  · have hltv : j < vs.length := by omega
    rw [List.drop_eq_getElem_cons hlt] at q
    rw [List.drop_eq_getElem_cons hlt, List.drop_eq_getElem_cons hltv] at orr
    obtain ⟨v1, r1, L1, L2, e1, rfl, g1, g2, g3⟩ := orr
    cases e1
    refine .inr ⟨walk_list.goes j Hh hltv sq, fun Hh => ∃ w' acc us st' La Lr, Le w1 w' ∧ Ext w1 H1 w' Hh ∧ Sto w' Hh st' ∧ Hh N = some (.lst us) ∧ w'.Z N = none ∧ N ∉ w'.cl ∧ OwnTs X.K w' Hh acc us La ∧ OwnTs X.K w' Hh (ds.drop (j + 1)) (vs.drop (j + 1)) Lr ∧ LOk w' H Hh La ∧ LOk w' H Hh Lr ∧ (∀ q ∈ La, q ∉ Lr) ∧ N ∉ La ∧ N ∉ Lr ∧ dMove1 i ttd (own.map (·.2)) (ds.drop (j + 1)) acc env st' fun ys st2 => Q (.deep (.lst ys)) st2,
      fun H' p' => ⟨ds.length - (j + 1), by omega, rfl, hlt, p'⟩, fun v2 H' y => ?_⟩
    obtain ⟨e2, e3⟩ := walk_list.yields j Hh v2 H' hltv sq y
    subst e2
    obtain rfl : vs[j] = v2 := Option.some.inj ((List.getElem?_eq_getElem hltv).symm.trans e3)
    generalize ds[j] = d at q g2
    generalize vs[j] = v2 at g2
    have lor1 : LOk w' H H' L1 := fun p hp => lor p (List.mem_append_left _ hp)
    have lor2 : LOk w' H H' L2 := fun p hp => lor p (List.mem_append_right _ hp)
    have hz1 : ∀ p ∈ L1, w'.Z p = none := fun p hp => (lor1 p hp).2.2.1
    have sl1 : Slots X.K H0 w' (wipe σ (own.map (·.2))) H' (wipeE env (own.map (·.2))) := slots_wipe (sl.ext (x1.trans x)) _
    have rep : Rep X.K w'.cl (plus w'.Z L1 H') d v2 := OwnT.rep (plus_same hz1) d v2 L1 (fun p hp => plus_in hp) g2
    have slp : Slots X.K H0 ⟨w'.cl, plus w'.Z L1 H'⟩ (wipe σ (own.map (·.2))) H' (wipeE env (own.map (·.2))) := by
      refine ⟨sl1.len, Ls0, fun l ev he => ?_, S0.dj⟩
      have he' : env[l]? = some (some ev) ∧ l ∉ own.map (·.2) := by
        by_cases hl : l ∈ own.map (·.2)
        · exact absurd he (wipeE_none hl ev)
        · refine ⟨?_, hl⟩
          have : ∀ vs : List Nat, l ∉ vs → (wipeE env vs)[l]? = env[l]? := fun vs => by
            induction vs with
            | nil => intro _; rfl
            | cons u us ih =>
              intro h
              show ((wipeE env us).set u none)[l]? = env[l]?
              rw [List.getElem?_set_ne (show u ≠ l from fun z => h (List.mem_cons.mpr (.inl z.symm)))]
              exact ih fun z => h (List.mem_cons_of_mem _ z)
          rw [← this _ hl]; exact he
      obtain ⟨v3, hv3, hok3, hl3⟩ := S0.ok l ev he'.1
      have hw3 : (wipe σ (own.map (·.2)))[l]? = some (some v3) := by
        have : ∀ vs : List Nat, l ∉ vs → (wipe σ vs)[l]? = σ[l]? := fun vs => by
          induction vs with
          | nil => intro _; rfl
          | cons u us ih =>
            intro h
            show ((wipe σ us).set u none)[l]? = σ[l]?
            rw [List.getElem?_set_ne (show u ≠ l from fun z => h (List.mem_cons.mpr (.inl z.symm)))]
            exact ih fun z => h (List.mem_cons_of_mem _ z)
        rw [this _ he'.2]; exact hv3
      have lo3 := hl3.ext (x1.trans x)
      refine ⟨v3, hw3, (hok3.ext hl3 (x1.trans x)).at_ (plus_same hz1) (Pre.refl _) fun p _ => rfl, fun p hp => ?_⟩
      obtain ⟨a, b, c, d⟩ := lo3 p hp
      refine ⟨a, b, ?_, d⟩
      show plus w'.Z L1 H' p = none
      rw [plus_out fun hm => (S0.live hp).2.1 (lor1 p hm).1]
      exact c
    have sl3 := slots_dat slp i rep
    refine ⟨?_, lift_lent lift_canT sl3 s (fun p hp => (lor1 p hp).2.2) q fun w4 H4 b st4 x4 s4 q4 => ?_⟩
    · show wipe ((wipe σ (own.map (·.2))).set i (some v2)) (own.map (·.2)) = _
      rw [wipe_set hm]; exact wipe_wipe _
    have hD4 : H4 N = some (.lst us) := x4.kp _ _ hDh hn
    have hz4 := x4.znone (some_ne hDh) hz
    have hn4 := x4.cln (some_ne hDh) hn
    have oa4 := OwnTs.ext x4 _ _ _ (fun p hp => (loa p hp).2.2.2) oa
    have o34 := OwnTs.ext x4 _ _ _ (fun p hp => (lor2 p hp).2.2.2) g3
    have ot4 := OwnT.ext x4 _ _ _ (fun p hp => (lor1 p hp).2.2.2) g2
    have hDr2 : N ∉ L2 := fun z => hDr (List.mem_append_right _ z)
    cases b with
    | false =>
      rw [if_neg Bool.false_ne_true] at q4 ⊢
      exact ⟨w4, acc, us, st4, La, L2, le.trans x4.le, x.trans x4, s4, hD4, hz4, hn4, oa4, o34, loa.ext x4, lor2.ext x4, fun p hp hq => dj p hp (List.mem_append_right _ hq), hDa, hDr2, q4.2⟩
    | true =>
      rw [if_pos rfl] at q4 ⊢
      refine ⟨v2, by rw [List.getElem?_set_self (by rw [wipe_len, ← sl.len]; exact hil)], ?_⟩
      have both := OwnTs.append oa4 (OwnTs.one ot4) fun p hp hq => dj p hp (List.mem_append_left _ hq)
      have hDb : N ∉ La ++ L1 := fun z => by
        rcases List.mem_append.mp z with z | z
        · exact hDa z
        · exact hDr (List.mem_append_left _ z)
      have hne1 : ∀ p ∈ La ++ L1, upd H4 N (.lst (us ++ [v2])) p = H4 p := fun p hp => upd_ne (fun z => hDb (z ▸ hp))
      have hne2 : ∀ p ∈ L2, upd H4 N (.lst (us ++ [v2])) p = H4 p := fun p hp => upd_ne (fun z => hDr2 (z ▸ hp))
      refine ⟨us, hD4, by rw [← oa.length]; exact q4.1, w4, acc ++ [d], us ++ [v2], st4, La ++ L1, L2, le.trans x4.le, ext_mut (x.trans x4) hD, sto_mut s4 hz4 hn4, upd_same, hz4, hn4, ?_, ?_, fun p hp => ?_, fun p hp => ?_, fun p hp hq => ?_, hDb, hDr2, q4.2⟩
      · exact OwnTs.at_ (Same.refl _) (Pre.refl _) _ _ _ hne1 both
      · exact OwnTs.at_ (Same.refl _) (Pre.refl _) _ _ _ hne2 o34
      · obtain ⟨a1, b1, c1⟩ := ((loa.ext x4).append (lor1.ext x4)) p hp
        exact ⟨a1, by rw [hne1 p hp]; exact b1, c1⟩
      · obtain ⟨a1, b1, c1⟩ := (lor2.ext x4) p hp
        exact ⟨a1, by rw [hne2 p hp]; exact b1, c1⟩
      · rcases List.mem_append.mp hp with hp | hp
        · exact dj p hp (List.mem_append_right _ hq)
        · exact g1 p hp hq
  · have e : j = ds.length := by omega
    subst e
    rw [List.drop_length] at q
    refine .inl ⟨by rw [hlen]; exact walk_list.stops Hh sq, k w' Hh (.ref N) (.deep (.lst acc)) st' (x1.trans x) s ⟨N :: La, ⟨N, us, La, rfl, rfl, hDa, hDh, oa⟩, fun p hp => ?_⟩ q⟩
    rcases List.mem_cons.mp hp with h | h
    · rw [h]; exact ⟨hD0, some_ne hDh, hz, hn⟩
    · exact loa p h
end
end DL

set_option Elab.async false
set_option linter.all false
set_option maxRecDepth 100000
set_option maxHeartbeats 4000000
/-! DL26: not in; slices of tuples; a result by a test. -/
namespace DL
open PySem PySem.Spec L2
section
variable {X : Cx} {e a b c : Expr} {p pos : Pos} {ta tb : TD} {tr tr2 : TDR} {tt : TDT}
theorem d_notin (hu : X.A.units + 65 < cLine) (ha : DE X a ta) (hb : DE X b tb) (hm : behindInMarks .NotIn b = false := by first | exact nomark _ | rfl) : DE X (.Compare a [.NotIn] [b] pos) (dOp wNotInL ta tb) := d_cmp (op_notInD hu) opl_notin ha hb hm
theorem t_notin (hu : X.A.units + 65 < cLine) (ha : DE X a ta) (hb : DE X b tb) (hm : behindInMarks .NotIn b = false := by first | exact nomark _ | rfl) : DT X (.Compare a [.NotIn] [b] pos) (dTest (dOp wNotInL ta tb)) := t_cmp (op_notInD hu) opl_notin ha hb hm
def dSlT (te : TD) (tl th : TDO) : TD := fun env st Q => te env st fun d st1 => tl env st1 fun lo st2 => th env st2 fun hi st3 => match d with
  | .tup ds => Q (.tup (cutD ds lo hi)) st3
  | _ => False
theorem cut_whole {α : Type} {xs : List α} {lo hi : Option Int} (h : HT.sIx xs.length 0 lo = 0 ∧ HT.sIx xs.length xs.length hi = xs.length) : cutD xs lo hi = xs := by
  unfold cutD
  rw [h.1, h.2, List.drop_zero, Nat.sub_zero, List.take_length]
theorem d_slT {lo hi : Option Expr} {tl th : TDO} {p2 : Pos} (he : DE X e ta) (hl : DO X lo tl) (hu : DO X hi th) : DE X (.Subscript e (.Slice lo hi none p2) pos) (dSlT ta tl th) := by
  obtain ⟨t, p, l⟩ := he.ex
  obtain ⟨u, pl, ll⟩ := hl.ex
  obtain ⟨z, pu, lu⟩ := hu.ex
  refine ⟨_, pe_slice sl_tupA p pl pu, fun H0 w σ H env st Q Q' sl so q k => l H0 w σ H env st _ _ sl so q fun w1 H1 v d st1 e1 s1 r1 q1 => ?_⟩
  refine ll H0 w1 σ H1 env st1 _ _ (sl.ext e1) s1 q1 fun w2 H2 o1 st2 e2 s2 q2 => ?_
  refine lu H0 w2 σ H2 env st2 _ _ (sl.ext (e1.trans e2)) s2 q2 fun w3 H3 o2 st3 e3 s3 q3 => ?_
  split at q3
  · rename_i ds
    obtain ⟨a, vs, rfl, ha, r⟩ := (e2.trans e3).rep r1
    refine ⟨a, vs, rfl, Same.seqT s3.sub ha, fun hw => ?_, fun hw p hp => ?_⟩
    · refine k w3 H3 (.ref a) (.tup (cutD ds o1 o2)) st3 ((e1.trans e2).trans e3) s3 ?_ q3
      rw [cut_whole (by rw [r.length]; exact hw)]
      exact ⟨a, vs, rfl, ha, r⟩
    · obtain ⟨e4, s4⟩ := ext_frozen (o := .tup (cutV vs o1 o2)) s3 hp
      exact k _ _ _ (.tup (cutD ds o1 o2)) st3 (((e1.trans e2).trans e3).trans e4) s4 ⟨p, _, rfl, .inl (.inl upd_same), e4.reps (r.cut o1 o2)⟩ q3
  · exact q3.elim
theorem r_ifR (hc : DT X c tt) (ha : RE X a tr) (hb : RE X b tr2) : RE X (.IfExp c a b pos) (dIfR tt tr tr2) := by
  obtain ⟨t, p, l⟩ := hc.ex
  obtain ⟨u, p2, l2⟩ := ha.ex
  obtain ⟨z, p3, l3⟩ := hb.ex
  refine ⟨_, pe_ifExp p p2 p3, fun H0 w σ H env st Q Q' sl so q k => l H0 w σ H env st _ _ sl so q fun w1 H1 d st1 e1 s1 q1 => ?_⟩
  cases d with
  | true =>
    rw [if_pos rfl] at q1 ⊢
    exact l2 H0 w1 σ H1 env st1 _ _ (sl.ext e1) s1 q1 fun w2 H2 v d st2 e2 s2 r2 q2 => k w2 H2 v d st2 (e1.trans e2) s2 (r2.up e1) q2
  | false =>
    rw [if_neg Bool.false_ne_true] at q1 ⊢
    exact l3 H0 w1 σ H1 env st1 _ _ (sl.ext e1) s1 q1 fun w2 H2 v d st2 e2 s2 r2 q2 => k w2 H2 v d st2 (e1.trans e2) s2 (r2.up e1) q2
end
end DL

set_option Elab.async false
set_option linter.all false
set_option maxRecDepth 100000
set_option maxHeartbeats 4000000
/-! DL27: a frozen dict is locked while a statement runs. -/
namespace DL
open PySem PySem.Spec L2
/-- what stands at a becomes o -/
def tw (a : Addr) (o : HO) (Z : Hp) : Hp := fun b => if b = a then (match Z b with | none => none | some _ => some o) else Z b
section
variable {a : Addr} {o u : HO} {Z : Hp}
theorem tw_ne {b : Addr} (h : b ≠ a) : tw a o Z b = Z b := by unfold tw; rw [if_neg h]
theorem tw_at {x : HO} (h : Z a = some x) : tw a o Z a = some o := by unfold tw; rw [if_pos rfl, h]
theorem tw_none (b : Addr) : tw a o Z b = none ↔ Z b = none := by
  unfold tw
  by_cases h : b = a
  · rw [if_pos h]; cases Z b <;> simp
  · rw [if_neg h]
theorem tw_upd {x : HO} (h : Z a = some x) : tw a o Z = upd Z a o := funext fun b => by
  by_cases e : b = a
  · rw [e, tw_at h, upd_same]
  · rw [tw_ne e, upd_ne e]
theorem tw_back (h : ∀ x, Z a = some x → x = u) : tw a u (tw a o Z) = Z := funext fun b => by
  by_cases e : b = a
  · subst e
    cases q : Z b with
    | none => exact (tw_none b).mpr ((tw_none b).mpr q)
    | some x => rw [tw_at (tw_at q), h x q]
  · rw [tw_ne e, tw_ne e]
end
/-- o is the dict with kvs, locked or not -/
def isDk (kvs : List (Key × V)) (o : HO) : Prop := o = .dK kvs ∨ ∃ od, o = .frz od (.dK kvs)
theorem isDk.rd {kvs : List (Key × V)} {o : HO} (h : isDk kvs o) {Z : Hp} {a : Addr} (e : Z a = some o) : Rd Z a (.dK kvs) := by
  rcases h with rfl | ⟨od, rfl⟩
  · exact .inl e
  · exact .inr ⟨od, e⟩
theorem isDk.same {kvs kws : List (Key × V)} {o : HO} (h : isDk kvs o) {Z : Hp} {a : Addr} (e : Z a = some o) (r : Rd Z a (.dK kws)) : kws = kvs := by
  rcases h with rfl | ⟨od, rfl⟩ <;> rcases r with r | ⟨oe, r⟩ <;> (rw [e] at r; cases r; try rfl)
/-- alike but for locks -/
structure Alike (Z Z' : Hp) : Prop where
  d : ∀ b kvs, Rd Z b (.dK kvs) → Rd Z' b (.dK kvs)
  e : ∀ b o, Z b = some o → (∀ kvs, ¬ Rd Z b (.dK kvs)) → Z' b = some o
theorem alike_tw {Z : Hp} {a : Addr} {kvs : List (Key × V)} {o1 o2 : HO} (h : Z a = some o1) (h1 : isDk kvs o1) (h2 : isDk kvs o2) : Alike Z (tw a o2 Z) where
  d := fun b kws r => by
    by_cases e : b = a
    · subst e
      rw [h1.same h r]
      exact h2.rd (tw_at h)
    · rcases r with r | ⟨oe, r⟩
      · exact .inl (by rw [tw_ne e]; exact r)
      · exact .inr ⟨oe, by rw [tw_ne e]; exact r⟩
  e := fun b o q n => by
    by_cases e : b = a
    · subst e
      exact absurd (h1.rd h) (n kvs)
    · rw [tw_ne e]; exact q
section
variable {K : Frag} {cl : List Addr} {Z Z' : Hp}
theorem Alike.at_ (al : Alike Z Z') {b : Addr} {o : HO} (q : Z b = some o) (n : ∀ kvs od, o ≠ .dK kvs ∧ o ≠ .frz od (.dK kvs)) : Z' b = some o := al.e b o q fun kvs r => by
  rcases r with r | ⟨oe, r⟩
  · rw [q] at r; cases r; exact (n kvs default).1 rfl
  · rw [q] at r; cases r; exact (n kvs oe).2 rfl
theorem Alike.seqT (al : Alike Z Z') {a : Addr} {xs : List V} (h : SqT K Z a xs) : SqT K Z' a xs := by
  rcases h with (h | ⟨o, h⟩) | h
  · exact .inl (.inl (al.at_ h fun _ _ => ⟨fun z => (nomatch z), fun z => (nomatch z)⟩))
  · exact .inl (.inr ⟨o, al.at_ h fun _ _ => ⟨fun z => (nomatch z), fun z => (nomatch z)⟩⟩)
  · exact .inr h
theorem Alike.seqL (al : Alike Z Z') {a : Addr} {xs : List V} (h : SqL K Z a xs) : SqL K Z' a xs := by
  rcases h with (h | ⟨o, h⟩) | h
  · exact .inl (.inl (al.at_ h fun _ _ => ⟨fun z => (nomatch z), fun z => (nomatch z)⟩))
  · exact .inl (.inr ⟨o, al.at_ h fun _ _ => ⟨fun z => (nomatch z), fun z => (nomatch z)⟩⟩)
  · exact .inr h
mutual
theorem Rep.alike (al : Alike Z Z') : ∀ (d : D) (v : V), Rep K cl Z d v → Rep K cl Z' d v
  | .non, v, h => h
  | .bl _, v, h => h
  | .int _, v, h => h
  | .str _, v, h => h
  | .ty _, v, h => h
  | .ref _, v, h => h
  | .top, v, h => h
  | .cel n, v, h => h
  | .scr ns, v, h => by
    obtain ⟨a, e, s⟩ := (show ∃ a, v = .ref a ∧ SqL K Z a (ns.map V.int) from h)
    exact ⟨a, e, al.seqL s⟩
  | .lst ds, v, h => by
    obtain ⟨a, vs, e, s, r⟩ := (show ∃ a vs, v = .ref a ∧ Z a = some (.lst vs) ∧ Reps K cl Z ds vs from h)
    exact ⟨a, vs, e, al.at_ s fun _ _ => ⟨fun z => (nomatch z), fun z => (nomatch z)⟩, Reps.alike al ds vs r⟩
  | .tup ds, v, h => by
    obtain ⟨a, vs, e, s, r⟩ := (show ∃ a vs, v = .ref a ∧ SqT K Z a vs ∧ Reps K cl Z ds vs from h)
    exact ⟨a, vs, e, al.seqT s, Reps.alike al ds vs r⟩
  | .dK ks ds, v, h => by
    obtain ⟨a, vs, e, l, s, r⟩ := (show ∃ a vs, v = .ref a ∧ vs.length = ks.length ∧ Rd Z a (.dK (ks.zip vs)) ∧ Reps K cl Z ds vs from h)
    exact ⟨a, vs, e, l, al.d _ _ s, Reps.alike al ds vs r⟩
  | .dT ks ds, v, h => by
    obtain ⟨a, vs, e, l, s, r⟩ := (show ∃ a vs, v = .ref a ∧ vs.length = ks.length ∧ Z a = some (.dT (ks.zip vs)) ∧ Reps K cl Z ds vs from h)
    exact ⟨a, vs, e, l, al.at_ s fun _ _ => ⟨fun z => (nomatch z), fun z => (nomatch z)⟩, Reps.alike al ds vs r⟩
theorem Reps.alike (al : Alike Z Z') : ∀ (ds : List D) (vs : List V), Reps K cl Z ds vs → Reps K cl Z' ds vs
  | [], vs, h => h
  | d :: ds, vs, h => by
    obtain ⟨v, r, e, h1, h2⟩ := (show ∃ v r, vs = v :: r ∧ Rep K cl Z d v ∧ Reps K cl Z ds r from h)
    exact ⟨v, r, e, Rep.alike al d v h1, Reps.alike al ds r h2⟩
end
end
section
variable {K : Frag} {cl : List Addr} {Z Z' : Hp} {H H' : Hp}
mutual
theorem OwnT.alike (al : Alike Z Z') : ∀ (d : D) (v : V) (L : List Addr), (∀ p ∈ L, H' p = H p) → OwnT K ⟨cl, Z⟩ H d v L → OwnT K ⟨cl, Z'⟩ H' d v L
  | .lst ds, v, L, hl, h => by
    obtain ⟨p, vs, L', rfl, rfl, h1, h2, h3⟩ := (show ∃ p vs L', v = .ref p ∧ L = p :: L' ∧ p ∉ L' ∧ H p = some (.lst vs) ∧ OwnTs K ⟨cl, Z⟩ H ds vs L' from h)
    exact ⟨p, vs, L', rfl, rfl, h1, by rw [hl p List.mem_cons_self]; exact h2, OwnTs.alike al ds vs L' (fun q hq => hl q (List.mem_cons_of_mem _ hq)) h3⟩
  | .non, v, L, _, h => ⟨h.1, h.2.1, Rep.alike al _ _ h.2.2⟩
  | .bl _, v, L, _, h => ⟨h.1, h.2.1, Rep.alike al _ _ h.2.2⟩
  | .int _, v, L, _, h => ⟨h.1, h.2.1, Rep.alike al _ _ h.2.2⟩
  | .str _, v, L, _, h => ⟨h.1, h.2.1, Rep.alike al _ _ h.2.2⟩
  | .ty _, v, L, _, h => ⟨h.1, h.2.1, Rep.alike al _ _ h.2.2⟩
  | .ref _, v, L, _, h => ⟨h.1, h.2.1, Rep.alike al _ _ h.2.2⟩
  | .top, v, L, _, h => ⟨h.1, h.2.1, Rep.alike al _ _ h.2.2⟩
  | .cel _, v, L, _, h => ⟨h.1, h.2.1, Rep.alike al _ _ h.2.2⟩
  | .scr _, v, L, _, h => ⟨h.1, h.2.1, Rep.alike al _ _ h.2.2⟩
  | .tup ds, v, L, hl, h => by
    obtain ⟨a, vs, rfl, h1, h2⟩ := (show ∃ a vs, v = .ref a ∧ SqT K Z a vs ∧ OwnTs K ⟨cl, Z⟩ H ds vs L from h)
    exact ⟨a, vs, rfl, al.seqT h1, OwnTs.alike al ds vs L hl h2⟩
  | .dK ks ds, v, L, hl, h => by
    obtain ⟨p, vs, L', rfl, rfl, h1, hl', h2, h3⟩ := (show ∃ p vs L', v = .ref p ∧ L = p :: L' ∧ p ∉ L' ∧ vs.length = ks.length ∧ H p = some (.dK (ks.zip vs)) ∧ OwnTs K ⟨cl, Z⟩ H ds vs L' from h)
    exact ⟨p, vs, L', rfl, rfl, h1, hl', by rw [hl p List.mem_cons_self]; exact h2, OwnTs.alike al ds vs L' (fun q hq => hl q (List.mem_cons_of_mem _ hq)) h3⟩
  | .dT _ _, v, L, _, h => ⟨h.1, h.2.1, Rep.alike al _ _ h.2.2⟩
theorem OwnTs.alike (al : Alike Z Z') : ∀ (ds : List D) (vs : List V) (L : List Addr), (∀ p ∈ L, H' p = H p) → OwnTs K ⟨cl, Z⟩ H ds vs L → OwnTs K ⟨cl, Z'⟩ H' ds vs L
  | [], vs, L, hl, h => h
  | d :: ds, vs, L, hl, h => by
    obtain ⟨v, r, L1, L2, rfl, rfl, h1, h2, h3⟩ := (show ∃ v r L1 L2, vs = v :: r ∧ L = L1 ++ L2 ∧ (∀ p ∈ L1, p ∉ L2) ∧ OwnT K ⟨cl, Z⟩ H d v L1 ∧ OwnTs K ⟨cl, Z⟩ H ds r L2 from h)
    exact ⟨v, r, L1, L2, rfl, rfl, h1, OwnT.alike al d v L1 (fun q hq => hl q (List.mem_append_left _ hq)) h2, OwnTs.alike al ds r L2 (fun q hq => hl q (List.mem_append_right _ hq)) h3⟩
end
theorem Holds.alike (al : Alike Z Z') {p : Addr} {d : D} (e : H' p = H p) (h : Holds K ⟨cl, Z⟩ H p d) : Holds K ⟨cl, Z'⟩ H' p d := by
  cases d with
  | lst ds => obtain ⟨vs, a, b⟩ := h; exact ⟨vs, by rw [e]; exact a, Reps.alike al _ _ b⟩
  | dK ks ds => obtain ⟨vs, l, a, b⟩ := h; exact ⟨vs, l, by rw [e]; exact a, Reps.alike al _ _ b⟩
  | dT ks ds => obtain ⟨vs, l, a, b⟩ := h; exact ⟨vs, l, by rw [e]; exact a, Reps.alike al _ _ b⟩
  | _ => exact h.elim
end
def EV.unlk : EV → EV
  | .lkd d => .dat d
  | e => e
def unl (env : DEnv) : DEnv := env.map fun o => o.map EV.unlk
theorem unl_nil : unl [] = [] := rfl
theorem unl_none (r : DEnv) : unl (none :: r) = none :: unl r := rfl
theorem unl_cons (x : Option EV) (r : DEnv) : unl (x :: r) = x.map EV.unlk :: unl r := rfl
theorem unl_dat (d : D) : (some (EV.dat d)).map EV.unlk = some (.dat d) := rfl
theorem unl_own (d : D) : (some (EV.own d)).map EV.unlk = some (.own d) := rfl
theorem unl_deep (d : D) : (some (EV.deep d)).map EV.unlk = some (.deep d) := rfl
theorem unl_lkd (d : D) : (some (EV.lkd d)).map EV.unlk = some (.dat d) := rfl
theorem unl_nn : (none : Option EV).map EV.unlk = none := rfl
section
variable {K : Frag} {w w0 w' : Wd} {H H0 H' : Hp} {σ : L2.St} {env : DEnv} {st : Store} {a : Addr} {o o1 o2 : HO} {kvs : List (Key × V)} {v : V} {ev : EV} {L : List Addr}
abbrev twW (a : Addr) (o : HO) (w : Wd) : Wd := ⟨w.cl, tw a o w.Z⟩
theorem Ext.rebase (x : Ext w0 H0 w H) : Ext w H0 w H where
  z := Same.refl _
  fr := fun b h => .inl h
  kp := fun b o h n => x.kp b o h fun z => n (by obtain ⟨m, e, _⟩ := x.cl; rw [e]; exact List.mem_append_left _ z)
  tr := x.tr
  cl := ⟨[], (List.append_nil _).symm, fun b h => by simp at h⟩
theorem Ext.unbase (x : Ext w0 H0 w H) (y : Ext w H0 w' H') : Ext w0 H0 w' H' where
  z := x.z.trans y.z
  fr := fun b h => by
    rcases y.fr b h with z | z
    · exact x.fr b z
    · exact .inr z
  kp := fun b o h n => y.kp b o h fun z => by
    obtain ⟨m, e1, e2⟩ := x.cl
    rw [e1] at z
    rcases List.mem_append.mp z with z | z
    · exact n z
    · rw [e2 b z] at h; cases h
  tr := y.tr
  cl := by
    obtain ⟨m, e1, e2⟩ := x.cl
    obtain ⟨n, e3, e4⟩ := y.cl
    refine ⟨m ++ n, by rw [e3, e1, List.append_assoc], fun b hb => ?_⟩
    rcases List.mem_append.mp hb with z | z
    · exact e2 b z
    · exact e4 b z
theorem Ext.tw (a : Addr) (o : HO) (x : Ext w H w' H') : Ext (twW a o w) (tw a o H) (twW a o w') (tw a o H') := by
  refine ⟨fun b u h => ?_, fun b h => ?_, fun b u h n => ?_, fun b h => ?_, ?_⟩
  · show DL.tw a o w'.Z b = some u
    have h : DL.tw a o w.Z b = some u := h
    by_cases e : b = a
    · subst e
      cases q : w.Z b with
      | none => rw [(tw_none b).mpr q] at h; cases h
      | some y => rw [tw_at q] at h; rw [tw_at (x.z _ _ q)]; exact h
    · rw [tw_ne e] at h ⊢; exact x.z _ _ h
  · have h : w'.Z b ≠ none := fun z => h ((tw_none b).mpr z)
    rcases x.fr b h with z | z
    · exact .inl fun y => z ((tw_none b).mp y)
    · exact .inr ((tw_none b).mpr z)
  · by_cases e : b = a
    · subst e
      cases q : H b with
      | none => rw [(tw_none b).mpr q] at h; cases h
      | some y => rw [tw_at q] at h; rw [tw_at (x.kp _ _ q n)]; exact h
    · rw [tw_ne e] at h ⊢; exact x.kp _ _ h n
  · exact (tw_none b).mpr (x.tr b ((tw_none b).mp h))
  · obtain ⟨m, e1, e2⟩ := x.cl
    exact ⟨m, e1, fun b hb => (tw_none b).mpr (e2 b hb)⟩
theorem Sto.tw (s : Sto w H st) (hz : w.Z a = some o1) : Sto (twW a o w) (tw a o H) st := by
  have hn : a ∉ w.cl := fun z => by rw [s.zc a z] at hz; cases hz
  refine ⟨fun b u h => ?_, fun b h => (tw_none b).mpr (s.zc b h), s.nd, s.ln, fun n ns h => ?_⟩
  · have h : DL.tw a o w.Z b = some u := h
    by_cases e : b = a
    · subst e
      rw [tw_at hz] at h; rw [tw_at (s.sub _ _ hz)]; exact h
    · rw [tw_ne e] at h ⊢; exact s.sub _ _ h
  · obtain ⟨b, e1, e2⟩ := s.at_ n ns h
    exact ⟨b, e1, by rw [tw_ne fun z => hn (by rw [← z]; exact List.mem_of_getElem? e1)]; exact e2⟩
theorem EvOk.tw (h : EvOk K w H v L ev) (l : LOk w H0 H L) (hz : w.Z a = some o1) (h1 : isDk kvs o1) (h2 : isDk kvs o2) : EvOk K (twW a o2 w) (tw a o2 H) v L ev.unlk ∧ LOk (twW a o2 w) (tw a o2 H0) (tw a o2 H) L := by
  have al := alike_tw hz h1 h2
  have ne : ∀ p ∈ L, p ≠ a := fun p hp z => by have := (l p hp).2.2.1; rw [z, hz] at this; cases this
  have hh : ∀ p ∈ L, DL.tw a o2 H p = H p := fun p hp => tw_ne (ne p hp)
  refine ⟨?_, fun p hp => ?_⟩
  · cases ev with
    | lkd d => exact ⟨h.1, Rep.alike al _ _ h.2.rep⟩
    | dat d => exact ⟨h.1, Rep.alike al _ _ h.2⟩
    | own d =>
      obtain ⟨p, rfl, rfl, h⟩ := h
      exact ⟨p, rfl, rfl, h.alike al (hh p (by simp))⟩
    | deep d => exact OwnT.alike al d v L hh h
  · obtain ⟨a1, a2, a3, a4⟩ := l p hp
    exact ⟨(tw_none p).mpr a1, fun z => a2 ((tw_none p).mp z), (tw_none p).mpr a3, a4⟩
theorem unl_get {i : Nat} {ev : EV} (h : (unl env)[i]? = some (some ev)) : ∃ ev0, env[i]? = some (some ev0) ∧ ev = ev0.unlk := by
  unfold unl at h
  rw [List.getElem?_map] at h
  obtain ⟨x, hx, e⟩ := Option.map_eq_some_iff.mp h
  obtain ⟨y, hy, e⟩ := Option.map_eq_some_iff.mp e
  subst hy
  exact ⟨y, hx, (Option.some.inj e).symm⟩
theorem Slots.tw (sl : Slots K H0 w σ H env) (hz : w.Z a = some o1) (h1 : isDk kvs o1) (h2 : isDk kvs o2) : Slots K (tw a o2 H0) (twW a o2 w) σ (tw a o2 H) (unl env) := by
  obtain ⟨Ls, h, dj⟩ := sl.ok
  refine ⟨by unfold unl; rw [List.length_map]; exact sl.len, Ls, fun i ev he => ?_, dj⟩
  obtain ⟨ev0, he0, rfl⟩ := unl_get he
  obtain ⟨v, hv, hok, hl⟩ := h i ev0 he0
  obtain ⟨g1, g2⟩ := hok.tw hl hz h1 h2
  exact ⟨v, hv, g1, g2⟩
theorem Slots.unl (sl : Slots K H0 w σ H env) : Slots K H0 w σ H (unl env) := by
  obtain ⟨Ls, h, dj⟩ := sl.ok
  refine ⟨by unfold DL.unl; rw [List.length_map]; exact sl.len, Ls, fun i ev he => ?_, dj⟩
  obtain ⟨ev0, he0, rfl⟩ := unl_get he
  obtain ⟨v, hv, hok, hl⟩ := h i ev0 he0
  refine ⟨v, hv, ?_, hl⟩
  cases ev0 with
  | lkd d => exact ⟨hok.1, hok.2.rep⟩
  | dat d => exact hok
  | own d => exact hok
  | deep d => exact hok
theorem ROk.tw (r : ROk K H0 w H v ev) (hz : w.Z a = some o1) (h1 : isDk kvs o1) (h2 : isDk kvs o2) : ROk K (tw a o2 H0) (twW a o2 w) (tw a o2 H) v ev := by
  obtain ⟨L, g, l⟩ := r.ok
  have hf : ev.free = true := by
    cases ev with
    | lkd d => exact r.elim
    | _ => rfl
  obtain ⟨g1, g2⟩ := g.tw l hz h1 h2
  have e : ev.unlk = ev := by
    cases ev with
    | lkd d => cases hf
    | _ => rfl
  rw [e] at g1
  exact .of g1 g2 hf
/-- the statement runs while the dict at slot i is locked -/
def sLock (i : Nat) (t : TDS) : TDS := fun D env st => match env[i]? with
  | some (some (.dat (.dK ks ds))) => t { nx := fun env' st' => D.nx (unl env') st', rt := D.rt, bk := fun env' st' => D.bk (unl env') st', ct := fun env' st' => D.ct (unl env') st' } ((unl env).set i (some (.lkd (.dK ks ds)))) st
  | _ => False
theorem slots_lkd {i : Nat} {ks : List Key} {ds : List D} (sl : Slots K H0 w σ H (unl env)) (hr : ∃ vs od, σ[i]? = some (some (.ref a)) ∧ vs.length = ks.length ∧ w.Z a = some (.frz od (.dK (ks.zip vs))) ∧ Reps K w.cl w.Z ds vs) : Slots K H0 w σ H ((unl env).set i (some (.lkd (.dK ks ds)))) := by
  obtain ⟨vs, od, hs, hl, hz, rs⟩ := hr
  obtain ⟨Ls, h, dj⟩ := sl.ok
  refine ⟨by rw [List.length_set]; exact sl.len, fun j => if j = i then [] else Ls j, fun j ev he => ?_, fun j k p hne hm => ?_⟩
  · by_cases e : j = i
    · subst e
      have hj : j < (DL.unl env).length := by
        have := (List.getElem?_eq_some_iff.mp he).1
        rwa [List.length_set] at this
      rw [List.getElem?_set_self hj] at he
      cases he
      show ∃ v, _ ∧ EvOk K w H v (if j = j then [] else Ls j) _ ∧ LOk w H0 H (if j = j then [] else Ls j)
      rw [if_pos rfl]
      exact ⟨_, hs, ⟨rfl, ks, ds, a, vs, od, rfl, rfl, hl, hz, rs⟩, fun p hp => by simp at hp⟩
    · rw [List.getElem?_set_ne (Ne.symm e)] at he
      show ∃ v, _ ∧ EvOk K w H v (if j = i then [] else Ls j) _ ∧ LOk w H0 H (if j = i then [] else Ls j)
      rw [if_neg e]
      exact h j ev he
  · have hm : p ∈ (if j = i then [] else Ls j) := hm
    show p ∉ (if k = i then [] else Ls k)
    by_cases e : j = i
    · rw [if_pos e] at hm; simp at hm
    · rw [if_neg e] at hm
      by_cases e2 : k = i
      · rw [if_pos e2]; simp
      · rw [if_neg e2]; exact dj j k p hne hm
theorem LiftS.lock {f : TS} {t : TDS} (i : Nat) (h : LiftS K f t) : LiftS K (fun D σ H => tLock f D σ H ∨ f D σ H) (sLock i t) := by
  intro w0 H0 w σ H env st D D' r q k
  unfold sLock at q
  split at q
  case h_2 => exact q.elim
  rename_i ks ds he
  obtain ⟨Ls, S⟩ := r.sl.norm
  obtain ⟨v, hv, hok, _⟩ := S.ok i _ he
  obtain ⟨a, vs, rfl, hl, rd, rs⟩ := (show ∃ a vs, v = .ref a ∧ vs.length = ks.length ∧ Rd w.Z a (.dK (ks.zip vs)) ∧ Reps K w.cl w.Z ds vs from hok.2)
  rcases rd with hz | ⟨od, hz⟩
  · have hH := r.s.sub _ _ hz
    have hn : a ∉ w.cl := fun z => by rw [r.s.zc a z] at hz; cases hz
    refine .inl ⟨a, .dK (ks.zip vs), hH, True.intro, fun od => ?_⟩
    have d1 : isDk (ks.zip vs) (.dK (ks.zip vs)) := .inl rfl
    have d2 : isDk (ks.zip vs) (.frz od (.dK (ks.zip vs))) := .inr ⟨od, rfl⟩
    have hzw : ∀ x, w.Z a = some x → x = .dK (ks.zip vs) := fun x e => by rw [hz] at e; exact (Option.some.inj e).symm
    have hn0 : a ∉ w0.cl := fun z => hn (by obtain ⟨m, e1, _⟩ := r.x.cl; rw [e1]; exact List.mem_append_left _ z)
    have hH0 : ∀ x, H0 a = some x → x = .dK (ks.zip vs) := fun x e => by have := r.x.kp _ _ e hn0; rw [hH] at this; exact (Option.some.inj this).symm
    have hzl : (twW a (.frz od (.dK (ks.zip vs))) w).Z a = some (.frz od (.dK (ks.zip vs))) := tw_at hz
    have backx : ∀ {w' : Wd} {H' : Hp} {st' : Store}, Ext (twW a (.frz od (.dK (ks.zip vs))) w) (tw a (.frz od (.dK (ks.zip vs))) H0) w' H' → Sto w' H' st' →
        w'.Z a = some (.frz od (.dK (ks.zip vs))) ∧ H' a = some (.frz od (.dK (ks.zip vs))) ∧ Le w (twW a (.dK (ks.zip vs)) w') ∧ Ext w0 H0 (twW a (.dK (ks.zip vs)) w') (upd H' a (.dK (ks.zip vs))) ∧ Sto (twW a (.dK (ks.zip vs)) w') (upd H' a (.dK (ks.zip vs))) st' := fun {w' H' st'} x s' => by
      have hz' := x.z _ _ hzl
      have hH' := s'.sub _ _ hz'
      refine ⟨hz', hH', ⟨fun b u e => ?_, x.pre⟩, ?_, ?_⟩
      · show tw a (.dK (ks.zip vs)) w'.Z b = some u
        by_cases eb : b = a
        · subst eb
          rw [hz] at e
          rw [tw_at hz']; exact e
        · rw [tw_ne eb]
          exact x.z b u (by show tw a _ w.Z b = some u; rw [tw_ne eb]; exact e)
      · have := x.tw a (.dK (ks.zip vs))
        rw [← tw_upd hH']
        simp only [twW] at this
        rw [tw_back hzw, tw_back hH0] at this
        exact r.x.unbase this
      · rw [← tw_upd hH']
        exact s'.tw hz'
    have back : ∀ {w' : Wd} {σ' : L2.St} {H' : Hp} {env' : DEnv} {st' : Store}, Rel K (twW a (.frz od (.dK (ks.zip vs))) w) (tw a (.frz od (.dK (ks.zip vs))) H0) w' σ' H' env' st' →
        H' a = some (.frz od (.dK (ks.zip vs))) ∧ Le w (twW a (.dK (ks.zip vs)) w') ∧ Rel K w0 H0 (twW a (.dK (ks.zip vs)) w') σ' (upd H' a (.dK (ks.zip vs))) (unl env') st' := fun {w' σ' H' env' st'} r' => by
      obtain ⟨hz', hH', l, x, s⟩ := backx r'.x r'.s
      refine ⟨hH', l, x, s, ?_⟩
      have := r'.sl.tw hz' d2 d1
      rw [tw_back hH0] at this
      rw [← tw_upd hH']
      exact this
    refine h (twW a (.frz od (.dK (ks.zip vs))) w) (tw a (.frz od (.dK (ks.zip vs))) H0) (twW a (.frz od (.dK (ks.zip vs))) w) σ _ _ st _ _ ⟨?_, ?_, ?_⟩ q ⟨?_, ?_, ?_, ?_⟩
    · rw [← tw_upd hH]; exact r.x.rebase.tw a _
    · rw [← tw_upd hH]; exact r.s.tw hz
    · rw [← tw_upd hH]
      exact slots_lkd (r.sl.tw hz d1 d2) ⟨vs, od, hv, hl, hzl, Reps.alike (alike_tw hz d1 d2) _ _ rs⟩
    · intro w' σ' H' env' st' l r' q'
      obtain ⟨b1, b2, b3⟩ := back r'
      exact ⟨b1, k.nx _ σ' _ _ st' b2 b3 q'⟩
    · intro w' H' v' ev' st' x s' r' q'
      obtain ⟨hz', hH', l, x2, s2⟩ := backx x s'
      refine ⟨hH', k.rt _ _ v' ev' st' x2 s2 ?_ q'⟩
      have := r'.tw hz' d2 d1
      rw [tw_back hH0] at this
      rw [← tw_upd hH']
      exact this
    · intro w' σ' H' env' st' l r' q'
      obtain ⟨b1, b2, b3⟩ := back r'
      exact ⟨b1, k.bk _ σ' _ _ st' b2 b3 q'⟩
    · intro w' σ' H' env' st' l r' q'
      obtain ⟨b1, b2, b3⟩ := back r'
      exact ⟨b1, k.ct _ σ' _ _ st' b2 b3 q'⟩
  · refine .inr (h w0 H0 w σ H _ st _ _ ⟨r.x, r.s, slots_lkd r.sl.unl ⟨vs, od, hv, hl, hz, rs⟩⟩ q ⟨?_, k.rt, ?_, ?_⟩)
    · exact fun w' σ' H' env' st' l r' q' => k.nx _ σ' _ _ st' l ⟨r'.x, r'.s, r'.sl.unl⟩ q'
    · exact fun w' σ' H' env' st' l r' q' => k.bk _ σ' _ _ st' l ⟨r'.x, r'.s, r'.sl.unl⟩ q'
    · exact fun w' σ' H' env' st' l r' q' => k.ct _ σ' _ _ st' l ⟨r'.x, r'.s, r'.sl.unl⟩ q'
theorem DS.lock {X : Cx} {s : Stmt} {t : TDS} (i : Nat) (h : DS X s t) : DS X s (sLock i t) := by
  obtain ⟨f, p, l⟩ := h.ex
  refine ⟨_, ⟨fun pins s σ H D I h => ?_⟩, l.lock i⟩
  rcases h with h | h
  · exact (ps_lock p).run pins s σ H D I h
  · exact p.run pins s σ H D I h
end
end DL

set_option Elab.async false
set_option linter.all false
set_option maxRecDepth 100000
set_option maxHeartbeats 4000000
/-! DL28: dicts with int and text keys. -/
namespace DL
open PySem PySem.Spec L2
section
variable {α β : Type}
def lookD (ks : List Key) (ds : List α) (k : Key) : Option α := ((ks.zip ds).find? fun p => decide (p.1 = k)).map (·.2)
def hasK (ks : List Key) (k : Key) : Bool := ks.any fun x => decide (x = k)
def putKs (ks : List Key) (k : Key) : List Key := if hasK ks k = true then ks else ks ++ [k]
def putDs (ks : List Key) (ds : List α) (k : Key) (d : α) : List α := if hasK ks k = true then (ks.zip ds).map (fun p => if p.1 = k then d else p.2) else ds ++ [d]
theorem lookD_cons (k0 : Key) (ks : List Key) (d0 : α) (ds : List α) (k : Key) : lookD (k0 :: ks) (d0 :: ds) k = if k0 = k then some d0 else lookD ks ds k := by
  unfold lookD
  rw [List.zip_cons_cons, List.find?_cons]
  by_cases e : k0 = k
  · simp [e]
  · simp [e]
theorem lookD_nil (ds : List α) (k : Key) : lookD [] ds k = none := rfl
theorem any_key (k : Key) : ∀ {ks : List Key} {vs : List V}, ks.length = vs.length → ((ks.zip vs).any fun kv => decide (kv.1 = k)) = hasK ks k
  | [], vs, _ => by simp [hasK]
  | k0 :: ks, [], h => by simp at h
  | k0 :: ks, v :: vs, h => by
    rw [List.zip_cons_cons, List.any_cons, any_key k (by simpa using h), hasK, hasK, List.any_cons]
theorem map_keyed (k : Key) (y : V) : ∀ {ks : List Key} {vs : List V}, ks.length = vs.length → (ks.zip vs).map (fun kv => if kv.1 = k then (kv.1, y) else kv) = ks.zip ((ks.zip vs).map fun p => if p.1 = k then y else p.2)
  | [], vs, _ => by simp
  | k0 :: ks, [], h => by simp at h
  | k0 :: ks, v :: vs, h => by
    rw [List.zip_cons_cons, List.map_cons, List.map_cons, List.zip_cons_cons, map_keyed k y (by simpa using h)]
    by_cases e : k0 = k <;> simp [e]
theorem putK_zip {ks : List Key} {vs : List V} (h : ks.length = vs.length) (k : Key) (y : V) : putK (ks.zip vs) k y = (putKs ks k).zip (putDs ks vs k y) := by
  unfold putK putKs putDs
  rw [any_key k h]
  by_cases e : hasK ks k = true
  · rw [if_pos e, if_pos e, if_pos e, map_keyed k y h]
  · rw [if_neg e, if_neg e, if_neg e, List.zip_append h]; rfl
theorem putDs_len {ks : List Key} {ds : List α} (h : ks.length = ds.length) (k : Key) (d : α) : (putKs ks k).length = (putDs ks ds k d).length := by
  unfold putKs putDs
  split
  · rw [List.length_map, List.length_zip]; omega
  · rw [List.length_append, List.length_append, h]; rfl
end
section
variable {K : Frag} {cl : List Addr} {Z : Hp}
theorem look_rep (k : Key) : ∀ {ks : List Key} {ds : List D} {vs : List V}, Reps K cl Z ds vs → (lookD ks ds k = none → lookD ks vs k = none) ∧ ∀ d, lookD ks ds k = some d → ∃ v, lookD ks vs k = some v ∧ Rep K cl Z d v
  | [], ds, vs, r => ⟨fun _ => rfl, fun d h => by rw [lookD_nil] at h; cases h⟩
  | k0 :: ks, [], vs, r => by
    rw [show vs = [] from r]
    exact ⟨fun _ => rfl, fun d h => by simp [lookD] at h⟩
  | k0 :: ks, d0 :: ds, vs, r => by
    obtain ⟨v, r', rfl, h1, h2⟩ := (show ∃ v r, vs = v :: r ∧ Rep K cl Z d0 v ∧ Reps K cl Z ds r from r)
    rw [lookD_cons, lookD_cons]
    by_cases e : k0 = k
    · rw [if_pos e, if_pos e]
      exact ⟨fun z => (nomatch z), fun d z => ⟨v, rfl, by rw [← Option.some.inj z]; exact h1⟩⟩
    · rw [if_neg e, if_neg e]
      exact look_rep k h2
theorem look_get (k : Key) {ks : List Key} {ds : List D} {vs : List V} (r : Reps K cl Z ds vs) {H : Hp} {a : Addr} (e : Rd H a (.dK (ks.zip vs))) : ∃ o, DGet H a (kV k) o ∧ (lookD ks ds k = none → o = none) ∧ ∀ d, lookD ks ds k = some d → ∃ v, o = some v ∧ Rep K cl Z d v := by
  refine ⟨lookD ks vs k, .inl ⟨ks.zip vs, k, e, rfl, rfl⟩, look_rep k r⟩
theorem reps_put (k : Key) {d : D} {v : V} : ∀ {ks : List Key} {ds : List D} {vs : List V}, Reps K cl Z ds vs → Rep K cl Z d v → Reps K cl Z ((ks.zip ds).map fun p => if p.1 = k then d else p.2) ((ks.zip vs).map fun p => if p.1 = k then v else p.2)
  | [], ds, vs, r, h => rfl
  | k0 :: ks, [], vs, r, h => by rw [show vs = [] from r]; rfl
  | k0 :: ks, d0 :: ds, vs, r, h => by
    obtain ⟨v0, r', rfl, h1, h2⟩ := (show ∃ v r, vs = v :: r ∧ Rep K cl Z d0 v ∧ Reps K cl Z ds r from r)
    simp only [List.zip_cons_cons, List.map_cons]
    refine .cons ?_ (reps_put k h2 h)
    by_cases e : k0 = k
    · rw [if_pos e, if_pos e]; exact h
    · rw [if_neg e, if_neg e]; exact h1
theorem reps_putDs {ks : List Key} {ds : List D} {vs : List V} (k : Key) {d : D} {v : V} (r : Reps K cl Z ds vs) (h : Rep K cl Z d v) : Reps K cl Z (putDs ks ds k d) (putDs ks vs k v) := by
  unfold putDs
  split
  · exact reps_put k r h
  · exact r.append (.cons h rfl)
end
/-- the dict at slot i, whoever holds it -/
def dkAt (env : DEnv) (i : Nat) (P : List Key → List D → Prop) : Prop := match env[i]? with
  | some (some (.own (.dK ks ds))) => P ks ds
  | some (some (.dat (.dK ks ds))) => P ks ds
  | some (some (.lkd (.dK ks ds))) => P ks ds
  | _ => False
theorem dk_slot {K : Frag} {H0 H : Hp} {w : Wd} {σ : L2.St} {env : DEnv} {st : Store} {i : Nat} {P : List Key → List D → Prop} (sl : Slots K H0 w σ H env) (so : Sto w H st) (h : dkAt env i P) :
    ∃ ks ds a vs, σ[i]? = some (some (.ref a)) ∧ Rd H a (.dK (ks.zip vs)) ∧ vs.length = ks.length ∧ Reps K w.cl w.Z ds vs ∧ P ks ds ∧ ∀ P', dkAt env i P' ↔ P' ks ds := by
  unfold dkAt at h
  obtain ⟨Ls, g, _⟩ := sl.ok
  split at h
  · rename_i ks ds he
    obtain ⟨v, hv, ⟨p, rfl, _, hh⟩, _⟩ := g i _ he
    obtain ⟨vs, l, e, r⟩ := hh
    exact ⟨ks, ds, p, vs, hv, .inl e, l, r, h, fun P' => by unfold dkAt; rw [he]⟩
  · rename_i ks ds he
    obtain ⟨v, hv, ⟨_, hh⟩, _⟩ := g i _ he
    obtain ⟨a, vs, rfl, l, e, r⟩ := hh
    exact ⟨ks, ds, a, vs, hv, Same.rd so.sub e, l, r, h, fun P' => by unfold dkAt; rw [he]⟩
  · rename_i ks ds he
    obtain ⟨v, hv, ⟨_, hh⟩, _⟩ := g i _ he
    obtain ⟨a, vs, rfl, l, e, r⟩ := hh.rep
    exact ⟨ks, ds, a, vs, hv, Same.rd so.sub e, l, r, h, fun P' => by unfold dkAt; rw [he]⟩
  · exact h.elim
section
variable {X : Cx} {e f o : Expr} {p pos : Pos} {ta tb td : TD} {x : Str} {px : Pos}
/-- d[k], d a slot -/
def dGetV (i : Nat) (tb : TD) : TD := fun env st Q => dkAt env i fun ks ds => tb env st fun y st1 => ∃ k d, y = keyD k ∧ lookD ks ds k = some d ∧ Q d st1
theorem d_dgetV (i : Nat) (hu : X.A.units + 1 < cLine) (hb : DE X e tb) (hN : X.N[i]? = some x := by rfl) (hv : Vis X.env.scope x := by first | exact Or.inl rfl | exact Or.inr (Or.inl rfl) | exact Or.inr (Or.inr rfl)) (hd : (x == ("__debug__" : Str)) = false := by decide)
    (hcd : (x == ("__classdict__" : Str)) = false := by decide) (hs : NoSl e := by exact fun _ _ => rfl) : DE X (.Subscript (.Name x px) e pos) (dGetV i tb) := by
  obtain ⟨t, pe, l⟩ := hb.ex
  refine ⟨_, pe_dget hu (pe_var hN hv hd hcd) pe hs, fun H0 w σ H env st Q Q' sl so q k => ?_⟩
  obtain ⟨ks, ds, a, vs, h1, _, _, _, q, hall⟩ := dk_slot sl so q
  refine ⟨.ref a, h1, l H0 w σ H env st _ _ sl so q fun w1 H1 v d st1 x1 s1 r1 q1 => ?_⟩
  obtain ⟨kk, d2, rfl, hk, q1⟩ := q1
  obtain ⟨ks', ds', a', vs', h1', rd, hl, rs, _, hall'⟩ := dk_slot (P := fun _ _ => True) (sl.ext x1) s1 ((hall _).mpr trivial)
  rw [h1] at h1'; cases h1'
  have e2 : ks' = ks ∧ ds' = ds := (hall fun a b => a = ks ∧ b = ds).mpr ⟨rfl, rfl⟩ |> (hall' fun a b => a = ks ∧ b = ds).mp
  obtain ⟨rfl, rfl⟩ := e2
  obtain ⟨oo, hg, _, hsome⟩ := look_get kk rs rd
  obtain ⟨v2, rfl, rv⟩ := hsome d2 hk
  have ev : v = kV kk := by cases kk <;> exact r1
  subst ev
  exact ⟨a, v2, rfl, hg, k w1 H1 v2 d2 st1 x1 s1 rv q1⟩
/-- d[k], d frozen -/
def wDget : W2 := fun x y Q => match x with | .dK ks ds => ∃ k d, y = keyD k ∧ lookD ks ds k = some d ∧ Q d | _ => False
theorem d_dget (hu : X.A.units + 1 < cLine) (ha : DE X o ta) (hb : DE X e tb) (hs : NoSl e := by exact fun _ _ => rfl) : DE X (.Subscript o e pos) (dOp wDget ta tb) := by
  obtain ⟨t, pe, l⟩ := ha.ex
  obtain ⟨u, pe2, l2⟩ := hb.ex
  refine ⟨_, pe_dget hu pe pe2 hs, fun H0 w σ H env st Q Q' sl so q k => l H0 w σ H env st _ _ sl so q fun w1 H1 v d st1 x1 s1 r1 q1 => ?_⟩
  refine l2 H0 w1 σ H1 env st1 _ _ (sl.ext x1) s1 q1 fun w2 H2 v2 d2 st2 x2 s2 r2 q2 => ?_
  unfold wDget at q2
  split at q2
  · rename_i ks ds
    obtain ⟨kk, d3, rfl, hk, q2⟩ := q2
    obtain ⟨a, vs, rfl, hl, rd, rs⟩ := x2.rep r1
    obtain ⟨oo, hg, _, hsome⟩ := look_get kk rs (Same.rd s2.sub rd)
    obtain ⟨v3, rfl, rv⟩ := hsome d3 hk
    have ev : v2 = kV kk := by cases kk <;> exact r2
    subst ev
    exact ⟨a, v3, rfl, hg, k w2 H2 v3 d3 st2 (x1.trans x2) s2 rv q2⟩
  · exact q2.elim
/-- d.get(k, x), d a slot -/
def dGet2V (i : Nat) (ta tb : TD) : TD := fun env st Q => dkAt env i fun ks ds => ta env st fun y st1 => tb env st1 fun z st2 => ∃ k, y = keyD k ∧ Q ((lookD ks ds k).getD z) st2
theorem d_dget2V (i : Nat) {apos : Pos} (hu : X.A.units + 1 < cLine) (ha : DE X e ta) (hb : DE X f tb) (hN : X.N[i]? = some x := by rfl) (hv : Vis X.env.scope x := by first | exact Or.inl rfl | exact Or.inr (Or.inl rfl) | exact Or.inr (Or.inr rfl)) (hd : (x == ("__debug__" : Str)) = false := by decide)
    (hcd : (x == ("__classdict__" : Str)) = false := by decide) (m : M2 X (.Name x px) "get" apos e f pos := by exact ⟨rfl, rfl, rfl, rfl⟩) : DE X (.Call (.Attribute (.Name x px) "get" apos) [e, f] [] pos) (dGet2V i ta tb) := by
  obtain ⟨t, pe, l⟩ := ha.ex
  obtain ⟨u, pe2, l2⟩ := hb.ex
  refine ⟨_, pe_dget2 hu (pe_var hN hv hd hcd) pe pe2 m, fun H0 w σ H env st Q Q' sl so q k => ?_⟩
  obtain ⟨ks, ds, a, vs, h1, rd0, _, _, q, hall⟩ := dk_slot sl so q
  refine ⟨.ref a, h1, a, rfl, .inl ⟨_, rd0⟩, l H0 w σ H env st _ _ sl so q fun w1 H1 v d st1 x1 s1 r1 q1 => ?_⟩
  refine l2 H0 w1 σ H1 env st1 _ _ (sl.ext x1) s1 q1 fun w2 H2 v2 d2 st2 x2 s2 r2 q2 => ?_
  obtain ⟨kk, rfl, q2⟩ := q2
  obtain ⟨ks', ds', a', vs', h1', rd, hl, rs, _, hall'⟩ := dk_slot (P := fun _ _ => True) (sl.ext (x1.trans x2)) s2 ((hall _).mpr trivial)
  rw [h1] at h1'; cases h1'
  have e2 : ks' = ks ∧ ds' = ds := (hall fun a b => a = ks ∧ b = ds).mpr ⟨rfl, rfl⟩ |> (hall' fun a b => a = ks ∧ b = ds).mp
  obtain ⟨rfl, rfl⟩ := e2
  obtain ⟨oo, hg, hnone, hsome⟩ := look_get kk rs rd
  have ev : v = kV kk := by cases kk <;> exact r1
  subst ev
  refine ⟨oo, hg, ?_⟩
  cases hk : lookD ks' ds' kk with
  | none =>
    rw [hnone hk]
    rw [hk] at q2
    exact k w2 H2 v2 d2 st2 (x1.trans x2) s2 r2 q2
  | some d3 =>
    obtain ⟨v3, rfl, rv⟩ := hsome d3 hk
    rw [hk] at q2
    exact k w2 H2 v3 d3 st2 (x1.trans x2) s2 rv q2
/-- k in d, d a slot -/
def dInV (i : Nat) (ta : TD) : TD := fun env st Q => ta env st fun y st1 => dkAt env i fun ks ds => ∃ k, y = keyD k ∧ Q (.bl (lookD ks ds k).isSome) st1
theorem look_some {K : Frag} {cl : List Addr} {Z : Hp} (k : Key) {ks : List Key} {ds : List D} {vs : List V} (r : Reps K cl Z ds vs) : (lookD ks vs k).isSome = (lookD ks ds k).isSome := by
  obtain ⟨h1, h2⟩ := look_rep k (ks := ks) r
  cases e : lookD ks ds k with
  | none => rw [h1 e]; rfl
  | some d => obtain ⟨v, e2, _⟩ := h2 d e; rw [e2]; rfl
theorem lift_inV {K : Frag} {i : Nat} {t : TE} (l : LiftE K t ta) : LiftE K (tDIn t (tVar i)) (dInV i ta) := fun H0 w σ H env st Q Q' sl so q k => l H0 w σ H env st _ _ sl so q fun w1 H1 v d st1 x1 s1 r1 q1 => by
  obtain ⟨ks, ds, a, vs, h1, rd, hl, rs, ⟨kk, rfl, q2⟩, _⟩ := dk_slot (sl.ext x1) s1 q1
  have ev : v = kV kk := by cases kk <;> exact r1
  subst ev
  refine ⟨.ref a, h1, a, lookD ks vs kk, rfl, .inl ⟨_, kk, rd, rfl, rfl⟩, ?_⟩
  rw [look_some kk rs]
  exact k w1 H1 _ (.bl _) st1 x1 s1 rfl q2
theorem d_dinV (i : Nat) (hu : X.A.units + 1 < cLine) (ha : DE X e ta) (hN : X.N[i]? = some x := by rfl) (hv : Vis X.env.scope x := by first | exact Or.inl rfl | exact Or.inr (Or.inl rfl) | exact Or.inr (Or.inr rfl)) (hd : (x == ("__debug__" : Str)) = false := by decide)
    (hcd : (x == ("__classdict__" : Str)) = false := by decide) : DE X (.Compare e [.In] [.Name x px] pos) (dInV i ta) := by
  obtain ⟨t, pe, l⟩ := ha.ex
  exact ⟨_, pe_cmp (pc_din hu pe (pe_var hN hv hd hcd)) (by first | exact nomark _ | rfl), lift_inV l⟩
theorem d_dict0O : RE X (.Dict [] [] pos) (fun _ st Q => Q (.own (.dK [] [])) st) := ⟨_, pe_dnewK, fun H0 w σ H env st Q Q' sl so q k => fun p hp => by
  obtain ⟨e2, s2⟩ := ext_laid (o := .dK []) so hp
  exact k _ _ _ (.own (.dK [] [])) st e2 s2 ⟨p, rfl, hp, so.zfree hp, so.notcell hp, [], rfl, upd_same, rfl⟩ q⟩
/-- d[k] = v, d a dict of one's own -/
def sPut (i : Nat) (ta tv : TD) : TDS := fun D env st => tv env st fun d st1 => match env[i]? with
  | some (some (.own (.dK ks ds))) => ta env st1 fun y st2 => ∃ k, y = keyD k ∧ (ks.length = ds.length ∧ ks.length < sizeLine) ∧ D.nx (env.set i (some (.own (.dK (putKs ks k) (putDs ks ds k d))))) st2
  | _ => False
theorem s_put (i : Nat) {pos' : Pos} (hu : X.A.units + 1 < cLine) (ha : DE X e ta) (hb : DE X f tb) (hN : X.N[i]? = some x := by rfl) (hv : Vis X.env.scope x := by first | exact Or.inl rfl | exact Or.inr (Or.inl rfl) | exact Or.inr (Or.inr rfl)) (hd : (x == ("__debug__" : Str)) = false := by decide)
    (hcd : (x == ("__classdict__" : Str)) = false := by decide) (hs : swapsWith f (some (.Subscript (.Name x px) e pos')) pos.line X.env = pure false := by rfl) : DS X (.Assign [.Subscript (.Name x px) e pos'] f pos) (sPut i ta tb) := by
  obtain ⟨t, pe, l⟩ := ha.ex
  obtain ⟨u, pe2, l2⟩ := hb.ex
  refine ⟨_, ps_dput hu (pe_var hN hv hd hcd) pe pe2 hs, fun w0 H0 w σ H env st D D' r q k => l2 H0 w σ H env st _ _ r.sl r.s q fun w1 H1 v d st1 x1 s1 r1 q1 => ?_⟩
  split at q1
  · rename_i ks ds he
    obtain ⟨p0, hσ, _⟩ := slots_mut (r.sl.ext x1) he
    refine ⟨.ref p0, hσ, l H0 w1 σ H1 env st1 _ _ (r.sl.ext x1) s1 q1 fun w2 H2 v2 y st2 x2 s2 r2 q2 => ?_⟩
    obtain ⟨kk, rfl, ⟨hl0, hz⟩, q2⟩ := q2
    obtain ⟨p1, hσ1, hp0, hzz, hn, ⟨vs, hl, hH, rs⟩, hm⟩ := slots_mut (r.sl.ext (x1.trans x2)) he
    rw [hσ] at hσ1
    cases hσ1
    have ev : v2 = kV kk := by cases kk <;> exact r2
    subst ev
    refine ⟨p0, _, rfl, DPut.k hH (by rw [List.length_zip]; omega), ?_⟩
    rw [putK_zip hl.symm]
    exact k.nx w2 σ _ _ st2 (x1.trans x2).le ⟨ext_mut (r.x.trans (x1.trans x2)) hp0, sto_mut s2 hzz hn, hm _ (.dK (putKs ks kk) (putDs ks ds kk d)) ⟨putDs ks vs kk v, (putDs_len hl.symm kk v).symm, upd_same, reps_putDs kk rs (x2.rep r1)⟩⟩ q2
  · exact q1.elim
/-- sorted(d), keys texts -/
def wSortedK : W1 := fun x Q => match x with | .dK ks _ => ∃ ss : List Str, ks = ss.map Sum.inr ∧ ss.length < 64 ∧ ∀ ys : List Str, ys.Perm ss → PyProof.Rows.sortedS ys = true → Q (.lst (ys.map D.str)) | _ => False
theorem r_sortedK (hm : X.mg "sorted" = none) (ha : DE X e ta) (hg : Gl X "sorted" := by rfl) (hc : X.calm = true := by rfl) (h1 : starEach [e] X.env = (false, eval e X.env) :: starEach [] X.env := by rfl) (h2 : (backTo pos (starEach [] X.env)).any (·.1) = false := by rfl) :
    RE X (.Call (.Name "sorted" p) [e] [] pos) (dUnR wSortedK ta) := r_b1 (call_sortedD hc) (by
  intro w H st x v Qd Q' so rx q k
  unfold wSortedK at q
  split at q
  · rename_i ks ds
    obtain ⟨ss, rfl, h64, q⟩ := q
    obtain ⟨a, vs, rfl, hl, ha, r⟩ := rx
    refine ⟨a, _, ss, rfl, Same.rd so.sub ha, ?_, h64, fun ys p hp hs hh => ?_⟩
    · rw [List.map_fst_zip (by omega)]
    · obtain ⟨e2, s2⟩ := ext_laid (o := .lst (ys.map V.str)) so hh
      exact k (.lst (ys.map D.str)) _ _ p e2 s2 hh ⟨_, upd_same, Reps.strs ys⟩ (so.zfree hh) (so.notcell hh) (q ys hp hs)
  · exact q.elim) hm boot_sorted ha hg (by decide) (by decide) h1 h2
/-! ### a locked dict is walked over -/
def diKeys (i : Nat) : TDI := fun env st Q => match env[i]? with
  | some (some (.lkd (.dK ks _))) => Q (ks.map keyD) st
  | _ => False
theorem i_keys (i : Nat) {tg : Expr} (hN : X.N[i]? = some x := by rfl) (hv : Vis X.env.scope x := by first | exact Or.inl rfl | exact Or.inr (Or.inl rfl) | exact Or.inr (Or.inr rfl)) (hd : (x == ("__debug__" : Str)) = false := by decide)
    (hcd : (x == ("__classdict__" : Str)) = false := by decide) : DI X tg (.Name x px) (diKeys i) := by
  refine ⟨_, pi_keys (pe_var hN hv hd hcd), fun H0 w σ H env st Q R sl so q k => ?_⟩
  unfold diKeys at q
  split at q
  · rename_i ks ds he
    obtain ⟨Ls, g, _⟩ := sl.ok
    obtain ⟨v, hv, ⟨_, hh⟩, _⟩ := g i _ he
    obtain ⟨ks', ds', a, vs, od, e, rfl, hl, hz, rs⟩ := hh
    cases e
    refine ⟨.ref a, hv, a, od, rfl, .inl ⟨_, so.sub _ _ hz, k w H st (ks.map keyD) _ (Ext.refl _ _) so (fun w' H' st' l s => ?_) q⟩⟩
    have hH := s.sub _ _ (l.z _ _ hz)
    have hlen : (ks.zip vs).length = ks.length := by rw [List.length_zip]; omega
    refine ⟨fun j d hj => ?_, hH, by rw [List.length_map, hlen]; exact Nat.le_refl _⟩
    rw [List.getElem?_map] at hj
    obtain ⟨kk, hk, rfl⟩ := Option.map_eq_some_iff.mp hj
    have hjl := (List.getElem?_eq_some_iff.mp hk).1
    refine ⟨⟨hH, by rw [hlen]; exact hjl⟩, fun z H2 y => ?_⟩
    obtain ⟨rfl, k2, v2, h2, rfl⟩ := y
    refine ⟨w', Ext.refl _ _, s, ?_⟩
    have : k2 = kk := by
      have e3 : ((ks.zip vs).map Prod.fst)[j]? = some k2 := by rw [List.getElem?_map, h2]; rfl
      rw [List.map_fst_zip (by omega), hk] at e3
      exact (Option.some.inj e3).symm
    rw [this]
    exact rep_key kk
  · exact q.elim
end
end DL

set_option Elab.async false
set_option linter.all false
set_option maxRecDepth 100000
set_option maxHeartbeats 4000000
/-! DL29: list(d.values()), dict comprehensions, dict(pairs). -/
namespace L2
open PySem PySem.Spec PyProof.Rows
/-- list(o.values()) -/
def tListVals (td : TE) : TE := fun σ H Q => td σ H fun x H1 => ∃ a kvs, x = V.ref a ∧ Rd H1 a (.dK kvs) ∧ ∀ q, H1 q = none → Q (.ref q) (upd H1 q (.lst (kvs.map (·.2))))
theorem pe_listVals {X : Cx} {o : Expr} {p pos apos mpos : Pos} {td : TE} (hc : X.calm = true) (hg : Gl X "list") (hm : X.mg "list" = none) (hd : PE X o td) (hbase : attributeBase o "values" X.env (eval o X.env) = eval o X.env := by rfl) (hline : (apos.endLine == mpos.line) = true := by rfl)
    (hse : starEach [Expr.Call (.Attribute o "values" apos) [] [] mpos] X.env = [(false, eval (Expr.Call (.Attribute o "values" apos) [] [] mpos) X.env)] := by rfl) :
    PE X (.Call (.Name "list" p) [.Call (.Attribute o "values" apos) [] [] mpos] [] pos) (tListVals td) := by
  refine ⟨fun pins s σ H Q I h => ?_⟩
  refine wpAny_Call_Name_kw (ld_blt I hg hm (u := .type "list") (by first | rfl | decide +kernel) ?_ (by first | decide +kernel | decide) (by first | decide +kernel | decide))
  rw [hse]
  refine PySem.callWith_type1 (wpAny_Call_method0_late hbase hline (thn (hd.run pins s σ H _ I h) fun v s1 ⟨x, H1, I1, r1, a, kvs, ex, ha, q⟩ => ?_))
  subst ex
  obtain rfl : v = Value.ref a := r1
  obtain ⟨hz, hsys, vs, rel, dof⟩ := dk_rd I1.hok ha
  obtain ⟨ep, dat⟩ := dof.dictAt
  have dat' := dat
  obtain ⟨ob, es, ho, ex, hdat, hko, hpr, hnd⟩ := dat'
  refine ⟨"dict", "dict.values", F.plainAttrs_dict, F.slot_dict_values, F.type_dict_values, ⟨ob, ho, ex.1⟩, fun b e => ?_, Calls.callWith_builtin rfl (PySem.evalArgs_none ?_)⟩
  · cases e
    exact ⟨ob, ho, ex.2.1⟩
  refine call_meetsIn F.slot_dict_values ⟨ob, ho, ex.1⟩ F.entry_dict_values (F.args_dict_values_1 _) (meets_dict_values (mixKind X.prog X.w) a hsys) ⟨⟨vs, dof⟩, ?_⟩
  have k1 : ∀ b u, s1.heap.get? b = some u → (s1.heap.push { cls := .type "dict_values", data := .fields #[.ref a] }).get? b = some u := fun b u e => Heap.get?_push_of_some _ e
  have dat1 : (s1.heap.push { cls := .type "dict_values", data := .fields #[.ref a] }).DictAt (mixKind X.prog X.w) a vs ep := dat.keep k1
  have I2 : Inv X pins σ H1 { s1 with heap := s1.heap.push { cls := .type "dict_values", data := .fields #[.ref a] } } := I1.kept (t' := s1.toks) k1
  have hl : kvs.length = vs.length := KV.length rel
  refine PySem.W.kdl_call (PySem.W.kdl_values (knd := mixKind X.prog X.w) (kvs := vs) (ep := ep) (d := a)) (I.ok.hd hc) ⟨⟨_, Heap.get?_push_size _ rfl, rfl, rfl⟩, dat1⟩ (by rw [← hl]; exact hz) fun h' tk acc' c' hk hS hacc => ?_
  refine ⟨.ref _, upd H1 _ (.lst (kvs.map (·.2))), I2.laid (t' := tk) hk (Nat.le_refl _) (show ObjOk X.prog X.w _ _ _ (.lst (kvs.map (·.2))) from ⟨by rw [List.length_map]; exact hz, acc'.toList, c', ?_, by rw [Array.toArray_toList]; exact hS⟩), rfl, q _ (I2.hok.fresh (Nat.le_refl _))⟩
  refine vals_of_at (by rw [List.length_map, hl, show acc'.toList.length = acc'.size by simp, hacc.1]) fun j x w h1 h2 => ?_
  obtain ⟨k, hk2⟩ := hacc.2 j w (by rw [← Array.getElem?_toList]; exact h2)
  obtain ⟨y, h3, h4⟩ := KV.at' rel hk2
  rw [List.getElem?_map, h3] at h1
  cases h1
  exact h4
end L2
namespace DL
open PySem PySem.Spec L2
section
variable {X : Cx} {e f o kx vx : Expr} {p pos : Pos} {ta tb td : TD} {x : Str} {px : Pos}
def wListVals : W1 := fun x Q => match x with | .dK ks ds => ks.length = ds.length ∧ Q (.lst ds) | _ => False
theorem r_listVals {apos mpos : Pos} (hm : X.mg "list" = none) (ha : DE X o ta) (hg : Gl X "list" := by rfl) (hc : X.calm = true := by rfl) (hbase : attributeBase o "values" X.env (eval o X.env) = eval o X.env := by rfl) (hline : (apos.endLine == mpos.line) = true := by rfl)
    (hse : starEach [Expr.Call (.Attribute o "values" apos) [] [] mpos] X.env = [(false, eval (Expr.Call (.Attribute o "values" apos) [] [] mpos) X.env)] := by rfl) :
    RE X (.Call (.Name "list" p) [.Call (.Attribute o "values" apos) [] [] mpos] [] pos) (dUnR wListVals ta) := by
  obtain ⟨t, pe, l⟩ := ha.ex
  refine ⟨_, pe_listVals hc hg hm pe hbase hline hse, fun H0 w σ H env st Q Q' sl so q k => l H0 w σ H env st _ _ sl so q fun w1 H1 v d st1 x1 s1 r1 q1 => ?_⟩
  unfold wListVals at q1
  split at q1
  · rename_i ks ds
    obtain ⟨hl0, q1⟩ := q1
    obtain ⟨a, vs, rfl, hl, rd, rs⟩ := r1
    refine ⟨a, _, rfl, Same.rd s1.sub rd, fun q hq => ?_⟩
    have e : (ks.zip vs).map (·.2) = vs := List.map_snd_zip (by omega)
    rw [e]
    obtain ⟨e2, s2⟩ := ext_laid (o := .lst vs) s1 hq
    exact k w1 _ _ (.own (.lst ds)) st1 (x1.trans e2) s2 ⟨q, rfl, x1.tr q hq, s1.zfree hq, s1.notcell hq, vs, upd_same, rs⟩ q1
  · exact q1.elim
/-! ### dict comprehensions -/
def dDComp (gd : TDG) (tt : TDT) (tk tv : TD) (vs : List Nat) : List D → List Key → List D → DEnv → Store → (List Key → List D → Store → Prop) → Prop
  | [], ks, acc, _, st, Q => Q ks acc st
  | d :: r, ks, acc, env, st, Q => gd d (wipeE env vs) st fun env1 st1 => tt env1 st1 fun b st2 => if b = true then tk env1 st2 fun y st3 => tv env1 st3 fun z st4 => ∃ k, y = keyD k ∧ ks.length < sizeLine ∧ dDComp gd tt tk tv vs r (putKs ks k) (putDs ks acc k z) env st4 Q else dDComp gd tt tk tv vs r ks acc env st2 Q
def dDc (ti : TDI) (gd : TDG) (tt : TDT) (tk tv : TD) (vs : List Nat) : TDR := fun env st Q => ti env st fun ds st1 => dDComp gd tt tk tv vs ds [] [] env st1 fun ks ys st2 => Q (.own (.dK ks ys)) st2
theorem lift_dc {K : Frag} {wi : TI} {g : TG} {tt : TT} {tk tv : TE} {ti : TDI} {gd : TDG} {ttd : TDT} {tkd tvd : TD} {vs : List Nat} (li : LiftI K wi ti) (lg : LiftC K g gd vs) (lt : LiftT K tt ttd) (lk : LiftE K tk tkd) (lv : LiftE K tv tvd) : LiftR K (tDc wi g tt tk tv vs) (dDc ti gd ttd tkd tvd vs) := by
  intro H0 w σ H env st Q Q' sl so q k
  refine li H0 w σ H env st _ _ sl so q fun w1 H1 st1 ds J x1 s1 fd q1 => ?_
  intro D hD
  have hD0 : H D = none := x1.tr D hD
  obtain ⟨x2, s2⟩ := ext_laid (o := .dK []) s1 hD
  refine ⟨fun i m Hh => m = ds.length - i ∧ i ≤ ds.length ∧ ∃ w' ks acc us st', Le w1 w' ∧ Ext w H w' Hh ∧ Sto w' Hh st' ∧ ks.length = us.length ∧ Hh D = some (.dK (ks.zip us)) ∧ w'.Z D = none ∧ D ∉ w'.cl ∧ Reps K w'.cl w'.Z acc us ∧ dDComp gd ttd tkd tvd vs (ds.drop i) ks acc env st' fun ks ys st2 => Q (.own (.dK ks ys)) st2,
    ⟨ds.length, by simp, Nat.zero_le _, w1, [], [], [], st1, Le.refl _, x1.trans x2, s2, rfl, upd_same, s1.zfree hD, s1.notcell hD, rfl, by simpa using q1⟩, ?_⟩
  rintro i m Hh ⟨rfl, hi, w', ks, acc, us, st', l, x, s, hlen, hDh, hz, hn, ra, q⟩
  obtain ⟨f1, f2⟩ := fd w' Hh st' l s
  by_cases hlt : i < ds.length
  · obtain ⟨go, yl⟩ := f1 i ds[i] (List.getElem?_eq_getElem hlt)
    rw [List.drop_eq_getElem_cons hlt] at q
    refine .inr ⟨go, fun Hh => ∃ w' ks acc us st', Le w1 w' ∧ Ext w H w' Hh ∧ Sto w' Hh st' ∧ ks.length = us.length ∧ Hh D = some (.dK (ks.zip us)) ∧ w'.Z D = none ∧ D ∉ w'.cl ∧ Reps K w'.cl w'.Z acc us ∧ dDComp gd ttd tkd tvd vs (ds.drop (i + 1)) ks acc env st' fun ks ys st2 => Q (.own (.dK ks ys)) st2,
      fun H' p' => ⟨ds.length - (i + 1), by omega, rfl, hlt, p'⟩, fun v H' y => ?_⟩
    obtain ⟨w2, x2, s2, r2⟩ := yl v H' y
    refine lg H0 w2 (wipe σ vs) H' (wipeE env vs) st' _ v _ _ (slots_wipe (sl.ext (x.trans x2)) vs) s2 r2 q fun σ3 env3 st3 sl3 s3 hw q3 => ?_
    refine ⟨hw.trans (wipe_wipe vs), lt H0 w2 σ3 H' env3 st3 _ _ sl3 s3 q3 fun w4 H4 b st4 x4 s4 q4 => ?_⟩
    have xx := x.trans (x2.trans x4)
    have hD4 : H4 D = some (.dK (ks.zip us)) := (x2.trans x4).kp _ _ hDh hn
    have hz4 := (x2.trans x4).znone (some_ne hDh) hz
    have hn4 := (x2.trans x4).cln (some_ne hDh) hn
    cases b with
    | false =>
      rw [if_neg Bool.false_ne_true] at q4 ⊢
      exact ⟨w4, ks, acc, us, st4, l.trans (x2.trans x4).le, xx, s4, hlen, hD4, hz4, hn4, (x2.trans x4).reps ra, q4⟩
    | true =>
      rw [if_pos rfl] at q4 ⊢
      refine lk H0 w4 σ3 H4 env3 st4 _ _ (sl3.ext x4) s4 q4 fun w5 H5 y d st5 x5 s5 r5 q5 => ?_
      refine lv H0 w5 σ3 H5 env3 st5 _ _ (sl3.ext (x4.trans x5)) s5 q5 fun w6 H6 z d6 st6 x6 s6 r6 q6 => ?_
      obtain ⟨kk, rfl, hz0, q6⟩ := q6
      have ev : y = kV kk := by cases kk <;> exact r5
      subst ev
      have x56 := x5.trans x6
      have hD6 : H6 D = some (.dK (ks.zip us)) := x56.kp _ _ hD4 hn4
      have ra6 := (x2.trans (x4.trans x56)).reps ra
      have hz6 := x56.znone (some_ne hD4) hz4
      have hn6 := x56.cln (some_ne hD4) hn4
      refine ⟨ks.zip us, kk, rfl, hD6, by rw [List.length_zip]; omega, w6, putKs ks kk, putDs ks acc kk d6, putDs ks us kk z, st6, l.trans (x2.trans (x4.trans x56)).le, ext_mut (xx.trans x56) hD0, sto_mut s6 hz6 hn6, putDs_len hlen kk z, ?_, hz6, hn6, reps_putDs kk ra6 r6, q6⟩
      rw [upd_same, putK_zip hlen]
  · have e : i = ds.length := by omega
    subst e
    rw [List.drop_length] at q
    exact .inl ⟨f2, k w' Hh (.ref D) (.own (.dK ks acc)) st' x s ⟨D, rfl, hD0, hz, hn, us, hlen.symm, hDh, ra⟩ q⟩
section
variable {scope : Scope} {ti : TDI} {tkd tvd : TD} {ttd : TDT} {i : Nat}
/-- {k: v for x in e} -/
theorem r_dc (own : List (Str × Nat)) (hN : X.N.Nodup) (hi : DI X (.Name x px) e ti) (hg : ∀ s H C cl fp, PG (Blk X scope s H C cl fp) (.Name x px) (gName i)) (hk : ∀ s H C cl fp, DE (Blk X scope s H C cl fp) kx tkd) (he : ∀ s H C cl fp, DE (Blk X scope s H C cl fp) vx tvd) (ok : BlkOk X.N X.env.scope scope own) (hm : i ∈ own.map (·.2)) (hc : X.calm = true := by rfl) (hs : ∀ x, foldedSetIterable e X.env x = pure x := by intro _; rfl) :
    RE X (.DictComp kx vx [⟨.Name x px, e, [], 0⟩] scope pos) (dDc ti (gdName i) dYes tkd tvd (own.map (·.2))) := by
  obtain ⟨wi, p, l⟩ := hi.ex
  exact ⟨_, pe_dc hc hN p ok hg (fun _ _ _ _ _ => pts_nil) (fun s H C cl fp => (hk s H C cl fp).can) (fun s H C cl fp => (he s H C cl fp).can) hs, lift_dc l (liftc_name hm) lift_yes lift_canE lift_canE⟩
/-- the target a tuple of names -/
theorem r_dcT {es : List Expr} {kt n : Nat} {is : List Nat} (own : List (Str × Nat)) (hN : X.N.Nodup) (hi : DI X (.Tuple es kt px) e ti) (hg : ∀ s H C cl fp, PG (Blk X scope s H C cl fp) (.Tuple es kt px) (gTup X.K n (gNames is))) (hk : ∀ s H C cl fp, DE (Blk X scope s H C cl fp) kx tkd) (he : ∀ s H C cl fp, DE (Blk X scope s H C cl fp) vx tvd) (ok : BlkOk X.N X.env.scope scope own) (hm : ∀ i ∈ is, i ∈ own.map (·.2)) (hc : X.calm = true := by rfl) (hs : ∀ x, foldedSetIterable e X.env x = pure x := by intro _; rfl) :
    RE X (.DictComp kx vx [⟨.Tuple es kt px, e, [], 0⟩] scope pos) (dDc ti (gdTup n (gdNames is)) dYes tkd tvd (own.map (·.2))) := by
  obtain ⟨wi, p, l⟩ := hi.ex
  exact ⟨_, pe_dc hc hN p ok hg (fun _ _ _ _ _ => pts_nil) (fun s H C cl fp => (hk s H C cl fp).can) (fun s H C cl fp => (he s H C cl fp).can) hs, lift_dc l (liftc_tup hm) lift_yes lift_canE lift_canE⟩
end
/-! ### dict(pairs) -/
def mergeKD {α : Type} (ks : List Key) (ds : List α) : List (Key × α) → List Key × List α
  | [] => (ks, ds)
  | p :: r => mergeKD (putKs ks p.1) (putDs ks ds p.1 p.2) r
theorem mergeK_zip : ∀ (more : List (Key × V)) {ks : List Key} {vs : List V}, ks.length = vs.length → mergeK (ks.zip vs) more = (mergeKD ks vs more).1.zip (mergeKD ks vs more).2 ∧ (mergeKD ks vs more).1.length = (mergeKD ks vs more).2.length
  | [], ks, vs, h => ⟨rfl, h⟩
  | p :: r, ks, vs, h => by
    have := mergeK_zip r (putDs_len h p.1 p.2)
    rw [← putK_zip h] at this
    exact this
theorem reps_merge {K : Frag} {cl : List Addr} {Z : Hp} : ∀ {l : List (Key × D)} {m : List (Key × V)}, l.map Prod.fst = m.map Prod.fst → Reps K cl Z (l.map Prod.snd) (m.map Prod.snd) → ∀ {ks : List Key} {ds : List D} {vs : List V}, Reps K cl Z ds vs → (mergeKD ks ds l).1 = (mergeKD ks vs m).1 ∧ Reps K cl Z (mergeKD ks ds l).2 (mergeKD ks vs m).2
  | [], [], _, _, ks, ds, vs, r => ⟨rfl, r⟩
  | [], _ :: _, h, _, ks, ds, vs, r => by simp at h
  | _ :: _, [], h, _, ks, ds, vs, r => by simp at h
  | (k, d) :: l, (k2, v) :: m, h, g, ks, ds, vs, r => by
    simp only [List.map_cons, List.cons.injEq] at h
    obtain ⟨rfl, h⟩ := h
    obtain ⟨v2, r2, e, h1, h2⟩ := (show ∃ v' r', v :: m.map Prod.snd = v' :: r' ∧ Rep K cl Z d v' ∧ Reps K cl Z (l.map Prod.snd) r' from g)
    cases e
    exact reps_merge h h2 (reps_putDs k r h1)
def wDictP : W1 := fun x Q => match x with | .lst ds => ∃ l : List (Key × D), ds = l.map (fun p => .tup [keyD p.1, p.2]) ∧ Q (.dK (mergeKD [] [] l).1 (mergeKD [] [] l).2) | _ => False
theorem pairs_rep {K : Frag} {cl : List Addr} {Z : Hp} : ∀ {l : List (Key × D)} {vs : List V}, Reps K cl Z (l.map fun p => D.tup [keyD p.1, p.2]) vs → ∃ (ps : List Addr) (m : List (Key × V)), vs = ps.map V.ref ∧ l.map Prod.fst = m.map Prod.fst ∧ Reps K cl Z (l.map Prod.snd) (m.map Prod.snd) ∧ Paired (fun p kv => SqT K Z p [kV kv.1, kv.2]) ps m
  | [], vs, r => ⟨[], [], r, rfl, rfl, .nil⟩
  | (k, d) :: l, vs, r => by
    obtain ⟨v, r', rfl, ⟨a, us, rfl, hs, hr⟩, h2⟩ := (show ∃ v r', vs = v :: r' ∧ (∃ a us, v = .ref a ∧ SqT K Z a us ∧ Reps K cl Z [keyD k, d] us) ∧ Reps K cl Z (l.map fun p => D.tup [keyD p.1, p.2]) r' from r)
    obtain ⟨ps, m, rfl, e1, e2, e3⟩ := pairs_rep h2
    obtain ⟨v1, r1, rfl, g1, g2⟩ := (show ∃ v r, us = v :: r ∧ Rep K cl Z (keyD k) v ∧ Reps K cl Z [d] r from hr)
    obtain ⟨v2, r2, rfl, g3, g4⟩ := (show ∃ v r, r1 = v :: r ∧ Rep K cl Z d v ∧ Reps K cl Z [] r from g2)
    rw [show r2 = [] from g4] at hs
    have ev : v1 = kV k := by cases k <;> exact g1
    subst ev
    exact ⟨a :: ps, (k, v2) :: m, rfl, by rw [List.map_cons, List.map_cons, e1], .cons g3 e2, .cons hs e3⟩
theorem r_dictP (hm : X.mg "dict" = none) (ha : DE X e ta) (hg : Gl X "dict" := by rfl) (hc : X.calm = true := by rfl) (h1 : starEach [e] X.env = (false, eval e X.env) :: starEach [] X.env := by rfl) (h2 : (backTo pos (starEach [] X.env)).any (·.1) = false := by rfl) :
    RE X (.Call (.Name "dict" p) [e] [] pos) (dUnR wDictP ta) := r_t1 (call_dictP hc) (by
  intro w H st x v Qd Q' so rx q k
  unfold wDictP at q
  split at q
  · obtain ⟨l, rfl, q⟩ := q
    obtain ⟨a, vs, rfl, ha, r⟩ := rx
    obtain ⟨ps, m, rfl, e1, e2, e3⟩ := pairs_rep r
    have e4 : Paired (fun p kv => SqT X.K H p [kV kv.1, kv.2]) ps m := by
      clear e1 e2 ha r
      induction e3 with
      | nil => exact .nil
      | cons h _ ih => exact .cons (Same.seqT so.sub h) ih
    refine ⟨a, ps, m, rfl, .of (so.sub _ _ ha), e4, fun p hp => ?_⟩
    obtain ⟨g1, g2⟩ := mergeK_zip m (ks := []) (vs := []) rfl
    obtain ⟨g3, g4⟩ := reps_merge (K := X.K) (cl := w.cl) (Z := w.Z) e1 e2 (ks := []) (ds := []) (vs := []) rfl
    rw [show mergeK [] m = mergeK (([] : List Key).zip ([] : List V)) m from rfl, g1]
    obtain ⟨x2, s2⟩ := ext_laid (o := .dK ((mergeKD [] [] m).1.zip (mergeKD [] [] m).2)) so hp
    exact k (.dK (mergeKD [] [] l).1 (mergeKD [] [] l).2) _ _ p x2 s2 hp ⟨(mergeKD [] [] m).2, by rw [g3]; exact g2.symm, by rw [g3]; exact upd_same, g4⟩ (so.zfree hp) (so.notcell hp) q
  · exact q.elim) hm boot_dict ha hg (by decide) (by decide) h1 h2
/-- a deep dict whose items are flat, as one's own -/
def sAsOwn (i : Nat) (t : TDS) : TDS := fun E env st => match env[i]? with
  | some (some (.deep (.dK ks ds))) => D.flats ds = true ∧ t E (env.set i (some (.own (.dK ks ds)))) st
  | _ => False
theorem LiftS.asOwn {K : Frag} {f : TS} {t : TDS} (i : Nat) (h : LiftS K f t) : LiftS K f (sAsOwn i t) := by
  intro w0 H0 w σ H env st D D' r q k
  unfold sAsOwn at q
  split at q
  case h_2 => exact q.elim
  rename_i ks ds he
  obtain ⟨hf, q⟩ := q
  obtain ⟨Ls, S⟩ := r.sl.norm
  obtain ⟨v, hv, hok, hl⟩ := S.ok i _ he
  obtain ⟨a, vs, L', rfl, eL, hn, hlen, hH, ho⟩ := (show ∃ p vs L', v = .ref p ∧ Ls i = p :: L' ∧ p ∉ L' ∧ vs.length = ks.length ∧ H p = some (.dK (ks.zip vs)) ∧ OwnTs K w H ds vs L' from hok)
  obtain ⟨rfl, rs⟩ := ho.flat_reps hf
  have hi : i < env.length := (List.getElem?_eq_some_iff.mp he).1
  refine h w0 H0 w σ H _ st D D' ⟨r.x, r.s, ⟨by rw [List.length_set]; exact S.len, Ls, fun j ev hj => ?_, S.dj⟩⟩ q k
  by_cases e : j = i
  · subst e
    rw [List.getElem?_set_self hi] at hj
    cases hj
    exact ⟨_, hv, ⟨a, rfl, eL, vs, hlen, hH, rs⟩, hl⟩
  · rw [List.getElem?_set_ne (Ne.symm e)] at hj
    exact S.ok j ev hj
theorem DSs.asOwn {rest : List Stmt} {t : TDS} (i : Nat) (h : DSs X rest t) : DSs X rest (sAsOwn i t) := by
  obtain ⟨f, p, l⟩ := h.ex
  exact ⟨f, p, l.asOwn i⟩
theorem DS.asOwn {s : Stmt} {t : TDS} (i : Nat) (h : DS X s t) : DS X s (sAsOwn i t) := by
  obtain ⟨f, p, l⟩ := h.ex
  exact ⟨f, p, l.asOwn i⟩
end
end DL

set_option Elab.async false
set_option linter.all false
set_option maxRecDepth 100000
set_option maxHeartbeats 4000000
/-! DL30: written dicts. -/
namespace DL
open PySem PySem.Spec L2
def dPairs : List (TD × TD) → DEnv → Store → (List (Key × D) → Store → Prop) → Prop
  | [], _, st, Q => Q [] st
  | (tk, tv) :: r, env, st, Q => tk env st fun y st1 => ∃ k, y = keyD k ∧ tv env st1 fun z st2 => dPairs r env st2 fun l st3 => Q ((k, z) :: l) st3
inductive LPs (K : Frag) : List (TE × TE) → List (TD × TD) → Prop where
  | nil : LPs K [] []
  | cons {tk tv : TE} {dk dv : TD} {r : List (TE × TE)} {s : List (TD × TD)} (h1 : LiftE K tk dk) (h2 : LiftE K tv dv) (h3 : LPs K r s) : LPs K ((tk, tv) :: r) ((dk, dv) :: s)
theorem lift_pairs {K : Frag} {trs : List (TE × TE)} {tds : List (TD × TD)} (h : LPs K trs tds) : ∀ {H0 : Hp} {w : Wd} {σ : L2.St} {H : Hp} {env : DEnv} {st : Store} {Q : List (Key × D) → Store → Prop} {Q' : List (V × V) → Hp → Prop}, Slots K H0 w σ H env → Sto w H st → dPairs tds env st Q →
    (∀ w' H' (m : List (Key × V)) (l : List (Key × D)) st', Ext w H w' H' → Sto w' H' st' → l.map Prod.fst = m.map Prod.fst → Reps K w'.cl w'.Z (l.map Prod.snd) (m.map Prod.snd) → Q l st' → Q' (m.map fun kv => (kV kv.1, kv.2)) H') → tPairs trs σ H Q' := by
  induction h with
  | nil => intro H0 w σ H env st Q Q' sl so q k; exact k w H [] [] st (Ext.refl _ _) so rfl rfl q
  | cons h1 h2 _ ih =>
    intro H0 w σ H env st Q Q' sl so q k
    refine h1 H0 w σ H env st _ _ sl so q fun w1 H1 v d st1 x1 s1 r1 q1 => ?_
    obtain ⟨kk, rfl, q1⟩ := q1
    have ev : v = kV kk := by cases kk <;> exact r1
    subst ev
    refine h2 H0 w1 σ H1 env st1 _ _ (sl.ext x1) s1 q1 fun w2 H2 z d2 st2 x2 s2 r2 q2 => ?_
    refine ih (sl.ext (x1.trans x2)) s2 q2 fun w3 H3 m l st3 x3 s3 e1 e2 q3 => ?_
    exact k w3 H3 ((kk, z) :: m) ((kk, d2) :: l) st3 ((x1.trans x2).trans x3) s3 (by rw [List.map_cons, List.map_cons, e1]) (.cons (x3.rep r2) e2) q3
structure DPs (X : Cx) (pos : Pos) (keys : List (Option Expr)) (values : List Expr) (tds : List (TD × TD)) : Prop where ex : ∃ trs, PPs X pos keys values trs ∧ LPs X.K trs tds
section
variable {X : Cx} {k v : Expr} {keys : List (Option Expr)} {values : List Expr} {tds : List (TD × TD)} {tk tv : TD} {pos : Pos}
theorem dp_nil : DPs X pos [] [] [] := ⟨[], pps_nil, .nil⟩
theorem dp_cons (hk : DE X k tk) (hv : DE X v tv) (h : DPs X pos keys values tds) : DPs X pos (some k :: keys) (v :: values) ((tk, tv) :: tds) := by
  obtain ⟨t, p, l⟩ := hk.ex
  obtain ⟨t2, p2, l2⟩ := hv.ex
  obtain ⟨trs, p3, l3⟩ := h.ex
  exact ⟨_, pps_cons p p2 p3, .cons l l2 l3⟩
def dDisp (tds : List (TD × TD)) : TDR := fun env st Q => dPairs tds env st fun l st1 => l.length ≤ 15 ∧ Q (.own (.dK (mergeKD [] [] l).1 (mergeKD [] [] l).2)) st1
theorem r_dictLit (h : DPs X pos keys values tds) (hall : keys.all (·.isSome) = true := by rfl) (hl : keys.length = values.length := by rfl) (h0 : keys ≠ [] := by exact fun z => nomatch z) (h15 : keys.length ≤ 15 := by decide) : RE X (.Dict keys values pos) (dDisp tds) := by
  obtain ⟨trs, p, l⟩ := h.ex
  refine ⟨_, pe_disp p hall hl h0 h15, fun H0 w σ H env st Q Q' sl so q k => fun D hD => ?_⟩
  obtain ⟨x1, s1⟩ := ext_laid (o := .dK []) so hD
  refine lift_pairs l (sl.ext x1) s1 q fun w2 H2 m l st2 x2 s2 e1 e2 q2 => ?_
  have hz := so.zfree hD
  have hn := so.notcell hD
  have hD1 : (upd H D (.dK [])) D = some (.dK []) := upd_same
  have hD2 : H2 D = some (.dK []) := x2.kp _ _ hD1 hn
  have hz2 := x2.znone (some_ne hD1) hz
  have hn2 := x2.cln (some_ne hD1) hn
  have hml : m.length = l.length := by have := congrArg List.length e1; simpa using this.symm
  obtain ⟨g1, g2⟩ := mergeK_zip m (ks := []) (vs := []) rfl
  obtain ⟨g3, g4⟩ := reps_merge (K := X.K) (cl := w2.cl) (Z := w2.Z) e1 e2 (ks := []) (ds := []) (vs := []) rfl
  refine ⟨hD2, m, rfl, by rw [hml]; exact q2.1, ?_⟩
  rw [show mergeK [] m = mergeK (([] : List Key).zip ([] : List V)) m from rfl, g1]
  refine k w2 _ _ (.own (.dK (mergeKD [] [] l).1 (mergeKD [] [] l).2)) st2 (ext_mut (x1.trans x2) hD) (sto_mut s2 hz2 hn2) ⟨D, rfl, hD, hz2, hn2, (mergeKD [] [] m).2, by rw [g3]; exact g2.symm, by rw [g3]; exact upd_same, g4⟩ q2.2
end
end DL
namespace DL
open PySem PySem.Spec L2
theorem hu1 {a b : Nat} (h : a + 64 < b) : a + 1 < b := by omega
section
variable {X : Cx} {a b c : Expr} {tr1 tr2 tr3 : TDR} {pos : Pos}
/-- x, y, z = a, b, c by way of a tuple (one of the names is a cell): the objects stay one's own -/
def sPar3 (i j l : Nat) (t u v : TDR) : TDS := fun D env st => t env st fun e1 st1 => u env st1 fun e2 st2 => v env st2 fun e3 st3 => D.nx (((env.set i (some e1)).set j (some e2)).set l (some e3)) st3
theorem s_par3C (i j l : Nat) {x y z : Str} {px py pz pt pt2 : Pos} {kt k2 : Nat} (hN : X.N.Nodup) (ha : RE X a tr1) (hb : RE X b tr2) (hc : RE X c tr3) (hij : i ≠ j := by decide) (hil : i ≠ l := by decide) (hjl : j ≠ l := by decide)
    (hi : X.N[i]? = some x := by rfl) (hj : X.N[j]? = some y := by rfl) (hl : X.N[l]? = some z := by rfl)
    (hx : Loc X.env.scope x := by first | exact Or.inl rfl | exact Or.inr rfl) (hy : Loc X.env.scope y := by first | exact Or.inl rfl | exact Or.inr rfl) (hz : Loc X.env.scope z := by first | exact Or.inl rfl | exact Or.inr rfl)
    (hcm : X.calm = true := by rfl) (hfx : X.fn x = true ∨ X.env.scope.names.lookup x = some .local := by first | exact .inl rfl | exact .inr rfl | assumption) (hfy : X.fn y = true ∨ X.env.scope.names.lookup y = some .local := by first | exact .inl rfl | exact .inr rfl | assumption) (hfz : X.fn z = true ∨ X.env.scope.names.lookup z = some .local := by first | exact .inl rfl | exact .inr rfl | assumption)
    (hs : swapsWithSole [.Tuple [.Name x px, .Name y py, .Name z pz] kt pt] (.Tuple [a, b, c] k2 pt2) pos.line X.env = pure false := by rfl) (hw : swappedStores [.Tuple [.Name x px, .Name y py, .Name z pz] kt pt] (.Tuple [a, b, c] k2 pt2) X.env = pure none := by rfl)
    (h0 : (assignEach [.Tuple [.Name x px, .Name y py, .Name z pz] kt pt] X.env).map (·.2) = [assign (.Tuple [.Name x px, .Name y py, .Name z pz] kt pt) X.env] := by rfl)
    (h1 : starEach [a, b, c] X.env = (false, eval a X.env) :: starEach [b, c] X.env := by rfl) (h2 : starEach [b, c] X.env = (false, eval b X.env) :: starEach [c] X.env := by rfl) (h3 : starEach [c] X.env = (false, eval c X.env) :: starEach [] X.env := by rfl) :
    DS X (.Assign [.Tuple [.Name x px, .Name y py, .Name z pz] kt pt] (.Tuple [a, b, c] k2 pt2) pos) (sPar3 i j l tr1 tr2 tr3) := by
  obtain ⟨f1, p1, l1⟩ := ha.ex
  obtain ⟨f2, p2, l2⟩ := hb.ex
  obtain ⟨f3, p3, l3⟩ := hc.ex
  refine ⟨_, ps_asg (pe_tup (pa_cons p1 (pa_cons p2 (pa_cons p3 pa_nil h3) h2) h1)) (pg_tup hcm (pgs_cons (pg_name hN hi hx hfx) (pgs_cons (pg_name hN hj hy hfy) (pgs_cons (pg_name hN hl hz hfz) pgs_nil)))) hs hw h0, fun w0 H0 w σ H env st D D' r q k => ?_⟩
  refine l1 H0 w σ H env st _ _ r.sl r.s q fun w1 H1 v1 ev1 st1 x1 s1 rv1 q1 => ?_
  refine l2 H0 w1 σ H1 env st1 _ _ (r.sl.ext x1) s1 q1 fun w2 H2 v2 ev2 st2 x2 s2 rv2 q2 => ?_
  refine l3 H0 w2 σ H2 env st2 _ _ (r.sl.ext (x1.trans x2)) s2 q2 fun w3 H3 v3 ev3 st3 x3 s3 rv3 q3 => ?_
  refine ⟨by show 3 ≤ sizeLine; decide, fun p hp => ?_⟩
  obtain ⟨x4, s4⟩ := ext_frozen (o := .tup [v1, v2, v3]) s3 hp
  refine ⟨p, [v1, v2, v3], rfl, .inl (.inl upd_same), rfl, ?_⟩
  refine ⟨v1, _, rfl, v2, _, rfl, v3, _, rfl, rfl, ?_⟩
  have x123 := (x1.trans x2).trans x3
  refine k.nx _ _ _ _ st3 (x123.trans x4).le ⟨r.x.trans (x123.trans x4), s4, ?_⟩ q3
  obtain ⟨Ls, S⟩ := r.sl.norm
  obtain ⟨L1, g1, m1⟩ := rv1.ok
  obtain ⟨L2, g2, m2⟩ := rv2.ok
  obtain ⟨L3, g3, m3⟩ := rv3.ok
  have y1 := (x2.trans x3).trans x4
  have y2 := x3.trans x4
  obtain ⟨M, SA, hM⟩ := ((S.ext x1).ext y1).put' i (g1.ext m1 y1) (fun p hp => let ⟨a, b⟩ := (m1.ext y1) p hp; ⟨r.x.tr p a, b⟩) fun j hj p hp hm => (S.live hm).2.1 (m1 p hp).1
  obtain ⟨M2, SB, hM2⟩ := SA.put' j (g2.ext m2 y2) (fun p hp => let ⟨a, b⟩ := (m2.ext y2) p hp; ⟨(r.x.trans x1).tr p a, b⟩) fun l hl p hp hm => by
    rcases hM l p hm with h | h
    · exact (m1 p h).2.1 (m2 p hp).1
    · exact ((S.ext x1).live h).2.1 (m2 p hp).1
  obtain ⟨M3, SC, _⟩ := SB.put' l (g3.ext m3 x4) (fun p hp => let ⟨a, b⟩ := (m3.ext x4) p hp; ⟨(r.x.trans (x1.trans x2)).tr p a, b⟩) fun n hn p hp hm => by
    rcases hM2 n p hm with h | h
    · exact (m2 p h).2.1 (m3 p hp).1
    · rcases hM n p h with h | h
      · exact ((m1.ext x2) p h).2.1 (m3 p hp).1
      · exact (((S.ext x1).ext x2).live h).2.1 (m3 p hp).1
  exact SC.slots
end
end DL

set_option Elab.async false
set_option linter.all false
set_option maxRecDepth 100000
set_option maxHeartbeats 4000000
/-! DL31: sorted(set(texts)). -/
namespace TX
open PySem PySem.Spec PyProof.Rows PySem.Froz L2
section
variable {P : Program} {w : World} {A : Around} {E : Value → Shared → Prop} {s : Shared}
/-- the order of the payload is known -/
structure Ord (w : World) (D : SD) : Prop where
  r : Ris D.2.2.place.toList
  l : w.params.followText "set-order" = true ∨ D.2.2.led = true
theorem ord_add {D : SD} (h : Int) (v : Value) (o : Ord w D) : Ord w (addTx h v D) := by
  obtain ⟨es, ep, t⟩ := D
  have a1 := layNew_ris t es h v o.r
  have a2 := layNew_led t es h v
  have hl : w.params.followText "set-order" = true ∨ (layNew t es h v).2.1.led = true := by rw [a2]; exact o.l
  show Ord w (tailTx ep (layNew t es h v).1 (if (layNew t es h v).2.1.plain = true then { (layNew t es h v).2.1 with plain := false } else (layNew t es h v).2.1) (layNew t es h v).2.2.1)
  generalize layNew t es h v = L at a1 hl
  obtain ⟨es1, t1, wd, gv⟩ := L
  have b : Ris (if t1.plain = true then { t1 with plain := false } else t1).place.toList ∧ (w.params.followText "set-order" = true ∨ (if t1.plain = true then { t1 with plain := false } else t1).led = true) := by
    split
    · exact ⟨a1, hl⟩
    · exact ⟨a1, hl⟩
  dsimp only at b ⊢
  generalize (if t1.plain = true then { t1 with plain := false } else t1) = t2 at b
  unfold tailTx
  split
  · exact ⟨relayAll_ris _ _ _, by show _ ∨ (relayAll t2 es1 _).2.1.led = true; rw [relayAll_led]; exact b.2⟩
  · exact b.elim fun x y => ⟨x, y⟩
/-- a text that is in already -/
theorem add_old {a : Addr} {T : String} {D : SD} {l : List Str} {k : Str} {u : Tok} {Q : Bool → Shared → Prop} (ho : s.heap.get? a = some (sObj T D)) (F : TxOk P w D l) (hk : k ∈ l) (hb : l.length < scanBound) (h : Q false s) :
    wpAny (model P w) A (setAddHashed a (.str k u) (hashStr w k)) Q E s := by
  obtain ⟨es, ep, t⟩ := D
  have e1 : (sObj T (es, ep, t)).data = .set es ep t := rfl
  have e2 : t.fits es.size = true := F.fit
  have e3 : ElemsOf (strKind P w) es.toList := F.el
  have e4 : es.size < scanBound := by rw [show es.size = l.length from F.sz]; exact hb
  have e5 : (strKind P w).is k (.str k u) = true := is_str k u
  obtain ⟨e, he, z⟩ := (F.mem k).mp hk
  obtain ⟨j, hj⟩ : ∃ j, List.findIdx? (fun e => (strKind P w).is k e.2) es.toList = some j := by
    cases hr : List.findIdx? (fun e => (strKind P w).is k e.2) es.toList with
    | some j => exact ⟨j, rfl⟩
    | none =>
      have := List.findIdx?_eq_none_iff.mp hr e he
      rw [z] at this; cases this
  unfold setAddHashed setAddHashedIn
  refine wpAny_holding (wpAny_bind (wpAny_setState_of ho e1 e2 ?_)); dsimp only
  rw [byScan_of rfl e4 e3]; simp only [↓reduceIte]
  unfold setAddByScan
  refine wpAny_bind (wpAny_bind (wpAny_rule (wpAny_bind (wpAny_setScan_of (knd := strKind P w) (k := k) e5 ho e1 e2 e3 ?_))))
  rw [hj]; dsimp only
  first
    | exact wpAny_pure (wpAny_pure h)
    | exact wpAny_pure h
def ins (l : List Str) (x : Str) : List Str := if x ∈ l then l else x :: l
def insAll (xs : List Str) : List Str := xs.foldl ins []
theorem ins_len (l : List Str) (x : Str) : (ins l x).length ≤ l.length + 1 := by unfold ins; split <;> simp <;> omega
theorem insAll_snoc (xs : List Str) (x : Str) : insAll (xs ++ [x]) = ins (insAll xs) x := by unfold insAll; rw [List.foldl_append]; rfl
theorem foldl_ins_len : ∀ (xs l : List Str), (xs.foldl ins l).length ≤ l.length + xs.length
  | [], l => by simp
  | x :: xs, l => by
    have h1 := foldl_ins_len xs (ins l x)
    have h2 := ins_len l x
    rw [List.foldl_cons, List.length_cons]; omega
theorem insAll_len (xs : List Str) : (insAll xs).length ≤ xs.length := by have := foldl_ins_len xs []; simpa [insAll] using this
theorem foldl_ins_mem (y : Str) : ∀ (xs l : List Str), y ∈ xs.foldl ins l ↔ y ∈ l ∨ y ∈ xs
  | [], l => by simp
  | x :: xs, l => by
    rw [List.foldl_cons, foldl_ins_mem y xs (ins l x), List.mem_cons]
    unfold ins
    split
    · rename_i h
      constructor
      · rintro (a | a)
        · exact .inl a
        · exact .inr (.inr a)
      · rintro (a | rfl | a)
        · exact .inl a
        · exact .inl h
        · exact .inr a
    · rw [List.mem_cons]
      constructor
      · rintro ((a | a) | a)
        · exact .inr (.inl a)
        · exact .inl a
        · exact .inr (.inr a)
      · rintro (a | a | a)
        · exact .inl (.inr a)
        · exact .inl (.inl a)
        · exact .inr a
theorem insAll_mem (y : Str) (xs : List Str) : y ∈ insAll xs ↔ y ∈ xs := by rw [insAll, foldl_ins_mem]; simp
theorem foldl_ins_nodup : ∀ (xs l : List Str), l.Nodup → (xs.foldl ins l).Nodup
  | [], l, h => h
  | x :: xs, l, h => by
    refine foldl_ins_nodup xs (ins l x) ?_
    unfold ins
    split
    · exact h
    · rename_i hx; exact List.nodup_cons.mpr ⟨hx, h⟩
theorem insAll_nodup (xs : List Str) : (insAll xs).Nodup := foldl_ins_nodup xs [] List.nodup_nil
def TxAt (P : Program) (w : World) (h : Heap) (a : Addr) (l : List Str) : Prop := ∃ D : SD, h.get? a = some (sObj "set" D) ∧ TxOk P w D l ∧ Ord w D
theorem TxAt.at_ {h h' : Heap} {a : Addr} {l : List Str} (t : TxAt P w h a l) (k : ∀ o, h.get? a = some o → h'.get? a = some o) : TxAt P w h' a l := by
  obtain ⟨D, e, r⟩ := t
  exact ⟨D, k _ e, r⟩
theorem loop_tx {R : Result → Shared → Prop} {I : Addr} {fp wr : List Addr} {G : Array GenState → Array GenState → Prop} {n : Nat} {Pv : Nat → Value → Prop} {St : Nat → Shared → Prop} (W : WalksS P w A.in1 I fp wr G n Pv St) (S : Addr) (hS : S ∉ fp) (xs : List Str) (hn : xs.length = n)
    (hval : ∀ i v, Pv i v → ∃ x t, xs[i]? = some x ∧ v = Value.str x t) (hb : n + 1 < scanBound) : ∀ (k i : Nat) (s : Shared), n - i = k → i ≤ n → St i s → TxAt P w s.heap S (insAll (xs.take i)) →
      (∀ s', Moved (S :: wr) G s s' → TxAt P w s'.heap S (insAll xs) → R (.ok (.ret .none)) s') → codeAny (model P w) A (.builtin "set.update.loop" ⟨[.ref S, .ref I], []⟩) R s := by
  have hSw : S ∉ wr := fun z => hS (W.sub _ z)
  have up : ∀ b ∈ wr, b ∈ S :: wr := fun b z => List.mem_cons_of_mem _ z
  intro k
  induction k with
  | zero =>
    intro i s hk hi st T hR
    obtain rfl : i = n := by omega
    refine codeAny_builtin PyProof.Rows.F.entry_set_update_loop ?_; rw [Around.under_plainId PyProof.Rows.F.plain_set_update_loop _]
    show wpAny _ A.in1 (pyNext (.ref I) >>= _) _ _ s
    refine wpAny_bind (W.done s _ _ st fun s' m => ?_); show wpAny _ A.in1 (ret Value.none) _ _ s'
    refine wpAny_pure (hR s' (m.mono up) (TxAt.at_ ?_ fun o e => m.heap S _ hSw e))
    rw [← hn, List.take_length] at T; exact T
  | succ k ih =>
    intro i s hk hi st T hR
    have lt : i < n := by omega
    refine codeAny_builtin PyProof.Rows.F.entry_set_update_loop ?_; rw [Around.under_plainId PyProof.Rows.F.plain_set_update_loop _]
    show wpAny _ A.in1 (pyNext (.ref I) >>= _) _ _ s
    refine wpAny_bind (W.item i s _ _ lt st fun v s' hv st' m => ?_)
    obtain ⟨x, t, hx, rfl⟩ := hval i v hv
    obtain ⟨D, ho, F, O⟩ := T.at_ fun o e => m.heap S _ hSw e
    have hl : (insAll (xs.take i)).length + 1 < scanBound := by
      have := insAll_len (xs.take i)
      rw [List.length_take] at this; omega
    have et : insAll (xs.take (i + 1)) = ins (insAll (xs.take i)) x := by rw [← insAll_snoc, List.take_add_one, hx]; rfl
    show wpAny _ A.in1 (holding [Value.str x t] (setAdd S (.str x t)) >>= _) _ _ s'
    refine wpAny_bind (wpAny_holding ?_); unfold setAdd; refine wpAny_holding ?_
    refine wpAny_bind ((strKind P w).pyHash (is_str x t) ?_)
    by_cases c : x ∈ insAll (xs.take i)
    · refine add_old (s := { s' with toks := s'.toks + 1 }) ho F c (by omega) ?_
      refine wpAny_pure ⟨plainId_quiet PyProof.Rows.F.plain_set_update_loop _, ih (i + 1) _ (by omega) lt (W.frame _ s' _ _ st' (Nat.le_succ _) fun _ _ _ e => e) (by rw [et, ins, if_pos c]; exact ⟨D, ho, F, O⟩) fun s2 m2 T2 => ?_⟩
      exact hR s2 (Moved.trans W.gtrans ((m.mono up).then_heap (Nat.le_succ _) fun _ _ _ e => e) m2) T2
    · refine add_x (s := { s' with toks := s'.toks + 1 }) ho F c hl ?_
      have ho2 := Heap.get?_update_self (h := s'.heap) (fun _ => sObj "set" (addTx (hashStr w x) (.str x t) D)) ho rfl
      have other : ∀ b o, b ≠ S → s'.heap.get? b = some o → (s'.heap.update S (fun _ => sObj "set" (addTx (hashStr w x) (.str x t) D))).get? b = some o := fun b o hb e => (Heap.get?_update_other _ _ (Ne.symm hb)).trans e
      refine wpAny_pure ⟨plainId_quiet PyProof.Rows.F.plain_set_update_loop _, ih (i + 1) _ (by omega) lt (W.frame _ s' _ _ st' (Nat.le_succ _) fun b hb o e => other b o (fun z => hS (by rw [← z]; exact hb)) e) (by rw [et, ins, if_neg c]; exact ⟨_, ho2, add_ok t F, ord_add _ _ O⟩) fun s2 m2 T2 => ?_⟩
      exact hR s2 (Moved.trans W.gtrans ((m.mono up).then_heap (Nat.le_succ _) fun b o hb e => other b o (fun z => hb (by rw [z]; exact List.mem_cons_self)) e) m2) T2
theorem new_set1 (x : Value) {Q₁ : Value → Shared → Prop} (h : Q₁ (.ref s.heap.objs.size) { s with heap := s.heap.push (sObj "set" (#[], 0, .fresh 0 0 (!w.params.followText "set-order"))) }) :
    codeAny (model P w) A (.call (.builtin "set.__new__") ⟨[.type "set", x], []⟩) (wants Q₁ E) s := by
  refine codeAny_of_tree ?_
  show wpAny _ A.in1 (checkBuiltinCall "set.__new__" ⟨[.type "set", x], []⟩ >>= fun _ => again (.builtin "set.__new__" ⟨[.type "set", x], []⟩)) _ _ s
  refine wpAny_bind (wpAny_of_eq (PySem.F.newCall_set_1 x) (wpAny_pure ⟨plainId_quiet PySem.F.plain_set_new _, codeAny_builtin PySem.F.entry_set_new ?_⟩))
  rw [Around.under_plainId PySem.F.plain_set_new _]; unfold Builtin.«set.__new__» Builtin.Frozenset.newClass
  have self := sub_set_self
  obtain ⟨h0, g0, d0, t0, o0⟩ := s; dsimp only
  wp_walk
  refine wpAny_askSetting (wpAny_pure ?_); dsimp only; simp only [newObj]
  exact wpAny_bind (wpAny_alloc (wpAny_pure (wpAny_pure h)))
theorem set_of_list {l : Addr} {items : Array Value} (xs : List Str) {Q : Value → Shared → Prop} (hh : A.handled = none) (hl : s.heap.IsList l items) (hn : xs.length = items.size) (hi : ∀ (i : Nat) (v : Value), items[i]? = some v → ∃ (x : Str) (t : Tok), xs[i]? = some x ∧ v = Value.str x t) (hb : items.size + 1 < scanBound)
    (h : ∀ (h' : Heap) (tk : Nat), TxAt P w h' s.heap.objs.size (insAll xs) → (∀ b o, b < s.heap.objs.size → s.heap.get? b = some o → h'.get? b = some o) → Q (.ref s.heap.objs.size) { s with heap := h', toks := tk }) :
    wpAny (model P w) A (call (.type "set") [.ref l]) Q E s := by
  obtain ⟨c0, c1, c2⟩ := PySem.F.called_set.mro
  have m1 := PySem.F.called_set.made; have m2 := PySem.F.called_set.sub
  refine wpAny_call (codeAny_of_tree ?_); show wpAny _ _ (callAny (.type "set") _) _ _ _
  refine wpAny_pure ⟨Code.quiet_builtin _ (by decide +kernel), codeAny_builtin PySem.F.entry_type_call ?_⟩
  rw [Around.under_plain (weight_type_call_type "set" [.ref l] []) rfl]
  have m3 := PySem.F.called_set.notType; have m4 := PySem.F.called_set.canCreate; have m5 := PySem.F.typeCall_set_1 (.ref l)
  repeat (any_goals (first | assumption | wp_step))
  refine codeAny_mono (new_set1 (.ref l) (E := E) (Q₁ := fun y s1 => y = .ref s.heap.objs.size ∧ s1 = { s with heap := s.heap.push (sObj "set" (#[], 0, .fresh 0 0 (!w.params.followText "set-order"))) }) ⟨rfl, rfl⟩) fun r s1 hr => ?_
  cases r with
  | error e => exact hr
  | ok fl =>
    cases fl with
    | ret y =>
      obtain ⟨rfl, rfl⟩ := hr
      have gS : (s.heap.push { cls := .type "set", data := .set #[] 0 (.fresh 0 0 (!w.params.followText "set-order")) }).get? s.heap.objs.size = some { cls := .type "set", data := .set #[] 0 (.fresh 0 0 (!w.params.followText "set-order")) } := Heap.get?_push_size _ rfl
      have tS : Shared.TypeIs { s with heap := s.heap.push { cls := .type "set", data := .set #[] 0 (.fresh 0 0 (!w.params.followText "set-order")) } } (.ref s.heap.objs.size) "set" := ⟨_, gS, rfl⟩
      have n1 := PySem.F.called_set.init.lookup; have n2 := PySem.F.called_set.init.bind (.ref s.heap.objs.size)
      repeat (any_goals (first | assumption | wp_step))
      refine codeAny_mono (codeAny_call_builtin (R := wants (fun r s2 => r = .none ∧ ∃ h' tk, s2 = { s with heap := h', toks := tk } ∧ TxAt P w h' s.heap.objs.size (insAll xs) ∧ (∀ b o, b < s.heap.objs.size → s.heap.get? b = some o → h'.get? b = some o)) E) PySem.F.called_set.init.plain PySem.F.entry_set_init (PySem.check_set_init_1 tS ?_)) fun r2 s2 hr2 => ?_
      · obtain ⟨ol, gl, cl, nl, dl⟩ := hl
        obtain ⟨kc, kd, kt, ks⟩ := ol
        simp only at cl dl; subst cl; subst dl
        have gl1 : (s.heap.push { cls := .type "set", data := .set #[] 0 (.fresh 0 0 (!w.params.followText "set-order")) }).get? l = some { cls := .type "list", dict := kd, data := .seq items nl, slots := ks } := Heap.get?_push_of_some _ gl
        have z1 := PySem.F.sub_list_set; have z2 := PySem.F.sub_list_frozenset
        have z3 : (Value.type "list" == Value.type "dict") = false := by decide
        have L1 : (s.heap.push { cls := .type "set", data := .set #[] 0 (.fresh 0 0 (!w.params.followText "set-order")) }).IsList l items := ⟨_, gl1, rfl, nl, rfl⟩
        unfold Builtin.«set.__init__» noKeywords Builtin.Frozenset.updateFrom
        generalize hP : pyIter = PI
        wp_walk
        subst hP
        refine wpAny_pyIter_list L1 ?_; refine wpAny_bind (wpAny_runValue ?_)
        have lS : l < s.heap.objs.size := Heap.lt_size gl
        have h3 : A.in1.in1.in1.handled = none := by simp [hh]
        have nI : l ≠ (s.heap.push { cls := .type "set", data := .set #[] 0 (.fresh 0 0 (!w.params.followText "set-order")) }).objs.size := by rw [Heap.size_push]; exact Nat.ne_of_lt (Nat.lt_succ_of_lt lS)
        have nS : s.heap.objs.size ∉ [(s.heap.push { cls := .type "set", data := .set #[] 0 (.fresh 0 0 (!w.params.followText "set-order")) }).objs.size, l] := by rw [Heap.size_push, List.mem_cons, List.mem_singleton, not_or]; exact ⟨Nat.ne_of_lt (Nat.lt_succ_self _), Nat.ne_of_gt lS⟩
        refine loop_tx ((Walks.list h3 _ l nI items).toS) s.heap.objs.size nS xs hn hi hb (items.size - 0) 0 _ (by omega) (Nat.zero_le _) ⟨⟨_, Heap.get?_push_size _ rfl, rfl, rfl⟩, (L1.push _)⟩ ?goS ?goR
        case goS =>
          refine ⟨(#[], 0, .fresh 0 0 (!w.params.followText "set-order")), Heap.get?_push_of_some _ gS, TxOk.nil rfl, List.Pairwise.nil, ?_⟩
          show _ ∨ (!w.params.followText "set-order") = true
          cases w.params.followText "set-order"
          · exact .inr rfl
          · exact .inl rfl
        case goR =>
          intro s' m T
          obtain ⟨h', g', d', tk', os'⟩ := s'
          obtain rfl : g' = s.gens := m.gens
          obtain rfl : d' = s.drawn := m.drawn
          obtain rfl : os' = s.os := m.os
          show wpAny _ _ _ _ _ _; refine wpAny_pure ?_
          show wpAny _ _ (ret Value.none) _ _ _; refine wpAny_pure ⟨rfl, h', tk', rfl, T, fun b o hb e => ?_⟩
          exact m.heap b o (by rw [List.mem_cons, List.mem_singleton, not_or, Heap.size_push]; exact ⟨Nat.ne_of_lt hb, Nat.ne_of_lt (Nat.lt_succ_of_lt hb)⟩) (Heap.get?_push_of_some _ (Heap.get?_push_of_some _ e))
      · cases r2 with
        | error e => exact hr2
        | ok f2 =>
          cases f2 with
          | ret r =>
            obtain ⟨rfl, h', tk, rfl, T, old⟩ := hr2
            repeat (any_goals (first | assumption | wp_step))
            exact h _ _ T old
          | _ => exact hr2.elim
    | _ => exact hr.elim
end
end TX

set_option Elab.async false
set_option linter.all false
set_option maxRecDepth 100000
set_option maxHeartbeats 4000000
/-! DL32: sorted of a set of texts. -/
namespace TX
open PySem PySem.Spec PyProof.Rows PySem.Froz L2
theorem perm_of {α : Type} [DecidableEq α] : ∀ (l xs : List α), l.Nodup → (∀ x ∈ l, x ∈ xs) → xs.length = l.length → xs.Perm l
  | [], xs, _, _, h => by rw [List.eq_nil_of_length_eq_zero h]
  | x :: l, xs, hn, hm, h => by
    obtain ⟨a, b, rfl⟩ := List.append_of_mem (hm x List.mem_cons_self)
    obtain ⟨h1, h2⟩ := List.nodup_cons.mp hn
    have := perm_of l (a ++ b) h2 (fun y hy => by
      have hne : y ≠ x := fun z => h1 (z ▸ hy)
      rcases List.mem_append.mp (hm y (List.mem_cons_of_mem _ hy)) with z | z
      · exact List.mem_append_left _ z
      · rcases List.mem_cons.mp z with z | z
        · exact absurd z hne
        · exact List.mem_append_right _ z) (by simp at h ⊢; omega)
    exact List.perm_middle.trans (this.cons x)
section
variable {P : Program} {w : World} {A : Around} {E : Value → Shared → Prop} {s : Shared}
theorem strs_ex : ∀ vs : List Value, (∀ v ∈ vs, ∃ x t, v = Value.str x t) → ∃ xs, StrsAre vs xs ∧ xs.length = vs.length ∧ ∀ x, x ∈ xs ↔ ∃ t, Value.str x t ∈ vs
  | [], _ => ⟨[], .nil, rfl, fun x => by simp⟩
  | v :: vs, h => by
    obtain ⟨x, t, rfl⟩ := h v List.mem_cons_self
    obtain ⟨xs, h1, h2, h3⟩ := strs_ex vs fun u hu => h u (List.mem_cons_of_mem _ hu)
    refine ⟨x :: xs, .cons _ _ h1, by simp [h2], fun y => ?_⟩
    rw [List.mem_cons, h3 y]
    constructor
    · rintro (rfl | ⟨u, hu⟩)
      · exact ⟨t, List.mem_cons_self⟩
      · exact ⟨u, List.mem_cons_of_mem _ hu⟩
    · rintro ⟨u, hu⟩
      rcases List.mem_cons.mp hu with z | z
      · cases z; exact .inl rfl
      · exact .inr ⟨u, z⟩
theorem sorted_tx {a : Addr} {l : List Str} {Q : Value → Shared → Prop} (T : TxAt P w s.heap a l) (hnd : l.Nodup) (h64 : l.length < 64) (hh : A.handled = none)
    (hQ : ∀ s' p (out : List Value) (c : Nat) (ys : List Str), (∀ b o, s.heap.get? b = some o → s'.heap.get? b = some o) → s'.gens = s.gens → s'.os = s.os → s.heap.objs.size ≤ p → s'.heap.get? p = some (seqObj "list" out.toArray c) → StrsAre out ys → ys.Perm l → sortedS ys = true → Q (.ref p) s') :
    wpAny (model P w) A (call (.builtin "sorted") [.ref a]) Q E s := by
  obtain ⟨⟨es, ep, t⟩, ho, F, O⟩ := T
  have hsz : es.size = l.length := F.sz
  refine Calls.call_function_entry PyProof.Rows.kind_sorted PyProof.Rows.plain_sorted PyProof.Rows.entry_sorted (PyProof.Rows.args_sorted1 _) ?_; unfold Builtin.«sorted»
  refine wpAny_bind (m := checkCount "sorted" 1 1 _) (wpAny_pure (wpAny_bind (collect_set (A := A.in1) (ep := ep) hh ⟨_, ho, rfl, rfl⟩ F.fit (by rw [hsz]; exact Nat.lt_trans h64 (by decide)) O.r O.l fun s1 vs k1 hz g1 o1 pm => ?_)))
  have str : ∀ v ∈ vs, ∃ x t, v = Value.str x t := fun v hv => by
    obtain ⟨e, he, rfl⟩ := List.mem_map.mp (pm.mem_iff.mp hv)
    obtain ⟨⟨k, hk, _⟩, _⟩ := F.el e he
    obtain ⟨u, hu⟩ := Value.isStrOf_shape (x := k) (v := e.2) hk
    exact ⟨k, u, hu⟩
  obtain ⟨xs, hS, hxl, hxm⟩ := strs_ex vs str
  have hvl : vs.length = l.length := by rw [pm.length_eq, List.length_map, Array.length_toList]; exact hsz
  have pl : xs.Perm l := perm_of l xs hnd (fun x hx => by
    obtain ⟨e, he, hk⟩ := (F.mem x).mp hx
    obtain ⟨u, hu⟩ := Value.isStrOf_shape (x := x) (v := e.2) hk
    exact (hxm x).mpr ⟨u, by rw [← hu]; exact pm.mem_iff.mpr (List.mem_map_of_mem he)⟩) (by rw [hxl, hvl])
  refine wpAny_bind (wpAny_newList ?_ (by rw [hvl, sizeLine_eq]; omega))
  have gL : (s1.heap.push (seqObj "list" vs.toArray 0)).get? s1.heap.objs.size = some (seqObj "list" vs.toArray 0) := Heap.get?_push_size _ rfl
  refine wpAny_bind (wpAny_holding (wpAny_call_entry PyProof.Rows.slot_list_sort ⟨_, gL, rfl⟩ PyProof.Rows.entry_list_sort
    (list_sort_treeK strKind_oneLt (s := { s1 with heap := s1.heap.push (seqObj "list" vs.toArray 0) }) gL hS.keysOf (fun v₁ v₂ rest e => keyKind_strs (by rw [← e]; exact hS)) (by rw [hvl]; exact h64) fun st' hp hs => ⟨_, rfl, ?_⟩) (PyProof.Rows.args_list_sort _)))
  obtain ⟨ys, q1, q2, q3⟩ := sorted_out_str hS hp hs
  obtain ⟨c, hc⟩ := PyProof.Rows.sortedHeap_at (vs := vs) (out := (arrOf st').map (·.2)) gL
  refine wpAny_pure ⟨_, rfl, hQ _ s1.heap.objs.size _ c ys (fun b o e => ?_) g1 o1 hz (by rw [Array.toArray_toList]; exact hc) q1 (q2.trans pl) q3⟩
  have e1 := k1 b o e
  have lt := Heap.lt_size e1
  rw [PyProof.Rows.sortedHeap_old (Nat.ne_of_lt lt) (by rw [size_push']; exact Nat.lt_succ_of_lt lt)]; exact Heap.get?_push_of_some _ e1
end
end TX

set_option Elab.async false
set_option linter.all false
set_option maxRecDepth 100000
set_option maxHeartbeats 4000000
/-! DL33: sorted(set(texts)) on data. -/
namespace TX
open PySem PySem.Spec PyProof.Rows PySem.Froz L2
def SetTx (P : Program) (w : World) (a : Addr) (l : List Str) : HO := .ext fun h => TxAt P w h a l
section
variable {X : Cx}
theorem setTx_new {w : World} {P : Program} {H : Hp} {h : Heap} {a : Addr} {l : List Str} (T : TxAt P w h a l) : ObjOk P w H h a (SetTx P w a l) := by
  have ⟨D, ho, _⟩ := T
  exact ⟨T, ⟨_, ho⟩, fun _ _ p k => TxAt.at_ p k⟩
def rSetTx (X : Cx) : List V → Hp → VK → Prop := fun xs H Q => ∃ (p : Addr) (ys : List Str), xs = [.ref p] ∧ SqL X.K H p (ys.map V.str) ∧ ys.length < 100 ∧ ∀ q, H q = none → Q (.ref q) (upd H q (SetTx X.prog X.w q (insAll ys)))
theorem strs_get {ys : List Str} {us : List Value} (h : Vals (ys.map V.str) us) : ys.length = us.length ∧ ∀ (i : Nat) (v : Value), us[i]? = some v → ∃ (x : Str) (t : Tok), ys[i]? = some x ∧ v = Value.str x t := by
  induction ys generalizing us with
  | nil => cases h; exact ⟨rfl, fun i v z => by simp at z⟩
  | cons y ys ih =>
    cases h with
    | cons h1 h2 =>
      obtain ⟨t, rfl⟩ := h1
      obtain ⟨a, b⟩ := ih h2
      refine ⟨by simp [a], fun i v z => ?_⟩
      cases i with
      | zero => simp at z; exact ⟨y, t, rfl, z.symm⟩
      | succ i => simpa using b i v (by simpa using z)
theorem cr_setTx (hc : X.calm = true) : CallR X (.type "set") (rSetTx X) := by
  intro pins s σ H xs us Q I r h
  obtain ⟨p, ys, rfl, hq, hl, q⟩ := h
  obtain ⟨u, rfl, rx⟩ := vals1 r
  cases rx
  obtain ⟨its, rv, pl, hz⟩ := I.list hq
  obtain ⟨g1, g2⟩ := strs_get rv
  have hroom : its.toArray.size + 1 < scanBound := by
    have e1 : its.toArray.size = its.length := by simp
    have e2 : scanBound = 4096 := rfl
    omega
  refine set_of_list ys (I.ok.hd hc) pl.isList (by simpa using g1) (fun i v z => g2 i v (by simpa using z)) hroom fun h' tk T old => ?_
  exact ⟨.ref s.heap.objs.size, _, I.laid (t' := tk) (fun b o e => old b o (Heap.lt_size e) e) (Nat.le_refl _) (setTx_new T), rfl, q _ (I.hok.fresh (Nat.le_refl _))⟩
def rSortTx (X : Cx) : List V → Hp → VK → Prop := fun vs H Q => ∃ (a : Addr) (l : List Str), vs = [V.ref a] ∧ H a = some (SetTx X.prog X.w a l) ∧ l.Nodup ∧ l.length < 64 ∧ ∀ (ys : List Str) (p : Addr), ys.Perm l → sortedS ys = true → H p = none → Q (.ref p) (upd H p (.lst (ys.map V.str)))
theorem cr_sortTx (hc : X.calm = true) : CallR X (.builtin "sorted") (rSortTx X) := by
  intro pins s σ H vs us Q I r h
  obtain ⟨a, l, rfl, ha, hnd, h64, q⟩ := h
  have T : TxAt X.prog X.w s.heap a l := (I.hok a _ ha).1
  rw [Vals.ref1 r]
  refine sorted_tx T hnd h64 (I.ok.hd hc) fun s' p out c ys k g o hp hg hi hs hm => ?_
  have len : (ys.map V.str).length ≤ sizeLine := by rw [List.length_map, hs.length_eq, sizeLine_eq]; omega
  have free : H p = none := I.hok.fresh hp
  have J : Inv X pins σ (upd H p (.lst (ys.map V.str))) { s with heap := s'.heap, gens := s'.gens, drawn := s'.drawn, toks := s'.toks } :=
    I.call (ch := []) (Un.laid k hp free) (I.hok.laid k hp ⟨len, out, c, vals_of_strs hi, hg⟩) (by rw [g]; exact I.bare) (fun _ z => nomatch z)
  have e : s' = { s with heap := s'.heap, gens := s'.gens, drawn := s'.drawn, toks := s'.toks } := by
    obtain ⟨b1, b2, b3, b4, b5⟩ := s'; obtain ⟨c1, c2, c3, c4, c5⟩ := s; cases o; rfl
  rw [e]
  exact ⟨.ref p, _, J, rfl, q ys p hs hm free⟩
end
end TX
namespace DL
open PySem PySem.Spec L2 TX
def wSortedSet : W1 := fun x Q => match x with | .lst ds => ∃ ss : List Str, ds = ss.map D.str ∧ ss.length < 60 ∧ ∀ ys : List Str, ys.Perm (insAll ss) → PyProof.Rows.sortedS ys = true → Q (.lst (ys.map D.str)) | _ => False
theorem boot_set : bootBuiltins "set" = some (.type "set") := by decide +kernel
theorem r_sortedSet {X : Cx} {e : Expr} {p p2 pos pos2 : Pos} {ta : TD} (hm : X.mg "sorted" = none) (hm2 : X.mg "set" = none) (ha : DE X e ta) (hg : Gl X "sorted" := by rfl) (hg2 : Gl X "set" := by rfl) (hc : X.calm = true := by rfl)
    (h1 : starEach [Expr.Call (.Name "set" p2) [e] [] pos2] X.env = (false, eval (Expr.Call (.Name "set" p2) [e] [] pos2) X.env) :: starEach [] X.env := by rfl) (h2 : (backTo pos (starEach [] X.env)).any (·.1) = false := by rfl)
    (h3 : starEach [e] X.env = (false, eval e X.env) :: starEach [] X.env := by rfl) (h4 : (backTo pos2 (starEach [] X.env)).any (·.1) = false := by rfl) :
    RE X (.Call (.Name "sorted" p) [.Call (.Name "set" p2) [e] [] pos2] [] pos) (dUnR wSortedSet ta) := by
  obtain ⟨t, pe, l⟩ := ha.ex
  refine ⟨_, pe_callB (cr_sortTx hc) hg hm boot_sorted (pa_cons (pe_callTy (cr_setTx hc) hg2 hm2 boot_set (pa_cons pe pa_nil h3) (by decide) (by decide) h3 h4) pa_nil h1) (by decide) (by decide) h1 h2, fun H0 w σ H env st Q Q' sl so q k => ?_⟩
  refine l H0 w σ H env st _ _ sl so q fun w1 H1 v d st1 x1 s1 r1 q1 => ?_
  unfold wSortedSet at q1
  split at q1
  · obtain ⟨ss, rfl, hl, q1⟩ := q1
    obtain ⟨a, vs, rfl, ha, rs⟩ := r1
    obtain rfl := Reps.strs_of rs
    refine ⟨a, ss, rfl, .of (s1.sub _ _ ha), by omega, fun S hS => ?_⟩
    refine ⟨S, insAll ss, rfl, upd_same, insAll_nodup ss, by have := insAll_len ss; omega, fun ys y hp hs hy => ?_⟩
    obtain ⟨x2, s2⟩ := ext_laid (o := SetTx X.prog X.w S (insAll ss)) s1 hS
    obtain ⟨x3, s3⟩ := ext_laid (o := .lst (ys.map V.str)) s2 hy
    have hy0 := (x1.trans x2).tr y hy
    exact k w1 _ _ (.own (.lst (ys.map D.str))) st1 ((x1.trans x2).trans x3) s3 ⟨y, rfl, hy0, s2.zfree hy, s2.notcell hy, _, upd_same, Reps.strs ys⟩ (q1 ys hp hs)
  · exact q1.elim
end DL

set_option Elab.async false
set_option linter.all false
set_option maxRecDepth 100000
set_option maxHeartbeats 4000000
/-! DL34: name = {..}, k in d as a test. -/
namespace DL
open PySem PySem.Spec L2 PyProof.Rows
section
variable {X : Cx} {e kx vx : Expr} {p pos : Pos} {ta : TD} {x : Str} {px : Pos}
theorem t_dinV (i : Nat) (hu : X.A.units + 1 < cLine) (ha : DE X e ta) (hN : X.N[i]? = some x := by rfl) (hv : Vis X.env.scope x := by first | exact Or.inl rfl | exact Or.inr (Or.inl rfl) | exact Or.inr (Or.inr rfl)) (hd : (x == ("__debug__" : Str)) = false := by decide)
    (hcd : (x == ("__classdict__" : Str)) = false := by decide) : DT X (.Compare e [.In] [.Name x px] pos) (dTest (dInV i ta)) := by
  obtain ⟨t, pe, l⟩ := ha.ex
  exact ⟨_, pt_cmp (pc_din hu pe (pe_var hN hv hd hcd)) (by first | exact nomark _ | rfl), lift_test (lift_inV l)⟩
/-- list(d), d a slot -/
def dKeysV (i : Nat) : TDR := fun env st Q => dkAt env i fun ks _ => Q (.own (.lst (ks.map keyD))) st
theorem r_keysV (i : Nat) {pf : Pos} (hm : X.mg "list" = none) (hN : X.N[i]? = some x := by rfl) (hv : Vis X.env.scope x := by first | exact Or.inl rfl | exact Or.inr (Or.inl rfl) | exact Or.inr (Or.inr rfl)) (hd : (x == ("__debug__" : Str)) = false := by decide)
    (hcd : (x == ("__classdict__" : Str)) = false := by decide) (hg : Gl X "list" := by rfl) (hc : X.calm = true := by rfl) (h1 : starEach [.Name x px] X.env = (false, eval (.Name x px) X.env) :: starEach [] X.env := by rfl) (h2 : (backTo pos (starEach [] X.env)).any (·.1) = false := by rfl) :
    RE X (.Call (.Name "list" pf) [.Name x px] [] pos) (dKeysV i) := by
  refine ⟨_, pe_callTy (L2.call_listD hc) hg hm boot_list (pa_cons (pe_var hN hv hd hcd) pa_nil h1) (by decide) (by decide) h1 h2, fun H0 w σ H env st Q Q' sl so q k => ?_⟩
  obtain ⟨ks, ds, a, vs, hs, rd, hl, rs, q, _⟩ := dk_slot sl so q
  refine ⟨.ref a, hs, a, _, rfl, rd, fun p hp => ?_⟩
  have e : ((ks.zip vs).map fun kv => kV kv.1) = ks.map kV := by rw [show (fun kv : Key × V => kV kv.1) = kV ∘ Prod.fst from rfl, ← List.map_map, List.map_fst_zip (by omega)]
  rw [e]
  obtain ⟨e2, s2⟩ := ext_laid (o := .lst (ks.map kV)) so hp
  exact k w _ (.ref p) (.own (.lst (ks.map keyD))) st e2 s2 ⟨p, rfl, hp, so.zfree hp, so.notcell hp, _, upd_same, reps_keys ks⟩ q
theorem sw_dict {gs : List Comprehension} {sc : Scope} {q : Pos} {n : Str} {l : Nat} {ev : Env} (h1 : ev.scope.kind = .function) (h2 : ev.scope.names.lookup n = some .local) (h3 : (px.line == q.line) = true) (h4 : (sc.names.any fun (m, k) => m == n && (k == .local || k == .cell)) = false) : swapsWith (.DictComp kx vx gs sc q) (some (.Name n px)) l ev = pure true := by
  have g1 : ev.kindOf n = some .local := h2
  have g2 : ev.blockKind = .function := by
    unfold Env.blockKind
    rw [h1]; rfl
  simp only [swapsWith, g2, g1, h4, Expr.pos, h3]; rfl
/-- name = {k: v for ..}, name a local -/
theorem ps_putDc {j : Nat} {n : Str} {pn : Pos} {tg it : Expr} {cs : List Expr} {sc : Scope} {own : List (Str × Nat)} {pc ps : Pos} {wi : TI} {g : TG} {tt : TT} {tk tv : TE} (hc : X.calm = true) (hN : X.N.Nodup) (h1 : X.N[j]? = some n) (h2 : X.env.scope.names.lookup n = some .local)
    (h3 : swapsWith (.DictComp kx vx [⟨tg, it, cs, 0⟩] sc pc) (some (.Name n pn)) ps.line X.env = pure true) (hi : PI X tg it wi) (ok : BlkOk X.N X.env.scope sc own) (hg : ∀ (s : Shared) (H : Hp) (C : Addr) (cl : List (Str × Addr)) (fp : List Addr), PG (X.blk s H sc (compEnvC sc cl C X.env) fp) tg g)
    (ht : ∀ (s : Shared) (H : Hp) (C : Addr) (cl : List (Str × Addr)) (fp : List Addr), PTs (X.blk s H sc (compEnvC sc cl C X.env) fp) cs tt) (hk : ∀ (s : Shared) (H : Hp) (C : Addr) (cl : List (Str × Addr)) (fp : List Addr), PE (X.blk s H sc (compEnvC sc cl C X.env) fp) kx tk)
    (he : ∀ (s : Shared) (H : Hp) (C : Addr) (cl : List (Str × Addr)) (fp : List Addr), PE (X.blk s H sc (compEnvC sc cl C X.env) fp) vx tv) (hs : ∀ y, foldedSetIterable it X.env y = pure y) : PS X (.Assign [.Name n pn] (.DictComp kx vx [⟨tg, it, cs, 0⟩] sc pc) ps) (tAsg (tDc wi g tt tk tv (own.map (·.2))) (gName j)) := by
  refine ⟨fun ls s σ H E J w => ?_⟩
  rw [exec_Assign_Name_used _ _ _ _ h3]
  refine wpAny_bind (wpAny_standAt (wpAny_bind ?_))
  show wpAny _ X.A (do let _ ← comprehension (.DictComp kx vx [⟨tg, it, cs, 0⟩] sc pc) sc X.env (firstIterPos [⟨tg, it, cs, 0⟩] pc) newDict false (eval it X.env) (some (assign (.Name n pn) X.env))) _ _ s
  have w : tDc wi g tt tk tv (own.map (·.2)) σ H (fun y H1 => gName j y σ H1 E.nx) := w
  refine wpAny_bind (thn (dc_core (Qf := fun _ s' => SP X ls E .next s') hc hN J hi ok hg ht hk he hs w fun D C s1 m H1 J1 q hm fp => ?_) fun _ s1 z => wpAny_pure (wpAny_pure z))
  show wpAny _ _ (assign (.Name n pn) X.env (.ref D)) _ _ _
  refine wpAny_assign_Name (store_ok2 (v := V.ref D) J1 hN h1 (.inl h2) rfl (fun s2 J2 ⟨b, same, hb⟩ => ?_) (.inr h2))
  obtain ⟨z0, z1, z2, z3, z4, z5⟩ := fp
  have ne : C ≠ b := by
    rcases hb with y | y
    · rw [y]; exact z1
    · exact fun e' => z4 n b y e'.symm
  refine ⟨m, hm.sameBut same ne, fun h' same' => ⟨_, H1, J2.turned (t' := s2.toks) (fun c o hc e' => (same'.2 c hc).trans e') z0 z1 z3 z4 z5, q⟩⟩
section
variable {scope : Scope} {ti : TDI} {tkd tvd : TD} {ttd : TDT} {i : Nat}
theorem s_setDc (j : Nat) {n : Str} {pn ps : Pos} (own : List (Str × Nat)) (hN : X.N.Nodup) (hi : DI X (.Name x px) e ti) (hg : ∀ s H C cl fp, PG (Blk X scope s H C cl fp) (.Name x px) (gName i)) (hk : ∀ s H C cl fp, DE (Blk X scope s H C cl fp) kx tkd) (he : ∀ s H C cl fp, DE (Blk X scope s H C cl fp) vx tvd) (ok : BlkOk X.N X.env.scope scope own) (hm : i ∈ own.map (·.2))
    (h1 : X.N[j]? = some n := by rfl) (h2 : X.env.scope.names.lookup n = some .local := by rfl) (h3 : X.env.scope.kind = .function := by rfl) (h4 : (pn.line == pos.line) = true := by rfl) (h5 : (scope.names.any fun (m, k) => m == n && (k == .local || k == .cell)) = false := by decide +kernel)
    (hc : X.calm = true := by rfl) (hs : ∀ y, foldedSetIterable e X.env y = pure y := by intro _; rfl) : DS X (.Assign [.Name n pn] (.DictComp kx vx [⟨.Name x px, e, [], 0⟩] scope pos) ps) (sSet j (dDc ti (gdName i) dYes tkd tvd (own.map (·.2)))) := by
  obtain ⟨wi, p, l⟩ := hi.ex
  exact ⟨_, ps_putDc hc hN h1 h2 (sw_dict h3 h2 h4 h5) p ok hg (fun _ _ _ _ _ => pts_nil) (fun s H C cl fp => (hk s H C cl fp).can) (fun s H C cl fp => (he s H C cl fp).can) hs, lifts_set j (lift_dc l (liftc_name hm) lift_yes lift_canE lift_canE)⟩
theorem s_setDcT (j : Nat) {es : List Expr} {kt m : Nat} {is : List Nat} {n : Str} {pn ps : Pos} (own : List (Str × Nat)) (hN : X.N.Nodup) (hi : DI X (.Tuple es kt px) e ti) (hg : ∀ s H C cl fp, PG (Blk X scope s H C cl fp) (.Tuple es kt px) (gTup X.K m (gNames is))) (hk : ∀ s H C cl fp, DE (Blk X scope s H C cl fp) kx tkd) (he : ∀ s H C cl fp, DE (Blk X scope s H C cl fp) vx tvd) (ok : BlkOk X.N X.env.scope scope own) (hm : ∀ i ∈ is, i ∈ own.map (·.2))
    (h1 : X.N[j]? = some n := by rfl) (h2 : X.env.scope.names.lookup n = some .local := by rfl) (h3 : X.env.scope.kind = .function := by rfl) (h4 : (pn.line == pos.line) = true := by rfl) (h5 : (scope.names.any fun (m, k) => m == n && (k == .local || k == .cell)) = false := by decide +kernel)
    (hc : X.calm = true := by rfl) (hs : ∀ y, foldedSetIterable e X.env y = pure y := by intro _; rfl) : DS X (.Assign [.Name n pn] (.DictComp kx vx [⟨.Tuple es kt px, e, [], 0⟩] scope pos) ps) (sSet j (dDc ti (gdTup m (gdNames is)) dYes tkd tvd (own.map (·.2)))) := by
  obtain ⟨wi, p, l⟩ := hi.ex
  exact ⟨_, ps_putDc hc hN h1 h2 (sw_dict h3 h2 h4 h5) p ok hg (fun _ _ _ _ _ => pts_nil) (fun s H C cl fp => (hk s H C cl fp).can) (fun s H C cl fp => (he s H C cl fp).can) hs, lifts_set j (lift_dc l (liftc_tup hm) lift_yes lift_canE lift_canE)⟩
end
end
end DL

set_option Elab.async false
set_option linter.all false
set_option maxRecDepth 100000
set_option maxHeartbeats 4000000
/-! DL35: walks over a dict just made; x.index(y). -/
namespace L2
open PySem PySem.Spec PyProof.Rows
section
variable {X : Cx} {tg e : Expr} {td : TE}
/-- over the keys of a dict that nobody else holds: it is locked from here on -/
def iKeysL (td : TE) : TI := fun σ H R => td σ H fun x H1 => ∃ d kvs, x = .ref d ∧ H1 d = some (.dK kvs) ∧ ∀ o, R (Itk d o kvs) (upd H1 d (.frz o (.dK kvs)))
theorem pi_keysL (he : PE X e td) : PI X tg e (iKeysL td) := by
  refine ⟨fun ls s0 σ G R J w => ?_⟩
  refine thn (he.run ls s0 σ G _ J w) fun v s1 ⟨y, G1, J1, ry, a, kvs, ey, ha, q⟩ => ?_
  subst ey
  obtain rfl : v = Value.ref a := ry
  obtain ⟨o, J2⟩ := J1.lock ha True.intro
  have hb : (upd G1 a (.frz o (.dK kvs))) a = some (.frz o (.dK kvs)) := upd_same
  obtain ⟨z1, z2, z3, z4, z5, vs, z6, z7, kv, z8⟩ := J2.frzK hb
  refine iter_keys z1 z2 z3 z6 (pi_one (tk := s1.toks) J2 _ (turn_keys _ z6) ⟨_, Heap.get?_push_size _ rfl, rfl, ?_⟩ (q o))
  rw [z7] <;> rfl
end
end L2
namespace DL
open PySem PySem.Spec L2
theorem tw_free {a : Addr} {o : HO} {Z : Hp} (h : Z a = none) : tw a o Z = Z := funext fun b => by
  unfold tw
  by_cases e : b = a
  · rw [if_pos e, e, h]
  · rw [if_neg e]
section
variable {X : Cx} {tg e : Expr} {tr : TDR}
def diKeysR (t : TDR) : TDI := fun env st Q => t env st fun ev st1 => match ev with
  | .own (.dK ks _) => Q (ks.map keyD) st1
  | _ => False
theorem i_keysR (he : RE X e tr) : DI X tg e (diKeysR tr) := by
  obtain ⟨t, pe, l⟩ := he.ex
  refine ⟨_, pi_keysL pe, fun H0 w σ H env st Q R sl so q k => ?_⟩
  refine l H0 w σ H env st _ _ sl so q fun w1 H1 v ev st1 x1 s1 r1 q1 => ?_
  split at q1
  · rename_i ks ds
    obtain ⟨p, rfl, hp0, hz1, hn1, vs, hl, hH, rs⟩ := r1
    refine ⟨p, _, rfl, hH, fun od => ?_⟩
    have x2 : Ext w H ⟨w1.cl, plus w1.Z [p] H1⟩ H1 := ext_plus x1 fun q hq => by rw [List.mem_singleton.mp hq]; exact ⟨hp0, hz1⟩
    have s2 : Sto ⟨w1.cl, plus w1.Z [p] H1⟩ H1 st1 := sto_plus s1 fun q hq => by rw [List.mem_singleton.mp hq]; exact hn1
    have hz2 : (plus w1.Z [p] H1) p = some (.dK (ks.zip vs)) := by rw [plus_in (by simp)]; exact hH
    generalize plus w1.Z [p] H1 = Z2 at x2 s2 hz2
    have wz : w.Z p = none := by
      cases e : w.Z p with
      | none => rfl
      | some y => have := so.sub _ _ e; rw [hp0] at this; cases this
    have x3 := x2.tw p (.frz od (.dK (ks.zip vs)))
    rw [show twW p (.frz od (.dK (ks.zip vs))) w = w by show (⟨w.cl, tw p _ w.Z⟩ : Wd) = w; rw [tw_free wz], tw_free hp0] at x3
    have s3 := s2.tw (o := .frz od (.dK (ks.zip vs))) hz2
    rw [← tw_upd hH]
    have hz3 : (twW p (.frz od (.dK (ks.zip vs))) ⟨w1.cl, Z2⟩).Z p = some (.frz od (.dK (ks.zip vs))) := tw_at hz2
    refine k _ _ st1 (ks.map keyD) _ x3 s3 (fun w' H' st' l s => ?_) q1
    have hh := s.sub _ _ (l.z _ _ hz3)
    have hlen : (ks.zip vs).length = ks.length := by rw [List.length_zip]; omega
    refine ⟨fun j d hj => ?_, hh, by rw [List.length_map, hlen]; exact Nat.le_refl _⟩
    rw [List.getElem?_map] at hj
    obtain ⟨kk, hk, rfl⟩ := Option.map_eq_some_iff.mp hj
    have hjl := (List.getElem?_eq_some_iff.mp hk).1
    refine ⟨⟨hh, by rw [hlen]; exact hjl⟩, fun z H2 y => ?_⟩
    obtain ⟨rfl, k2, v2, h2, rfl⟩ := y
    refine ⟨w', Ext.refl _ _, s, ?_⟩
    have : k2 = kk := by
      have e3 : ((ks.zip vs).map Prod.fst)[j]? = some k2 := by rw [List.getElem?_map, h2]; rfl
      rw [List.map_fst_zip (by omega), hk] at e3
      exact (Option.some.inj e3).symm
    rw [this]
    exact rep_key kk
  · exact q1.elim
end
theorem toPys_at : ∀ (ds : List D) (i : Nat), (D.toPys ds)[i]? = ds[i]?.map D.toPy
  | [], i => by simp [D.toPys]
  | d :: ds, 0 => by simp [D.toPys]
  | d :: ds, i + 1 => by simp [D.toPys, toPys_at ds i]
/-- x.index(y): the first place of an equal one -/
def dIndex (ta tb : TD) : TD := fun env st Q => ta env st fun x st1 => match x with
  | .lst ds => tb env st1 fun y st2 => (D.pys ds 50 = true ∧ y.py 51 = true) ∧ ∃ (j : Nat) (z : D), ds[j]? = some z ∧ z.eqv y = true ∧ (∀ (m : Nat) (z' : D), m < j → ds[m]? = some z' → z'.eqv y = false) ∧ Q (.int (j : Nat)) st2
  | _ => False
section
variable {X : Cx} {o e : Expr} {ta tb : TD} {apos cpos : Pos}
theorem d_index (hu : X.A.units + 65 < cLine) (ha : DE X o ta) (hb : DE X e tb) (hbase : attributeBase o "index" X.env (eval o X.env) = eval o X.env := by rfl)
    (hfew : ((backTo cpos (starEach [e] X.env)).all (fun x => !x.1) && (backToKw cpos (keywordEach [] X.env)).all (fun x => x.1.isSome) && decide (([e] : List Expr).length + ([] : List Keyword).length + (if ([] : List Keyword).isEmpty then 0 else 1) < 30)) = true := by rfl)
    (hline : (apos.endLine == cpos.line) = true := by rfl) (hs : starEach [e] X.env = (false, eval e X.env) :: starEach [] X.env := by rfl) (hpl : (backTo cpos (starEach [] X.env)).any (·.1) = false := by rfl) :
    DE X (.Call (.Attribute o "index" apos) [e] [] cpos) (dIndex ta tb) := by
  obtain ⟨t, pa, la⟩ := ha.ex
  obtain ⟨u, pb, lb⟩ := hb.ex
  refine ⟨_, pe_bm F.plainAttrs_list F.slot_list_index F.type_list_index (mt_indexD hu) pa (pa_cons pb pa_nil hs) hbase hfew hline hs hpl, fun H0 w σ H env st Q Q' sl so q k => ?_⟩
  refine la H0 w σ H env st _ _ sl so q fun w1 H1 v d st1 x1 s1 r1 q1 => ?_
  split at q1
  · rename_i ds
    have r0 : ∃ a vs, v = .ref a ∧ w1.Z a = some (.lst vs) ∧ Reps X.K w1.cl w1.Z ds vs := r1
    obtain ⟨a, vs, rfl, hz, rs⟩ := r0
    refine ⟨.inl ⟨rfl, vs, .of (s1.sub _ _ hz)⟩, lb H0 w1 σ H1 env st1 _ _ (sl.ext x1) s1 q1 fun w2 H2 u d2 st2 x2 s2 r2 q2 => ?_⟩
    obtain ⟨⟨p1, p2⟩, j, z, hj, he, hno, q2⟩ := q2
    have py1 : (D.lst ds).py 51 = true := by rw [D.py]; exact p1
    have rl : Rep X.K w2.cl w2.Z (.lst ds) (.ref a) := x2.rep ⟨a, vs, rfl, hz, rs⟩
    refine ⟨a, u, d2.toPy, D.toPys ds, j, z.toPy, rfl, rfl, rl.dp s2.sub (.lst ds) _ 51 py1, r2.dp s2.sub d2 u 51 p2, ?_, D.py_shaped p2 (by decide), by rw [toPys_at, hj]; rfl, he, fun m z' hm hz' => ?_, k w2 H2 _ (.int (j : Nat)) st2 (x1.trans x2) s2 rfl q2⟩
    · have := D.py_shaped py1 (by decide)
      exact this
    · rw [toPys_at] at hz'
      obtain ⟨z2, e2, rfl⟩ := Option.map_eq_some_iff.mp hz'
      exact hno m z2 hm e2
  · exact q1.elim
/-- x.append(e), x a tree of one's own, e flat -/
def sAppO (i : Nat) (t : TD) : TDS := fun D env st => match env[i]? with
  | some (some (.deep (.lst xs))) => t env st fun d st1 => (xs.length < sizeLine ∧ d.flat = true) ∧ D.nx (env.set i (some (.deep (.lst (xs ++ [d]))))) st1
  | _ => False
theorem s_appO (i : Nat) {x : Str} {px pa pc pos : Pos} (he : DE X e ta) (hN : X.N[i]? = some x := by rfl) (hv : Vis X.env.scope x := by first | exact Or.inl rfl | exact Or.inr (Or.inl rfl) | exact Or.inr (Or.inr rfl)) (hd : (x == ("__debug__" : Str)) = false := by decide)
    (hcd : (x == ("__classdict__" : Str)) = false := by decide) (h1 : starEach [e] X.env = (false, eval e X.env) :: starEach [] X.env := by rfl) (hb : attributeBase (.Name x px) "append" X.env (eval (.Name x px) X.env) = eval (.Name x px) X.env := by rfl)
    (hfew : ((backTo pc (starEach [e] X.env)).all (fun x => !x.1) && (backToKw pc (keywordEach [] X.env)).all (fun x => x.1.isSome) && decide (([e] : List Expr).length + ([] : List Keyword).length + (if ([] : List Keyword).isEmpty then 0 else 1) < 30)) = true := by rfl) (hl : (pa.endLine == pc.line) = true := by rfl) (hp : (backTo pc (starEach [] X.env)).any (·.1) = false := by rfl)
    (hs : swapsWith (.Call (.Attribute (.Name x px) "append" pa) [e] [] pc) none pos.line X.env = pure false := by rfl) : DS X (.Expr (.Call (.Attribute (.Name x px) "append" pa) [e] [] pc) pos) (sAppO i ta) := by
  obtain ⟨f, p, l⟩ := he.ex
  refine ⟨_, ps_expr (pe_bm F.plainAttrs_list F.slot_list_append F.type_list_append mt_append (pe_var hN hv hd hcd) (pa_cons p pa_nil h1) hb hfew hl h1 hp) hs, fun w0 H0 w σ H env st D D' r q k => ?_⟩
  unfold sAppO at q
  split at q
  case h_2 => exact q.elim
  rename_i xs hev
  obtain ⟨Ls, S⟩ := r.sl.norm
  obtain ⟨v, hv, hok, hlo⟩ := S.ok i _ hev
  have hi : i < env.length := (List.getElem?_eq_some_iff.mp hev).1
  obtain ⟨p0, vs, L', rfl, eL, hpL, hH, ho⟩ := (show ∃ p vs L', v = .ref p ∧ Ls i = p :: L' ∧ p ∉ L' ∧ H p = some (.lst vs) ∧ OwnTs X.K w H xs vs L' from hok)
  rw [eL] at hlo
  have lp := hlo p0 List.mem_cons_self
  refine ⟨.ref p0, hv, .inl ⟨rfl, vs, .of hH⟩, l H0 w σ H env st _ _ r.sl r.s q fun w1 H1 v1 d st1 x1 s1 rd q1 => ?_⟩
  have hp1 : H1 p0 = some (.lst vs) := x1.kp _ _ hH lp.2.2.2
  have lo1 : LOk w1 H0 H1 (p0 :: L') := hlo.ext x1
  have lp1 := lo1 p0 List.mem_cons_self
  have oa : OwnTs X.K w1 H1 xs vs L' := OwnTs.ext x1 _ _ _ (fun p hp => (hlo p (List.mem_cons_of_mem _ hp)).2.2.2) ho
  have hne : ∀ p ∈ L', p ≠ p0 := fun p hp z => hpL (z ▸ hp)
  have oa2 : OwnTs X.K w1 (upd H1 p0 (.lst (vs ++ [v1]))) xs vs L' := OwnTs.at_ (Same.refl _) ⟨[], (List.append_nil _).symm⟩ _ _ _ (fun p hp => upd_ne (hne p hp)) oa
  have both := OwnTs.append oa2 (OwnTs.one (OwnT.of_flat q1.1.2 rd)) (fun p _ h => by simp at h)
  rw [List.append_nil] at both
  have S2 := (S.ext x1).mut (L' := p0 :: L') (ev' := .deep (.lst (xs ++ [d]))) (H' := upd H1 p0 (.lst (vs ++ [v1]))) hi hv (fun a ha => upd_ne fun z => ha (by rw [eL, z]; simp)) (fun a h => by
    by_cases e : a = p0
    · rw [e, upd_same] at h; cases h
    · rw [upd_ne e] at h; exact h) ⟨p0, _, _, rfl, rfl, hpL, upd_same, both⟩ (fun q hq => by
    by_cases e : q = p0
    · rw [e]; exact ⟨lp1.1, by rw [upd_same]; exact fun z => (nomatch z), lp1.2.2⟩
    · have := lo1 q hq
      exact ⟨this.1, by rw [upd_ne e]; exact this.2.1, this.2.2⟩) (fun q hq => by rw [eL]; exact hq)
  refine ⟨p0, vs, v1, rfl, rfl, hp1, by rw [← ho.length]; exact q1.1.1, ?_⟩
  exact k.nx w1 σ _ _ st1 x1.le ⟨ext_mut (r.x.trans x1) lp1.1, sto_mut s1 lp1.2.2.1 lp1.2.2.2, S2.slots⟩ q1.2
end
section
variable {X : Cx} {a b : Expr} {tr1 tr2 : TDR} {pos : Pos}
/-- x, y = a, b by a tuple -/
def sPar2 (i j : Nat) (t u : TDR) : TDS := fun D env st => t env st fun e1 st1 => u env st1 fun e2 st2 => D.nx ((env.set i (some e1)).set j (some e2)) st2
theorem s_par2C (i j : Nat) {x y : Str} {px py pt pt2 : Pos} {kt k2 : Nat} (hN : X.N.Nodup) (ha : RE X a tr1) (hb : RE X b tr2) (hij : i ≠ j := by decide) (hi : X.N[i]? = some x := by rfl) (hj : X.N[j]? = some y := by rfl)
    (hx : Loc X.env.scope x := by first | exact Or.inl rfl | exact Or.inr rfl) (hy : Loc X.env.scope y := by first | exact Or.inl rfl | exact Or.inr rfl)
    (hcm : X.calm = true := by rfl) (hfx : X.fn x = true ∨ X.env.scope.names.lookup x = some .local := by first | exact .inl rfl | exact .inr rfl | assumption) (hfy : X.fn y = true ∨ X.env.scope.names.lookup y = some .local := by first | exact .inl rfl | exact .inr rfl | assumption)
    (hs : swapsWithSole [.Tuple [.Name x px, .Name y py] kt pt] (.Tuple [a, b] k2 pt2) pos.line X.env = pure false := by rfl) (hw : swappedStores [.Tuple [.Name x px, .Name y py] kt pt] (.Tuple [a, b] k2 pt2) X.env = pure none := by rfl)
    (h0 : (assignEach [.Tuple [.Name x px, .Name y py] kt pt] X.env).map (·.2) = [assign (.Tuple [.Name x px, .Name y py] kt pt) X.env] := by rfl)
    (h1 : starEach [a, b] X.env = (false, eval a X.env) :: starEach [b] X.env := by rfl) (h2 : starEach [b] X.env = (false, eval b X.env) :: starEach [] X.env := by rfl) : DS X (.Assign [.Tuple [.Name x px, .Name y py] kt pt] (.Tuple [a, b] k2 pt2) pos) (sPar2 i j tr1 tr2) := by
  obtain ⟨f1, p1, l1⟩ := ha.ex
  obtain ⟨f2, p2, l2⟩ := hb.ex
  refine ⟨_, ps_asg (pe_tup (pa_cons p1 (pa_cons p2 pa_nil h2) h1)) (pg_tup hcm (pgs_cons (pg_name hN hi hx hfx) (pgs_cons (pg_name hN hj hy hfy) pgs_nil))) hs hw h0, fun w0 H0 w σ H env st D D' r q k => ?_⟩
  refine l1 H0 w σ H env st _ _ r.sl r.s q fun w1 H1 v1 ev1 st1 x1 s1 rv1 q1 => ?_
  refine l2 H0 w1 σ H1 env st1 _ _ (r.sl.ext x1) s1 q1 fun w2 H2 v2 ev2 st2 x2 s2 rv2 q2 => ?_
  refine ⟨by show 2 ≤ sizeLine; decide, fun p hp => ?_⟩
  obtain ⟨x4, s4⟩ := ext_frozen (o := .tup [v1, v2]) s2 hp
  refine ⟨p, [v1, v2], rfl, .inl (.inl upd_same), rfl, ?_⟩
  refine ⟨v1, _, rfl, v2, _, rfl, rfl, ?_⟩
  have x12 := x1.trans x2
  refine k.nx _ _ _ _ st2 (x12.trans x4).le ⟨r.x.trans (x12.trans x4), s4, ?_⟩ q2
  obtain ⟨Ls, S⟩ := r.sl.norm
  obtain ⟨L1, g1, m1⟩ := rv1.ok
  obtain ⟨L2, g2, m2⟩ := rv2.ok
  have y1 := x2.trans x4
  obtain ⟨M, SA, hM⟩ := ((S.ext x1).ext y1).put' i (g1.ext m1 y1) (fun p hp => let ⟨a, b⟩ := (m1.ext y1) p hp; ⟨r.x.tr p a, b⟩) fun j hj p hp hm => (S.live hm).2.1 (m1 p hp).1
  obtain ⟨M2, SB, hM2⟩ := SA.put' j (g2.ext m2 x4) (fun p hp => let ⟨a, b⟩ := (m2.ext x4) p hp; ⟨(r.x.trans x1).tr p a, b⟩) fun l hl p hp hm => by
    rcases hM l p hm with h | h
    · exact (m1 p h).2.1 (m2 p hp).1
    · exact ((S.ext x1).live h).2.1 (m2 p hp).1
  exact SB.slots
end
end DL

set_option Elab.async false
set_option linter.all false
set_option maxRecDepth 100000
set_option maxHeartbeats 4000000
/-! DL36: errors of the program's classes (one field, value, with a default): made, raised, caught; isinstance and the field of what is caught. -/
namespace PySem
namespace ErrX
open PySem.W PySem.Calls PyProof.Rows PySem.HandSPX
def iA (p1 p2 p3 : Pos) : Arguments := { posonlyargs := [], args := [{ arg := "self", annotation := none, pos := p1 }, { arg := "value", annotation := none, pos := p2 }], vararg := none, kwonlyargs := [], kw_defaults := [], kwarg := none, defaults := [.Constant .none 0 p3] }
def iB (q1 q2 q3 q4 : Pos) : List Stmt := [.Assign [.Attribute (.Name "self" q1) "value" q2] (.Name "value" q3) q4]
def iS : Scope := { kind := .function, names := [(PySem.Str.ofString "self", .local), (PySem.Str.ofString "value", .local)], isGenerator := false, isCoroutine := false, more := [] }
/-- what the written part says of an error class cn, at C, and of its __init__ (full name qn), at fI -/
structure ErrTxt (K : Frag) (mg : Str → Option Value) (cn qn : Str) (C : Addr) : Prop where
  gC : mg cn = some (.ref C)
  cls : ∃ nm q N bs bm sn sub ab col dd k0 k1 k2 k3 k5, K.lookup C = some (excClassObj nm q C N bs bm true sn sub ab col dd k0 k1 k2 k3 k5 "ValueError.__new__") ∧ refsVE bm = true
  sa : findIn K (.ref C) "__setattr__" = some (some (.builtin "object.__setattr__"))
  ga : findIn K (.ref C) "__getattribute__" = some (some (.builtin "BaseException.__getattribute__"))
  gg : findIn K (.ref C) "__getattr__" = some none
  noN : findIn K (.ref C) "value" = some none
  kC : keepIn K (.ref C) = true
  exC : subIn K (.ref C) (.type "BaseException") = some true
  tyC : typeIn K (.ref C) = some (.type "type")
  hdC : hasDictIn K C = true
  ca : findIn K (.ref C) "__class__" = some (some (.builtin "object.__class__"))
  cn_ : specialIn K (.builtin "object.__class__") "__get__" = some (some (.builtin "getset_descriptor.__get__"))
  ct_ : takesIn K (.builtin "object.__class__") = some true
  cm : mroIn K C (.type "object") = some true
  init : ∃ fI : Addr, findIn K (.ref C) "__init__" = some (some (.ref fI)) ∧ typeIn K (.ref fI) = some (.type "function") ∧
    ∃ (oc : Value) (od : Option Addr) (kV doc pm : Value) (an : Option Addr) (cdv ct : Value) (osl : Array (Option Value)) (p1 p2 p3 q1 q2 q3 q4 : Pos) (T1 : Addr) (oT : Obj) (its : Array Value) (nT : Nat),
      K.lookup fI = some ⟨oc, od, .func (fnOf "__init__" qn (iA p1 p2 p3) (iB q1 q2 q3 q4) iS (.ref T1) kV doc pm an cdv ct), osl⟩ ∧ codeIn K cdv qn = true ∧ K.lookup T1 = some oT ∧ oT.data = .seq its nT ∧ its.size = 1
theorem one_size (v : Value) : [v].length ≤ sizeLine := by
  rw [sizeLine_eq]
  exact (by decide : 1 ≤ 16777216)
theorem ldV {M : Model} {s : Shared} {name : Str} {scope : Scope} {L a : Addr} {cd : Value} {m : Str → Option Value} {x : Str} {pos : Pos} {v : Value} {Q : Value → Shared → Prop} {A : Around} {E : Value → Shared → Prop} (hn : s.heap.Ns L m) (hv : m x = some v) (h : Q v s)
    (hk : scope.kind = .function := by rfl) (hl : (envOfC name scope L a cd).kindOf x = some .local := by rfl) (hd : (x == ("__debug__" : Str)) = false := by decide) :
    wpAny M A (eval (.Name x pos) (envOfC name scope L a cd)) Q E s := wpAny_Name (wpAny_loadName_local hk hl hn hv h) hd
/-- what __init__ leaves of a fresh error at x -/
structure InitEnd (h h' : Heap) (x C dx t1 : Addr) (v : Value) : Prop where
  keep : ∀ b o, b ≠ x → h.get? b = some o → h'.get? b = some o
  obj : h'.get? x = some { cls := .ref C, dict := some dx, data := .fields #[.ref t1, .none, .none, .none, .bool false, .none] }
  dbig : h.objs.size ≤ dx
  dne : dx ≠ x
  ns : h'.Ns1 dx (fun y => if y = "value" then some v else none)
/-- a made error -/
structure ErrMade (h h' : Heap) (e C d : Addr) (v : Value) : Prop where
  keep : ∀ b o, h.get? b = some o → h'.get? b = some o
  new : h.objs.size ≤ e
  obj : ∃ oe vs, h'.get? e = some oe ∧ oe.cls = .ref C ∧ oe.dict = some d ∧ oe.data = .fields vs ∧ vs[1]? = some .none
  dbig : h.objs.size ≤ d
  dne : d ≠ e
  ns : h'.Ns1 d (fun y => if y = "value" then some v else none)
section
variable {prog : Program} {w : World} {A : Around} {E : Value → Shared → Prop} {R : Result → Shared → Prop} {s : Shared} {K : Frag} {mg : Str → Option Value} {cn qn : Str} {C : Addr}
theorem bind_init {qn : Str} {p1 p2 p3 q1 q2 q3 q4 : Pos} {T1 : Addr} {oT : Obj} {its : Array Value} {nT : Nat} {kV doc pm : Value} {an : Option Addr} {cdv ct : Value} {x v : Value} (X : K.In s.heap) (lT : K.lookup T1 = some oT) (oT' : oT.data = .seq its nT) (h1 : its.size = 1) :
    BindsTo s (fnOf "__init__" qn (iA p1 p2 p3) (iB q1 q2 q3 q4) iS (.ref T1) kV doc pm an cdv ct) ⟨[x, v], []⟩ [("self", x), ("value", v)] := by
  obtain ⟨l⟩ := its
  obtain ⟨u, rfl⟩ : ∃ u, l = [u] := by
    match l, h1 with
    | [u], _ => exact ⟨u, rfl⟩
  exact L2.BindsTo.of_looks fun M => L2.looks_items (k := fun z => _) X lT oT' (.of_pure rfl)
theorem err_init (T : ErrTxt K mg cn qn C) {fI : Addr} (hi : findIn K (.ref C) "__init__" = some (some (.ref fI))) {x t0 : Addr} {v : Value} (X : K.In s.heap) (hlim : s.heap.NoLimit) (hx : s.heap.get? x = some (excO C t0)) (hnx : K.lookup x = none) (hroom : A.depth < recursionLimit)
    (hq : ∀ h' tk dx, InitEnd s.heap h' x C dx t0 v → R (.ok (.ret .none)) { s with heap := h', toks := tk }) :
    codeAny (model prog w) A (.call (.ref fI) ⟨[.ref x, v], []⟩) R s := by
  obtain ⟨fI', hi', _, oc, od, kV, doc, pm, an, cdv, ct, osl, p1, p2, p3, q1, q2, q3, q4, T1, oT, its, nT, ho, hcd, lT, dT, sT⟩ := T.init
  have e : fI' = fI := by rw [hi] at hi'; exact Value.ref.inj (Option.some.inj (Option.some.inj hi')).symm
  subst e
  obtain ⟨nm, q, N, bs, bm, sn, sub, ab, col, dd, k0, k1, k2, k3, k5, hC, hbm⟩ := T.cls
  have hcl : clsIn K C = some { name := nm, bases := bs, mro := .ref C :: bm, ns := N, qualname := q, hasDict := true, slotNames := sn, subclasses := sub, abstract := ab, collection := col, hasDel := false } := by unfold clsIn; rw [hC] <;> rfl
  refine Att.call_fn (binds := [("self", .ref x), ("value", v)]) X hlim ho hcd hroom (bind_init X lT dT sT) (by first | rfl | decide | with_unfolding_all rfl) (fun s₁ IC => ?_) rfl rfl rfl
  obtain ⟨h₁, tk₁, rfl⟩ := IC.toInCall.same
  have k : ∀ b o, s.heap.get? b = some o → h₁.get? b = some o := IC.toInCall.keep
  have hn := IC.toInCall.ns
  have hxL : s.heap.objs.size ≠ x := Nat.ne_of_gt (Heap.lt_size hx)
  have X₁ : K.In h₁ := X.keeps k
  have hx₁ := k _ _ hx
  show wpAny _ _ (execs _ _) _ _ _
  refine wpAny_execs_cons (plainObj_wpAny_Assign_Attribute ?_)
  refine ldV (v := v) hn (by first | rfl | with_unfolding_all rfl | kernel_rfl) (ldV (v := .ref x) hn (by first | rfl | with_unfolding_all rfl | kernel_rfl) ?_)
  refine set_plain X₁ (ox := excO C t0) (od := none) ⟨hx₁, rfl, rfl, trivial⟩ T.sa ?_
  refine exc_osa X₁ hx₁ hcl (show refsVE (.ref C :: bm) = true from hbm) rfl T.noN (fun h₃ tk₃ dx k₃ dn dne hx₃ hn₃ => ?_)
  show wpAny _ _ (execs _ _) _ _ _
  have z : s.heap.objs.size < h₁.objs.size := hn.lt
  exact wpAny_execs_nil (hq h₃ tk₃ dx ⟨fun b o hb e => k₃ b o hb (k b o e), hx₃, Nat.le_of_lt (Nat.lt_of_lt_of_le z dn), dne, hn₃⟩)
theorem err_made (T : ErrTxt K mg cn qn C) {v : Value} (X : K.In s.heap) (hlim : s.heap.NoLimit) (hroom : A.depth + 1 < recursionLimit)
    (hq : ∀ h' tk e d, ErrMade s.heap h' e C d v → R (.ok (.ret (.ref e))) { s with heap := h', toks := tk }) :
    codeAny (model prog w) A (.call (.ref C) ⟨[v], []⟩) R s := by
  obtain ⟨fI, hi, tI, _⟩ := T.init
  obtain ⟨nm, q, N, bs, bm, sn, sub, ab, col, dd, k0, k1, k2, k3, k5, hC, hbm⟩ := T.cls
  obtain ⟨hp, g, dr, tk, os⟩ := s
  have k : ∀ b o, hp.get? b = some o → ((hp.push (kdv_tup [v])).push (excO C hp.objs.size)).get? b = some o := fun b o e => Heap.get?_push_of_some _ (Heap.get?_push_of_some _ e)
  have hget : ((hp.push (kdv_tup [v])).push (excO C hp.objs.size)).get? (hp.objs.size + 1) = some (excO C hp.objs.size) := by heap_get
  have hnx : K.lookup (hp.objs.size + 1) = none := by
    cases e : K.lookup (hp.objs.size + 1) with
    | none => rfl
    | some o =>
      have z : hp.get? (hp.objs.size + 1) = some o := X _ _ e
      exact absurd (Nat.lt_of_succ_lt (Heap.lt_size z)) (Nat.lt_irrefl _)
  refine call_own F.excBase_ValueError (fun X => refsVE_contains X bm hbm) (X _ _ hC) (looks_findIn X hi) (fun self => bind_fn X self tI) (one_size v) ?_
  refine err_init (s := ⟨(hp.push (kdv_tup [v])).push (excO C hp.objs.size), g, dr, tk, os⟩) T hi (X.keeps k) (hlim.keeps k) hget hnx ?_ fun h' tk' dx ⟨k', hx, dn, dne, hns⟩ => ?_
  · show A.depth + 1 < recursionLimit
    exact hroom
  · have old : ∀ b o, hp.get? b = some o → h'.get? b = some o := fun b o e => k' b o (Nat.ne_of_lt (Nat.lt_succ_of_lt (Heap.lt_size e))) (k b o e)
    have z : hp.objs.size + 1 + 1 ≤ dx := by
      first
        | (simpa only [Heap.size_push] using dn)
        | exact dn
        | (have q := dn; rw [Heap.size_push, Heap.size_push] at q; exact q)
    exact ⟨rfl, hq h' tk' (hp.objs.size + 1) dx ⟨old, Nat.le_succ _, ⟨_, _, hx, rfl, rfl, rfl, rfl⟩, Nat.le_trans (Nat.le_trans (Nat.le_succ _) (Nat.le_succ _)) z, dne, hns⟩⟩
end
end ErrX
end PySem
namespace DL
open PySem PySem.Spec PyProof.Rows L2
section
variable {X : Cx} {C : Addr} {cn qn : Str}
/-- cn(e) -/
def tMkErr (C : Addr) (ta : TA) : L2.St → Hp → XK → Prop := fun σ H Q => ta σ H fun vs H1 => ∃ v, vs = [v] ∧ ∀ d, H1 d = none → Q (.ref C) (some d) (upd H1 d (.xd [(("value" : Str), v)]))
theorem relO_err {v : V} {v' : Value} (r : RelV v v') (f : Str) : RelO (List.lookup f [(("value" : Str), v)]) (if f = "value" then some v' else none) := by
  by_cases hw : f = "value"
  · subst hw
    rw [if_pos rfl]
    have q : List.lookup ("value" : Str) [(("value" : Str), v)] = some v := by simp [List.lookup]
    rw [q]
    exact r
  · rw [if_neg hw]
    have qw : (f == ("value" : Str)) = false := by simpa using hw
    have q2 : List.lookup f [(("value" : Str), v)] = none := by simp [List.lookup, qw]
    rw [q2]
    trivial
theorem pmk_err {a : Expr} {ta : TA} {p pos : Pos} {k : Nat} (T : PySem.ErrX.ErrTxt X.K X.mg cn qn C) (hr : Room k X.A) (ha : PA X [a] ta) (hg : Gl X cn := by rfl) (hdb : (cn == ("__debug__" : Str)) = false := by decide)
    (he : starEach (a :: []) X.env = (false, eval a X.env) :: starEach [] X.env := by rfl) (hpl : (backTo pos (starEach [] X.env)).any (·.1) = false := by rfl) :
    PMk X (.Call (.Name cn p) [a] [] pos) (tMkErr C ta) := by
  intro pins s σ H Q I h
  refine wpAny_Call_Name_kw (ld_glob I hg T.gC ?_ hdb)
  refine PySem.W.callWith_K (h₀ := X.base) I.ok.mod.kin T.kC (thn (ha.run pos pins s σ H _ I h) fun us s1 hh => ?_) he hpl
  obtain ⟨vs, H1, I1, r1, v, ev, q1⟩ := hh
  subst ev
  refine ⟨I1.kIn, ?_⟩
  cases r1 with
  | cons rv rn =>
    rename_i v' us'
    cases rn
    show wpAny _ _ (call (.ref C) [v']) _ _ _
    have hlim := I1.nolimit
    obtain ⟨hp, g, dr, tk, os⟩ := s1
    refine wpAny_call (PySem.ErrX.err_made T I1.kIn hlim (by have := hr.dp; omega) fun h' tk' e d M => ?_)
    show MkP X pins σ Q (.ref e) ⟨h', g, dr, tk', os⟩
    obtain ⟨oe, fv, hoe, hc, hd, hdat, h1⟩ := M.obj
    have hns := M.ns
    obtain ⟨G', g1, g2⟩ := restrict h' fun b => decide (b ≠ e)
    have gk : ∀ b, b ≠ e → G'.get? b = h'.get? b := fun b hb => g1 b (decide_eq_true hb)
    have ge : G'.get? e = none := g2 e (by simp)
    have old : ∀ b o, hp.get? b = some o → G'.get? b = some o := fun b o q => (gk b (Nat.ne_of_lt (Nat.lt_of_lt_of_le (Heap.lt_size q) M.new))).trans (M.keep b o q)
    have ob : ObjOk X.prog X.w (upd H1 d (.xd [(("value" : Str), v)])) G' d (.xd [(("value" : Str), v)]) :=
      ⟨_, hns.at (fun o q => (gk d M.dne).trans q), fun f => relO_err rv f⟩
    have J : Inv X pins σ (upd H1 d (.xd [(("value" : Str), v)])) ⟨G', g, dr, tk', os⟩ := I1.laid (t' := tk') old M.dbig ob
    refine ⟨e, oe, fv, ⟨G', g, dr, tk', os⟩, _, .ref C, some d, rfl, J, fun b o q => ?_, ge, hoe, ⟨hc, hd⟩, hdat, h1, ?_, rfl, I1.bare, raises_own T.exC T.tyC, q1 d (I1.hok.fresh M.dbig)⟩
    · by_cases hb : b = e
      · have q' : G'.get? b = some o := q
        rw [hb, ge] at q'; cases q'
      · exact (gk b hb).symm.trans q
    · rw [upd_ne (Ne.symm M.dne)]
      exact I1.hok.fresh M.new
/-- e.value, e the error that the suite holds (at a; its class cls, its dict d) -/
def tByErr (a : Addr) (cls : Value) (d : Option Addr) (te : TE) : TE := fun σ H Q => te σ H fun x H1 => x = .ref a ∧ ∃ (C : Addr) (dd : Addr) (v : V), cls = .ref C ∧ d = some dd ∧ H1 dd = some (.xd [(("value" : Str), v)]) ∧ (∃ cn qn, PySem.ErrX.ErrTxt X.K X.mg cn qn C) ∧ Q v H1
theorem pe_byErr {a : Addr} {oe : Obj} {cls : Value} {d : Option Addr} {pn : List (Addr × Obj)} {e : Expr} {te : TE} {pos : Pos} (hz : Zc cls d oe) (hf : ∃ vs, oe.data = .fields vs) (he : PE (X.suite a ((a, oe) :: pn)) e te)
    (hb : attributeBase e "value" X.env (eval e X.env) = eval e X.env := by rfl) :
    PE (X.suite a ((a, oe) :: pn)) (.Attribute e "value" pos) (tByErr (X := X) a cls d te) := by
  refine ⟨fun pins s σ H Q I h => ?_⟩
  refine attr_of hb (thn (he.run pins s σ H _ I h) fun u s1 hh => ?_)
  obtain ⟨x, H1, I1, rx, ex, C, dd, v, ec, ed, ea, ⟨cn, qn, T⟩, q⟩ := hh
  subst ex
  obtain rfl : u = Value.ref a := rx
  subst ec
  subst ed
  obtain ⟨ha, _⟩ := I1.pin (a, oe) (List.mem_append_left _ List.mem_cons_self)
  obtain ⟨vs, hd⟩ := hf
  have hx : ObjOk X.prog X.w H1 s1.heap dd (.xd [(("value" : Str), v)]) := I1.hok dd _ ea
  obtain ⟨mA, hns, hr⟩ := hx
  obtain ⟨od, ho, hl⟩ := lookIn_ns hns
  have l : List.lookup ("value" : Str) [(("value" : Str), v)] = some v := by simp [List.lookup]
  obtain ⟨u, hu, ru⟩ := RelO.some_of (v := v) (o := mA "value") (by rw [← l]; exact hr "value")
  have J : PySem.W.InstAt s1.heap a oe C (some od) := ⟨ha, hz.1, by unfold PySem.W.notCls; rw [hd] <;> rfl, by rw [hz.2]; exact ho⟩
  exact HandSPX.exc_get I1.kIn J T.ga T.gg T.exC (PySem.W.findObj_own T.hdC T.noN rfl (by rw [hl, hu])) (handed_of ru) ⟨v, H1, I1.tok _, ru, q⟩
/-- isinstance(e, c), e the error that the suite holds -/
def rIsErr (K : PySem.W.Frag) (mg : Str → Option Value) (cls : Value) (d : Option Addr) (a : Addr) : List V → Hp → VK → Prop := fun xs H Q => ∃ (c : V) (cv : Value) (b : Bool) (C dd : Addr) (v : V), xs = [.ref a, c] ∧ cls = .ref C ∧ d = some dd ∧ H dd = some (.xd [(("value" : Str), v)]) ∧ (∃ cn qn, PySem.ErrX.ErrTxt K mg cn qn C) ∧ (∀ u, RelV c u → u = cv) ∧ PySem.W.kitOne K (.ref C) cv = some b ∧ Q (.bl b) H
theorem call_isErr {a : Addr} {oe : Obj} {cls : Value} {d : Option Addr} {pn : List (Addr × Obj)} (hz : Zc cls d oe) (hf : ∃ vs, oe.data = .fields vs) : CallR (X.suite a ((a, oe) :: pn)) (.builtin "isinstance") (rIsErr X.K X.mg cls d a) := by
  intro pins s σ H xs us Q I r h
  obtain ⟨c, cv, b, C, dd, v, rfl, ec, ed, ea, ⟨cn, qn, T⟩, hcv, e, q⟩ := h
  subst ec
  subst ed
  cases r with
  | cons rx rr =>
    cases rr with
    | cons rt rr =>
      cases rr
      cases rx
      have ec := hcv _ rt
      subst ec
      obtain ⟨hget, _⟩ := I.pin (a, oe) (List.mem_append.mpr (.inl List.mem_cons_self))
      obtain ⟨vs, hv⟩ := hf
      have hx : ObjOk X.prog X.w H s.heap dd (.xd [(("value" : Str), v)]) := I.hok dd _ ea
      obtain ⟨mA, hns, hr⟩ := hx
      obtain ⟨od, ho, hl⟩ := lookIn_ns hns
      have J : PySem.W.InstAt s.heap a oe C (some od) := ⟨hget, hz.1, by unfold PySem.W.notCls; rw [hv] <;> rfl, by rw [hz.2]; exact ho⟩
      have hcl : (PySem.W.clsIn X.K C).isSome = true := by
        obtain ⟨cd, hc, _⟩ := PySem.W.any_some T.hdC
        rw [hc]; rfl
      exact PySem.W.kia_one (PySem.W.kitx_exc hcl T.ga T.gg T.exC T.ca T.cn_ T.ct_ T.cm) I.kIn J e (fun z => nomatch z) fun tk => ⟨.bl b, H, I.kept (t' := tk) fun _ _ z => z, rfl, q⟩
end
end DL

set_option Elab.async false
set_option linter.all false
set_option maxRecDepth 100000
set_option maxHeartbeats 4000000
/-! DL37: defs that raise, on data; a try that hears which error a call raises. -/
namespace DL
open PySem PySem.Spec PyProof.Rows L2
/-- a promise of a def that may raise: from the arguments, the store, what is wanted of the result, and of an error (its class, its field) -/
abbrev PhiX := List D → Store → (EV → Store → Prop) → (Addr → D → Store → Prop) → Prop
/-- the errors that are let out from w0, H0 on -/
def Outs (K : Frag) (w0 : Wd) (H0 : Hp) (E : XK) (E' : Addr → D → Store → Prop) : Prop :=
  ∀ w' H' C dd v d st', Ext w0 H0 w' H' → Sto w' H' st' → Rep K w'.cl w'.Z d v → w'.Z dd = some (.xd [(("value" : Str), v)]) → E' C d st' → E (.ref C) (some dd) H'
def spX (K : Frag) (n : Nat) (φ : PhiX) : Sp := fun vs H Q E => ∃ w ds st Q' E', ds.length = n ∧ Sto w H st ∧ Reps K w.cl w.Z ds vs ∧ φ ds st Q' E' ∧
  (∀ w' H' v ev st', Ext w H w' H' → Sto w' H' st' → ROk K H w' H' v ev → Q' ev st' → Q v H') ∧ Outs K w H E E'
def LiftSX (K : Frag) (w0 : Wd) (H0 : Hp) (t : TS) (td : TDS) : Prop := ∀ (w : Wd) (σ : L2.St) (H : Hp) (env : DEnv) (st : Store) (D : Ends) (D' : DEnds), Rel K w0 H0 w σ H env st → td D' env st → EndsOk K w0 H0 w D D' → t D σ H
structure DX (X : Cx) (w0 : Wd) (H0 : Hp) (s : Stmt) (td : TDS) : Prop where ex : ∃ t, PS X s t ∧ LiftSX X.K w0 H0 t td
structure DXs (X : Cx) (w0 : Wd) (H0 : Hp) (ss : List Stmt) (td : TDS) : Prop where ex : ∃ t, PSs X ss t ∧ LiftSX X.K w0 H0 t td
section
variable {X : Cx} {w0 : Wd} {H0 : Hp} {s : Stmt} {rest : List Stmt} {a c : Expr} {p pos pos2 : Pos} {t u : TDS} {ta : TD} {tt : TDT} {C : Addr} {cn qn : Str} {k : Nat} {E : XK} {E' : Addr → D → Store → Prop}
theorem DS.x (h : DS X s t) : DX X w0 H0 s t := by
  obtain ⟨f, p, l⟩ := h.ex
  exact ⟨f, p, l w0 H0⟩
theorem DSs.x (h : DSs X rest t) : DXs X w0 H0 rest t := by
  obtain ⟨f, p, l⟩ := h.ex
  exact ⟨f, p, l w0 H0⟩
theorem x_cons (h1 : DX X w0 H0 s t) (h2 : DXs X w0 H0 rest u) : DXs X w0 H0 (s :: rest) (sSeq t u) := by
  obtain ⟨f, p, l⟩ := h1.ex
  obtain ⟨g, p2, l2⟩ := h2.ex
  refine ⟨_, pss_cons p p2, fun w σ H env st D D' r q k => ?_⟩
  exact l w σ H env st _ _ r q ⟨fun w' σ' H' env' st' le r' q' => l2 w' σ' H' env' st' D D' r' q' (k.le le), k.rt, k.bk, k.ct⟩
theorem x_one (h1 : DX X w0 H0 s t) : DXs X w0 H0 [s] t := by
  obtain ⟨f, p, l⟩ := h1.ex
  exact ⟨_, pss_one p, l⟩
theorem x_if {xs ys : List Stmt} (hc : DT X c tt) (ha : DXs X w0 H0 xs t) (hb : DXs X w0 H0 ys u) : DX X w0 H0 (.If c xs ys pos) (sIf tt t u) := by
  obtain ⟨f, p, l⟩ := hc.ex
  obtain ⟨g, p2, l2⟩ := ha.ex
  obtain ⟨h, p3, l3⟩ := hb.ex
  refine ⟨_, ps_if p p2 p3, fun w σ H env st D D' r q k => l H0 w σ H env st _ _ r.sl r.s q fun w' H' b st' x s q => ?_⟩
  cases b with
  | true =>
    rw [if_pos rfl] at q ⊢
    exact l2 w' σ H' env st' D D' (r.ext x s) q (k.le x.le)
  | false =>
    rw [if_neg Bool.false_ne_true] at q ⊢
    exact l3 w' σ H' env st' D D' (r.ext x s) q (k.le x.le)
/-- raise cn(a) -/
def sRaise (C : Addr) (E' : Addr → D → Store → Prop) (ta : TD) : TDS := fun _ env st => ta env st fun d st1 => E' C d st1
theorem x_raise (hE : Outs X.K w0 H0 E E') (tk : Takes X fun cls d _ H => E cls d H) (T : PySem.ErrX.ErrTxt X.K X.mg cn qn C) (hr : Room k X.A) (ha : DE X a ta) (hc : X.calm = true := by rfl) (hg : Gl X cn := by rfl) (hdb : (cn == ("__debug__" : Str)) = false := by decide)
    (he : starEach (a :: []) X.env = (false, eval a X.env) :: starEach [] X.env := by rfl) (hpl : (backTo pos (starEach [] X.env)).any (·.1) = false := by rfl) :
    DX X w0 H0 (.Raise (some (.Call (.Name cn p) [a] [] pos)) none pos2) (sRaise C E' ta) := by
  obtain ⟨te, pe, le⟩ := ha.ex
  refine ⟨_, ps_raise hc tk (pmk_err T hr (pa_cons pe pa_nil he) hg hdb he hpl), fun w σ H env st D D' r q k => ?_⟩
  refine le H0 w σ H env st _ _ r.sl r.s q fun w1 H1 v d st1 e1 s1 r1 q1 => ?_
  refine ⟨v, rfl, fun dd hd => ?_⟩
  obtain ⟨x2, s2⟩ := ext_frozen (o := .xd [(("value" : Str), v)]) s1 hd
  exact hE _ _ C dd v d st1 ((r.x.trans e1).trans x2) s2 (x2.rep r1) upd_same q1
end
section
variable {P : Program} {w : World} {K : Frag} {mg : Str → Option Value} {base : Heap} {x qual : Str} {params : Arguments} {body : List Stmt} {scope : Scope} {dvs : List V} {kws : List (Str × V)} {f : Addr} {fd : FuncData}
theorem def_okX {N ps : List Str} {k n : Nat} {φ : PhiX} (F : FunD K x qual params body scope dvs kws f fd) (S : FnScope N ps scope) (hn : ps.length = n)
    (hb : ∀ (cdv : Value) (A : Around) (outer : List Env) (s : Shared) (H : Hp) (E : XK) (w0 : Wd) (E' : Addr → D → Store → Prop), Room k (A.deeper (PyProof.Rows.envOfC qual scope s.heap.objs.size f cdv)) → Outs K w0 H E E' →
      ∃ tds, DXs (cxOf (L2.CX P w) P w K mg base N qual scope f cdv A outer s H E) w0 H body tds ∧ ∀ ds st Q, ds.length = n → φ ds st Q E' → tds { nx := fun _ st' => Q (.dat .non) st', rt := Q } (startE N ds) st) : FnOk P w K mg base (L2.CX P w) (k + 1) f fd ps (spX K n φ) := by
  refine F.ok S (fun vs H Q E h => ?_) fun cdv A outer s H vs Q E hr h => ?_
  · obtain ⟨w, ds, st, Q', E', hl, so, r, _⟩ := h
    rw [← r.length, hl, hn]
  · obtain ⟨w, ds, st, Q', E', hl, so, r, hφ, k, hE⟩ := h
    obtain ⟨tds, hd, hq⟩ := hb cdv A outer s H E w E' hr hE
    obtain ⟨t, p, l⟩ := hd.ex
    refine ⟨t, p, l w (L2.start N vs) H (startE N ds) st _ _ ⟨Ext.refl _ _, so, slots_start r⟩ (hq ds st Q' hl hφ) ⟨fun w' σ' H' env' st' le r' q => ?_, fun w' H' v ev st' x s r q => k w' H' v ev st' x s r q, fun _ _ _ _ _ _ _ q => q.elim, fun _ _ _ _ _ _ _ q => q.elim⟩⟩
    exact k w' H' .non (.dat .non) st' r'.x r'.s rfl q
end
/-- what isinstance says of an error of the class C, asked for three classes; and that the clause's class catches it -/
def Kinds (K : Frag) (mg : Str → Option Value) (B C1 C2 C3 C : Addr) (b1 b2 b3 : Bool) : Prop :=
  (∃ cn qn, PySem.ErrX.ErrTxt K mg cn qn C) ∧ PySem.W.exmOne K (.ref C) (.ref B) = some true ∧ PySem.W.kitOne K (.ref C) (.ref C1) = some b1 ∧ PySem.W.kitOne K (.ref C) (.ref C2) = some b2 ∧ PySem.W.kitOne K (.ref C) (.ref C3) = some b3
theorem slots_none {K : Frag} {H0 H : Hp} {w : Wd} {σ : L2.St} {env : DEnv} (sl : Slots K H0 w σ H env) (i : Nat) (v : Option V) : Slots K H0 w (σ.set i v) H (env.set i none) := by
  obtain ⟨Ls, h, dj⟩ := sl.ok
  refine ⟨by rw [List.length_set, List.length_set]; exact sl.len, Ls, fun j ev he => ?_, dj⟩
  rw [List.getElem?_set] at he
  split at he
  · split at he
    · cases he
    · cases he
  · rename_i hne
    obtain ⟨u, hu, rest⟩ := h j ev he
    exact ⟨u, by rw [List.getElem?_set_ne hne]; exact hu, rest⟩
/-- try: told = f(one, other) if way == 0 else g(one, other); except B as error: caught = [[isinstance(error, C1), isinstance(error, C2), isinstance(error, C3)], error.value]; slots way, one, other, caught, told, error -/
def sHeard (K : Frag) (mg : Str → Option Value) (B C1 C2 C3 : Addr) (φ1 φ2 : PhiX) : TDS := fun D env st => env.length = 6 ∧ ∃ (way : Int) (one other : DL.D), env[0]? = some (some (.dat (.int way))) ∧ env[1]? = some (some (.dat one)) ∧ env[2]? = some (some (.dat other)) ∧
  (if way = 0 then φ1 else φ2) [one, other] st (fun ev st' => D.nx (env.set 4 (some ev)) st') fun C dv st' => ∃ b1 b2 b3, Kinds K mg B C1 C2 C3 C b1 b2 b3 ∧ D.nx ((env.set 3 (some (.dat (.lst [.lst [.bl b1, .bl b2, .bl b3], dv])))).set 5 none) st'
section
variable {X : Cx} {φ1 φ2 : PhiX} {k1 k2 : Nat} {f1 f2 B C1 C2 C3 : Addr} {fd1 fd2 : FuncData} {ps1 ps2 : List Str} {x1 x2 xB n1 n2 n3 : Str}
def hTry (K : Frag) (φ1 φ2 : PhiX) (W : WX) : TS := tAsg (tIf (tTest (tOp rEq (tVar 0) (tC (.int 0)))) (tCallS (spX K 2 φ1) (WE W) (tCons (tVar 1) (tCons (tVar 2) tNil))) (tCallS (spX K 2 φ2) (WE W) (tCons (tVar 1) (tCons (tVar 2) tNil)))) (gName 4)
def hSuite (X : Cx) (C1 C2 C3 : Addr) : Addr → Value → Option Addr → TS := fun a cls d => tAsg (tLst (tCons (tLst (tCons (tCB (rIsErr X.K X.mg cls d a) (tCons (tVar 5) (tCons (tC (.ref C1)) tNil))) (tCons (tCB (rIsErr X.K X.mg cls d a) (tCons (tVar 5) (tCons (tC (.ref C2)) tNil))) (tCons (tCB (rIsErr X.K X.mg cls d a) (tCons (tVar 5) (tCons (tC (.ref C3)) tNil))) tNil))))
  (tCons (tByErr (X := X) a cls d (tVar 5)) tNil))) (gName 3)
theorem lift_hSuite {a dd : Addr} {v : V} {dv : DL.D} {b1 b2 b3 : Bool} {C : Addr} {w0 w : Wd} {H0 H : Hp} {σ : L2.St} {env : DEnv} {st : Store} {D : Ends} {Dn : DEnv → Store → Prop} (hk : Kinds X.K X.mg B C1 C2 C3 C b1 b2 b3) (r : Rel X.K w0 H0 w (σ.set 5 (some (.ref a))) H (env.set 5 none) st) (h5 : 5 < σ.length)
    (hz : w.Z dd = some (.xd [(("value" : Str), v)])) (rv : Rep X.K w.cl w.Z dv v) (q : Dn ((env.set 3 (some (.dat (.lst [.lst [.bl b1, .bl b2, .bl b3], dv])))).set 5 none) st)
    (hn : ∀ w' σ' H', Le w w' → Rel X.K w0 H0 w' σ' H' ((env.set 3 (some (.dat (.lst [.lst [.bl b1, .bl b2, .bl b3], dv])))).set 5 none) st → Dn ((env.set 3 (some (.dat (.lst [.lst [.bl b1, .bl b2, .bl b3], dv])))).set 5 none) st → D.nx (σ'.set 5 none) H') : hSuite X C1 C2 C3 a (.ref C) (some dd) { nx := fun σ' H' => D.nx (σ'.set 5 none) H', rt := D.rt, bk := fun σ' H' => D.bk (σ'.set 5 none) H', ct := fun σ' H' => D.ct (σ'.set 5 none) H' } (σ.set 5 (some (.ref a))) H := by
  obtain ⟨T, _, e1, e2, e3⟩ := hk
  have hv : (σ.set 5 (some (.ref a)))[5]? = some (some (.ref a)) := List.getElem?_set_self h5
  have hx := r.s.sub _ _ hz
  refine ⟨.ref a, hv, .ref C1, .ref C1, b1, C, dd, v, rfl, rfl, rfl, hx, T, fun u h => h, e1, ?_⟩
  refine ⟨.ref a, hv, .ref C2, .ref C2, b2, C, dd, v, rfl, rfl, rfl, hx, T, fun u h => h, e2, ?_⟩
  refine ⟨.ref a, hv, .ref C3, .ref C3, b3, C, dd, v, rfl, rfl, rfl, hx, T, fun u h => h, e3, ?_⟩
  refine ⟨by show 3 ≤ sizeLine; decide, fun p1 hp1 => ?_⟩
  obtain ⟨x1, s1⟩ := ext_frozen (o := .lst [.bl b1, .bl b2, .bl b3]) r.s hp1
  have r1 := r.ext x1 s1
  have hx1 := s1.sub _ _ (x1.z _ _ hz)
  refine ⟨.ref a, hv, rfl, C, dd, v, rfl, rfl, hx1, T, ?_⟩
  refine ⟨by show 2 ≤ sizeLine; decide, fun p2 hp2 => ?_⟩
  obtain ⟨x2, s2⟩ := ext_frozen (o := .lst [.ref p1, v]) s1 hp2
  have r2 := r1.ext x2 s2
  have rl : Rep X.K w.cl (upd (upd w.Z p1 (.lst [.bl b1, .bl b2, .bl b3])) p2 (.lst [.ref p1, v])) (.lst [.lst [.bl b1, .bl b2, .bl b3], dv]) (.ref p2) := by
    refine ⟨p2, _, rfl, upd_same, ?_⟩
    refine ⟨.ref p1, _, rfl, ?_, v, _, rfl, x2.rep (x1.rep rv), rfl⟩
    refine ⟨p1, _, rfl, x2.z _ _ upd_same, ?_⟩
    exact ⟨.bl b1, _, rfl, rfl, .bl b2, _, rfl, rfl, .bl b3, _, rfl, rfl, rfl⟩
  have r3 : Rel X.K w0 H0 _ ((σ.set 5 (some (.ref a))).set 3 (some (.ref p2))) _ ((env.set 5 none).set 3 (some (.dat (.lst [.lst [.bl b1, .bl b2, .bl b3], dv])))) st := ⟨r2.x, r2.s, slots_dat r2.sl 3 rl⟩
  rw [show (env.set 5 none).set 3 (some (.dat (.lst [.lst [.bl b1, .bl b2, .bl b3], dv]))) = (env.set 3 (some (.dat (.lst [.lst [.bl b1, .bl b2, .bl b3], dv])))).set 5 none from List.set_comm _ _ (by decide)] at r3
  exact hn _ _ _ (x1.le.trans x2.le) r3 q
theorem lift_heard {w0 w : Wd} {H0 H : Hp} {σ : L2.St} {env : DEnv} {st : Store} {D : Ends} {D' : DEnds} {Wout : WX} (r : Rel X.K w0 H0 w σ H env st) (q : sHeard X.K X.mg B C1 C2 C3 φ1 φ2 D' env st) (k : EndsOk X.K w0 H0 w D D') :
    hTry X.K φ1 φ2 (wAs X.K (.ref B) 5 (hSuite X C1 C2 C3) Wout D) D σ H := by
  obtain ⟨h5, way, one, other, g0, g1, g2, q⟩ := q
  obtain ⟨Ls, ok, _⟩ := r.sl.ok
  have hl := r.sl.len
  obtain ⟨v0, h0, ⟨_, r0⟩, _⟩ := ok 0 _ g0
  obtain ⟨v1, h1, ⟨_, r1⟩, _⟩ := ok 1 _ g1
  obtain ⟨v2, h2, ⟨_, r2⟩, _⟩ := ok 2 _ g2
  obtain rfl : v0 = .int way := r0
  have call : ∀ φ : PhiX, φ [one, other] st (fun ev st' => D'.nx (env.set 4 (some ev)) st') (fun C dv st' => ∃ b1 b2 b3, Kinds X.K X.mg B C1 C2 C3 C b1 b2 b3 ∧ D'.nx ((env.set 3 (some (.dat (.lst [.lst [.bl b1, .bl b2, .bl b3], dv])))).set 5 none) st') →
      tCallS (spX X.K 2 φ) (WE (wAs X.K (.ref B) 5 (hSuite X C1 C2 C3) Wout D)) (tCons (tVar 1) (tCons (tVar 2) tNil)) σ H (fun x H1 => gName 4 x σ H1 D.nx) := by
    intro φ hφ
    refine ⟨v1, h1, v2, h2, w, [one, other], st, _, _, rfl, r.s, .cons r1 (.cons r2 rfl), hφ, fun w' H' v ev st' x s rv q => ?_, fun w' H' C dd v dv st' x s rv hz q => ?_⟩
    · exact k.nx w' _ H' _ st' x.le ⟨r.x.trans x, s, slots_res r.sl r.x x 4 rv⟩ q
    · obtain ⟨b1, b2, b3, hk, q⟩ := q
      refine ⟨true, hk.2.1, fun _ a ha => ?_, fun z => Bool.noConfusion z⟩
      have r' : Rel X.K w0 H0 w' (σ.set 5 (some (.ref a))) H' (env.set 5 none) st' := ⟨r.x.trans x, s, slots_none (r.sl.ext x) 5 _⟩
      refine lift_hSuite (B := B) (Dn := D'.nx) hk r' (by omega) hz rv q fun w2 σ2 H2 le2 r2 q2 => ?_
      have r4 := slots_none r2.sl 5 none
      rw [List.set_set] at r4
      exact k.nx w2 _ H2 _ st' (x.le.trans le2) ⟨r2.x, r2.s, r4⟩ q2
  refine ⟨.int way, h0, ⟨rfl, _, rfl, ?_⟩⟩
  by_cases c : way = 0
  · rw [if_pos c] at q
    subst c
    rw [if_pos (by simp)]
    exact call φ1 q
  · rw [if_neg c] at q
    rw [if_neg (by simpa using c)]
    exact call φ2 q
theorem s_heard {y0 y1 y2 y3 y4 y5 : Str} {pw pt pn po po' pp p1 p2 pc pd q1 q2 q3 q4 q5 q6 q7 q8 q9 q10 q11 q12 q13 q14 q15 q16 q17 q18 q19 q20 q21 q22 q23 q24 q25 q26 : Pos} {j : Nat} (hnd : X.N.Nodup) (F1 : FnOk X.prog X.w X.K X.mg X.base (L2.CX X.prog X.w) k1 f1 fd1 ps1 (spX X.K 2 φ1)) (T1 : TxF X.K X.mg x1 f1 fd1 ps1) (hr1 : Room k1 X.A)
    (F2 : FnOk X.prog X.w X.K X.mg X.base (L2.CX X.prog X.w) k2 f2 fd2 ps2 (spX X.K 2 φ2)) (T2 : TxF X.K X.mg x2 f2 fd2 ps2) (hr2 : Room k2 X.A) (hB : X.mg xB = some (.ref B)) (h1 : X.mg n1 = some (.ref C1)) (h2 : X.mg n2 = some (.ref C2)) (h3 : X.mg n3 = some (.ref C3))
    (hi : X.mg "isinstance" = none) (hs : X.stack = X.env :: X.outer := by rfl) (hf : X.env.frame = some X.env.locals := by rfl)
    (i0 : X.N[0]? = some y0 := by rfl) (i1 : X.N[1]? = some y1 := by rfl) (i2 : X.N[2]? = some y2 := by rfl) (i3 : X.N[3]? = some y3 := by rfl) (i4 : X.N[4]? = some y4 := by rfl) (i5 : X.N[5]? = some y5 := by rfl)
    (l0 : X.env.kindOf y0 = some .local := by rfl) (l1 : X.env.kindOf y1 = some .local := by rfl) (l2 : X.env.kindOf y2 = some .local := by rfl) (l3 : X.env.kindOf y3 = some .local := by rfl) (l4 : X.env.kindOf y4 = some .local := by rfl) (l5 : X.env.kindOf y5 = some .local := by rfl)
    (d0 : (y0 == ("__debug__" : Str)) = false := by decide) (d1 : (y1 == ("__debug__" : Str)) = false := by decide) (d2 : (y2 == ("__debug__" : Str)) = false := by decide) (d5 : (y5 == ("__debug__" : Str)) = false := by decide)
    (c0 : (y0 == ("__classdict__" : Str)) = false := by decide) (c1 : (y1 == ("__classdict__" : Str)) = false := by decide) (c2 : (y2 == ("__classdict__" : Str)) = false := by decide) (c5 : (y5 == ("__classdict__" : Str)) = false := by decide)
    (g1 : Gl X x1 := by rfl) (g2 : Gl X x2 := by rfl) (gB : Gl X xB := by rfl) (gi : Gl X "isinstance" := by rfl) (m1 : Gl X n1 := by rfl) (m2 : Gl X n2 := by rfl) (m3 : Gl X n3 := by rfl)
    (e1 : (x1 == ("__debug__" : Str)) = false := by decide) (e2 : (x2 == ("__debug__" : Str)) = false := by decide) (eB : (xB == ("__debug__" : Str)) = false := by decide) (en1 : (n1 == ("__debug__" : Str)) = false := by decide) (en2 : (n2 == ("__debug__" : Str)) = false := by decide) (en3 : (n3 == ("__debug__" : Str)) = false := by decide) :
    DS X (.Try [.Assign [.Name y4 pt] (.IfExp (.Compare (.Name y0 pw) [.Eq] [.Constant (.int 0) j q1] q2) (.Call (.Name x1 p1) [.Name y1 pn, .Name y2 po] [] q3) (.Call (.Name x2 p2) [.Name y1 pp, .Name y2 po'] [] q4) q5) q6]
      [.ExceptHandler (some (.Name xB q7)) (some y5) [.Assign [.Name y3 pc] (.List [.List [.Call (.Name "isinstance" q8) [.Name y5 q9, .Name n1 q10] [] q11, .Call (.Name "isinstance" q12) [.Name y5 q13, .Name n2 q14] [] q15, .Call (.Name "isinstance" q16) [.Name y5 q17, .Name n3 q18] [] q19] q20, .Attribute (.Name y5 q21) "value" q22] q23) q24] q25] [] [] q26)
      (sHeard X.K X.mg B C1 C2 C3 φ1 φ2) := by
  refine ⟨_, ps_try_as (i := 5) (tb := fun W => hTry X.K φ1 φ2 W) (ts := hSuite X C1 C2 C3) (Wout := fun _ _ _ _ => False) hs hf hnd i5 l5 ⟨gB, eB, .inl hB⟩ takes0 (fun W pn xe tk _ => ?_) (fun a oe cls d pn hz hf' => ?_), fun w0 H0 w σ H env st D D' r q k => lift_heard r q k⟩
  · refine pss_one (ps_set (i := 4) hnd i4 (.inl l4) (by
      exact pe_ifExp (pt_cmpR op_eq (pe_var i0 (.inl l0) d0 c0) pe_int (nomark _))
        (pe_callS F1 hr1 g1 T1.g T1.kp T1.b (fun σ => passAt tk σ) (by exact (pa_cons (pe_var i1 (.inl l1) d1 c1) (pa_cons (pe_var i2 (.inl l2) d2 c2) pa_nil))) e1)
        (pe_callS F2 hr2 g2 T2.g T2.kp T2.b (fun σ => passAt tk σ) (by exact (pa_cons (pe_var i1 (.inl l1) d1 c1) (pa_cons (pe_var i2 (.inl l2) d2 c2) pa_nil))) e2)) (by rfl) (.inr l4))
  · have ve : PE (X.suite a ((a, oe) :: pn)) (.Name y5 q9) (tVar 5) := pe_var i5 (.inl l5) d5 c5
    have ve2 : PE (X.suite a ((a, oe) :: pn)) (.Name y5 q13) (tVar 5) := pe_var i5 (.inl l5) d5 c5
    have ve3 : PE (X.suite a ((a, oe) :: pn)) (.Name y5 q17) (tVar 5) := pe_var i5 (.inl l5) d5 c5
    have ve4 : PE (X.suite a ((a, oe) :: pn)) (.Name y5 q21) (tVar 5) := pe_var i5 (.inl l5) d5 c5
    have is : CallR (X.suite a ((a, oe) :: pn)) (.builtin "isinstance") (rIsErr X.K X.mg cls d a) := call_isErr hz hf'
    refine pss_one (ps_set (i := 3) hnd i3 (.inl l3) (by
      exact pe_lst (pa_cons (pe_lst (pa_cons (pe_callB is gi hi (by rfl) (pa_cons ve (pa_cons (pe_glob m1 h1 rfl en1) pa_nil))) (pa_cons (pe_callB is gi hi (by rfl) (pa_cons ve2 (pa_cons (pe_glob m2 h2 rfl en2) pa_nil))) (pa_cons (pe_callB is gi hi (by rfl) (pa_cons ve3 (pa_cons (pe_glob m3 h3 rfl en3) pa_nil))) pa_nil))))
        (pa_cons (pe_byErr hz hf' ve4) pa_nil))) (by rfl) (.inr l3))
end
end DL

set_option Elab.async false
set_option linter.all false
set_option maxRecDepth 100000
set_option maxHeartbeats 4000000
/-! DL38: == and != of data that hold an empty dict; text in capitals, text times a number. -/
namespace PySem
namespace DictX
open PySem.W PySem.Calls PyProof.Rows PySem.SeqAt
section
variable {prog : Program} {w : World} {A : Around} {E : Value → Shared → Prop} {s : Shared}
theorem dict_declines_list {a b : Addr} {items : Array Value} (ta : s.TypeIs (.ref a) "dict") (hb : s.heap.IsList b items) {Q : Value → Shared → Prop} (h : Q .notImplemented s) : wpAny (model prog w) A (call (.builtin "dict.__eq__") [.ref a, .ref b]) Q E s := by
  obtain ⟨ob, ho, hc, n, hd⟩ := hb
  refine wpAny_call_entry PySem.F.slot_dict_eq ta PySem.F.entry_dict_eq ?_ (PySem.F.args_dict_eq_2 _ _)
  show wpAny _ _ (Builtin.Dict.dictSlotArgs "__eq__" ⟨[.ref a, .ref b], []⟩ >>= _) _ _ s
  refine wpAny_bind ?_
  unfold Builtin.Dict.dictSlotArgs
  refine wpAny_bind (wpAny_notOrdered_dict ta ?_)
  show wpAny _ _ (pure (Value.ref a, Value.ref b)) _ _ s
  refine wpAny_pure ?_
  refine wpAny_bind (wpAny_isInstance (T := "list") ⟨_, ho, hc⟩ PySem.F.sub_list_dict ?_)
  simp only [Bool.not_false, if_true]
  wp_walk
  exact ⟨_, rfl, h⟩
theorem list_eq_declines_dict (l b : Addr) (items : Array Value) (n : Nat) (dd dd2 : Option Addr) (es : Array DictEntry) (ep : Nat) (sl sl2 : Array (Option Value)) :
    Meets (Builtin.«list.__eq__» ⟨[.ref l, .ref b], []⟩) (fun _ R s => s.heap.get? l = some { cls := .type "list", dict := dd, data := .seq items n, slots := sl } ∧ s.heap.get? b = some { cls := .type "dict", dict := dd2, data := .dict es ep, slots := sl2 } ∧ R (.ok (.ret .notImplemented)) s) :=
  .of_wp fun prog w A R s h => by obtain ⟨hp, g, d, tk, os⟩ := s; obtain ⟨hl, hb, h⟩ := h; have f1 := F.sub_dict_list; wp_walk using wpAny_loadPart' hl, wpAny_loadPart' hb; exact ⟨_, rfl, h⟩
theorem rc_dict_list {a b : Addr} {items : Array Value} {od : Obj} {es : Array DictEntry} {ep : Nat} (ha : s.heap.get? a = some od) (hca : od.cls = .type "dict") (hda : od.data = .dict es ep) (hb : s.heap.IsList b items) (hu : A.units < cLine) {Q : Value → Shared → Prop} (h : Q (.bool false) s) :
    wpAny (model prog w) A (compareOp .Eq (.ref a) (.ref b)) Q E s := by
  have hb' := hb
  obtain ⟨⟨cls2, dd2, data2, sl2⟩, ho2, hc2, n2, hd2⟩ := id hb
  obtain ⟨cls, dd, data, sl⟩ := od
  simp only at hc2 hd2 hca hda
  subst hc2 hd2 hca hda
  have hne : a ≠ b := by
    intro e
    subst e
    rw [ha] at ho2
    exact absurd (congrArg Obj.cls (Option.some.inj ho2)) (by simp)
  have ta : s.TypeIs (.ref a) "dict" := ⟨_, ha, rfl⟩
  exact rc_eq_decline_or (k := false) ta ⟨_, ho2, rfl⟩ (by decide) F.sub_list_dict F.slot_dict_eq F.slot_list_eq_refl
    (fun _ hq => dict_declines_list ta hb' hq)
    (fun _ hq => call_meets F.slot_list_eq_refl ⟨_, ho2, rfl⟩ F.entry_list_eq (F.args_list_eq_2 _ _) (list_eq_declines_dict b a items n2 dd2 dd es ep sl2 sl) ⟨ho2, ha, hq⟩)
    (fun _ hq => by
      first
        | exact wpAny_isSame_ref_other hne ha ho2 (by simp) hq
        | exact wpAny_isSame_ref_other' hne ha ho2 (by simp) hq) (.inr hu) h
/-- two empty dicts -/
theorem eqAt_dict0 {P : Program} {w0 : World} {a b : Addr} (ya : (a == sysModules) = false) (yb : (b == sysModules) = false) (da : s.heap.DictOf (L2.mixKind P w0) a []) (db : s.heap.DictOf (L2.mixKind P w0) b []) (hu : A.units < cLine) : EqAt A s (.ref a) (.ref b) true := by
  intro prog w E Q h
  by_cases e : a = b
  · subst e
    exact EqAt.same _ prog w E Q h
  have tr : ∀ {c : Addr}, s.heap.DictOf (L2.mixKind P w0) c [] → s.heap.DictOf (L2.mixKind prog w) c [] := by
    rintro c ⟨o, es, ep, h1, h2, h3, h4, h5, h6⟩
    have e0 : es.toList = [] := by
      generalize es.toList = l at h5
      cases h5
      rfl
    obtain rfl : es = #[] := by
      obtain ⟨l⟩ := es
      simpa using e0
    refine ⟨o, #[], ep, h1, h2, h3, ?_, .nil, h6⟩
    first
      | exact fun _ h => absurd h (by simp)
      | (intro x hx; simp at hx)
      | (unfold KeysOf; simp)
      | simp [KeysOf]
  exact (EqIn.of_refs e fun E Q hq => keq_eqIn (ka := []) (kb := []) (r := true) ya yb (tr da) (tr db) hu (fun _ => .nil) hq) E Q h
end
end DictX
end PySem

namespace DL
open PySem PySem.Spec PyProof.Rows L2
/-- data that is equal to itself by ==: empty dicts too -/
def D.py1 : Nat → D → Bool
  | _, .non => true
  | _, .bl _ => true
  | _, .int _ => true
  | _, .str _ => true
  | _, .dK [] [] => true
  | n + 1, .lst ds => ds.all (D.py1 n)
  | n + 1, .tup ds => ds.all (D.py1 n)
  | _, _ => false
section
variable {X : Cx} {pins : List (Addr × Obj)} {σ : L2.St} {H Z : Hp} {s : Shared} {cl : List Addr}
theorem eqAt_items {A : Around} : ∀ (ds : List D) (ih : ∀ d ∈ ds, ∀ v v' u u', Rep X.K cl Z d v → Rep X.K cl Z d v' → RelV v u → RelV v' u' → SeqAt.EqAt A s u u' true) (vs vs' : List V) (us us' : List Value), Reps X.K cl Z ds vs → Reps X.K cl Z ds vs' → Vals vs us → Vals vs' us' →
    ∀ j (h1 : j < us.length) (h2 : j < us'.length), SeqAt.EqAt A s us[j] us'[j] true
  | [], _, vs, vs', us, us', r1, r2, a1, a2, j, h1, h2 => by
    obtain rfl : vs = [] := r1
    cases a1
    exact absurd h1 (Nat.not_lt_zero j)
  | d :: ds, ih, vs, vs', us, us', r1, r2, a1, a2, j, h1, h2 => by
    obtain ⟨v, r, rfl, p1, q1⟩ := r1
    obtain ⟨v', r', rfl, p2, q2⟩ := r2
    cases a1 with
    | cons x1 y1 =>
      cases a2 with
      | cons x2 y2 =>
        cases j with
        | zero => exact ih d List.mem_cons_self _ _ _ _ p1 p2 x1 x2
        | succ j => exact eqAt_items ds (fun e he => ih e (List.mem_cons_of_mem _ he)) _ _ _ _ q1 q2 y1 y2 j (Nat.lt_of_succ_lt_succ h1) (Nat.lt_of_succ_lt_succ h2)
theorem rd_dict {a : Addr} {ks : List (Key × V)} (I : Inv X pins σ H s) (h : Rd H a (.dK ks)) : ObjOk X.prog X.w H s.heap a (.dK ks) := by
  rcases h with h | ⟨o, h⟩
  · exact I.hok a _ h
  · exact (I.hok a _ h).2
theorem eqAt_self (I : Inv X pins σ H s) (hz : Same Z H) : ∀ (n : Nat) (d : D), D.py1 n d = true → ∀ A : Around, A.units + n < cLine → ∀ v v' u u', Rep X.K cl Z d v → Rep X.K cl Z d v' → RelV v u → RelV v' u' → SeqAt.EqAt A s u u' true := by
  intro n
  induction n with
  | zero =>
    intro d hd A hu v v' u u' r r' rv rv'
    match d, hd with
    | .non, _ => cases r; cases r'; exact eqAt_same rv rv' rfl
    | .bl _, _ => cases r; cases r'; exact eqAt_same rv rv' rfl
    | .int _, _ => cases r; cases r'; exact eqAt_same rv rv' rfl
    | .str _, _ => cases r; cases r'; exact eqAt_same rv rv' rfl
    | .dK [] [], _ =>
      obtain ⟨a, vs, rfl, hl, h, _⟩ := r
      obtain ⟨b, ws, rfl, hl', h', _⟩ := r'
      cases (show u = Value.ref a from rv)
      cases (show u' = Value.ref b from rv')
      obtain ⟨_, ya, va, ka, da⟩ := rd_dict I (Same.rd hz h)
      obtain ⟨_, yb, vb, kb, db⟩ := rd_dict I (Same.rd hz h')
      cases ka
      cases kb
      exact PySem.DictX.eqAt_dict0 ya yb da db (by omega)
  | succ n ih =>
    intro d hd A hu v v' u u' r r' rv rv'
    match d, hd with
    | .non, _ => cases r; cases r'; exact eqAt_same rv rv' rfl
    | .bl _, _ => cases r; cases r'; exact eqAt_same rv rv' rfl
    | .int _, _ => cases r; cases r'; exact eqAt_same rv rv' rfl
    | .str _, _ => cases r; cases r'; exact eqAt_same rv rv' rfl
    | .dK [] [], _ =>
      obtain ⟨a, vs, rfl, hl, h, _⟩ := r
      obtain ⟨b, ws, rfl, hl', h', _⟩ := r'
      cases (show u = Value.ref a from rv)
      cases (show u' = Value.ref b from rv')
      obtain ⟨_, ya, va, ka, da⟩ := rd_dict I (Same.rd hz h)
      obtain ⟨_, yb, vb, kb, db⟩ := rd_dict I (Same.rd hz h')
      cases ka
      cases kb
      exact PySem.DictX.eqAt_dict0 ya yb da db (by omega)
    | .lst ds, hd =>
      have hds : ∀ x ∈ ds, D.py1 n x = true := List.all_eq_true.mp hd
      obtain ⟨a, vs, rfl, h, q⟩ := r
      obtain ⟨b, ws, rfl, h', q'⟩ := r'
      cases (show u = Value.ref a from rv)
      cases (show u' = Value.ref b from rv')
      by_cases e : a = b
      · subst e
        exact SeqAt.EqAt.same _
      obtain ⟨us, r1, p1, _⟩ := I.list (.inl (.inl (hz _ _ h)))
      obtain ⟨us', r2, p2, _⟩ := I.list (.inl (.inl (hz _ _ h')))
      have hsz : us.toArray.size = us'.toArray.size := by
        rw [List.size_toArray, List.size_toArray, ← r1.length, ← r2.length, ← q.length, ← q'.length]
      have := SeqAt.RcAt.lists (A := A) (e := fun _ => true) p1.isList p2.isList hsz (by omega) fun j h1 h2 => by
        have k := eqAt_items (A := A.in1) ds (fun x hx v v' u u' => ih x (hds x hx) A.in1 (by show A.units + 1 + n < cLine; omega) v v' u u') _ _ _ _ q q' r1 r2 j (by simpa using h1) (by simpa using h2)
        simpa using k
      rw [show ((List.range us.toArray.size).all fun _ => true) = true from List.all_eq_true.mpr fun _ _ => rfl] at this
      exact .of_refs e this
    | .tup ds, hd =>
      have hds : ∀ x ∈ ds, D.py1 n x = true := List.all_eq_true.mp hd
      obtain ⟨a, vs, rfl, h, q⟩ := r
      obtain ⟨b, ws, rfl, h', q'⟩ := r'
      cases (show u = Value.ref a from rv)
      cases (show u' = Value.ref b from rv')
      by_cases e : a = b
      · subst e
        exact SeqAt.EqAt.same _
      obtain ⟨us, r1, p1, _⟩ := I.tuple (Same.seqT hz h)
      obtain ⟨us', r2, p2, _⟩ := I.tuple (Same.seqT hz h')
      have hsz : us.toArray.size = us'.toArray.size := by
        rw [List.size_toArray, List.size_toArray, ← r1.length, ← r2.length, ← q.length, ← q'.length]
      have := SeqAt.RcAt.tuples (A := A) (e := fun _ => true) p1 p2 (by omega) fun j h1 h2 => by
        have k := eqAt_items (A := A.in1) ds (fun x hx v v' u u' => ih x (hds x hx) A.in1 (by show A.units + 1 + n < cLine; omega) v v' u u') _ _ _ _ q q' r1 r2 j (by simpa using h1) (by simpa using h2)
        simpa using k
      rw [show ((List.range (min us.toArray.size us'.toArray.size)).all fun _ => true) = true from List.all_eq_true.mpr fun _ _ => rfl, hsz, beq_self_eq_true, Bool.true_and] at this
      exact .of_refs e this
end
end DL
namespace DL
open PySem PySem.Spec PyProof.Rows L2
section
variable {X : Cx}
/-- x == y, y an empty list -/
def rEq0 (K : Frag) : R2 := fun x y H Q => rEqD K x y H Q ∨ (∃ a b, x = .ref a ∧ y = .ref b ∧ Rd H a (.dK []) ∧ H b = some (.lst []) ∧ Q (.bl false) H) ∨ ∃ a b xs, x = .ref a ∧ y = .ref b ∧ SqT K H a xs ∧ H b = some (.lst []) ∧ Q (.bl false) H
theorem op_eq0 (hu : X.A.units + 64 < cLine) : OpR X (compareOp .Eq) (rEq0 X.K) := by
  intro pins s σ H x y v u Q I rx ry h
  rcases h with h | ⟨a, b, rfl, rfl, ha, hb, q⟩ | ⟨a, b, xs, rfl, rfl, ha, hb, q⟩
  · exact op_eqD hu pins s σ H x y v u Q I rx ry h
  · cases (show v = Value.ref a from rx)
    cases (show u = Value.ref b from ry)
    obtain ⟨_, ya, va, ka, o, es, ep, h1, h2, h3, _⟩ := rd_dict I ha
    obtain ⟨us, r1, p1, _⟩ := I.list (.inl (.inl hb))
    exact PySem.DictX.rc_dict_list h1 h2.1 h3 p1.isList (by omega) ⟨.bl false, H, I, rfl, q⟩
  · cases (show v = Value.ref a from rx)
    cases (show u = Value.ref b from ry)
    obtain ⟨us, r1, p1, _⟩ := I.tuple ha
    obtain ⟨us', r2, p2, _⟩ := I.list (.inl (.inl hb))
    exact SeqAt.RcAt.tuple_list (A := X.A) p1 p2.isList (by omega) _ _ _ _ ⟨.bl false, H, I, rfl, q⟩
/-- x != y: y an empty list and x none; or one thing twice -/
def rNe0 (K : Frag) : R2 := fun x y H Q => rNeD K x y H Q ∨ (∃ a b z zs, x = .ref a ∧ y = .ref b ∧ H a = some (.lst (z :: zs)) ∧ H b = some (.lst []) ∧ Q (.bl true) H) ∨
  ∃ cl Z ds, Same Z H ∧ Rep K cl Z (.lst ds) x ∧ Rep K cl Z (.lst ds) y ∧ D.py1 50 (.lst ds) = true ∧ Q (.bl false) H
theorem op_ne0 (hu : X.A.units + 64 < cLine) : OpR X (compareOp .NotEq) (rNe0 X.K) := by
  intro pins s σ H x y v u Q I rx ry h
  rcases h with h | ⟨a, b, z, zs, rfl, rfl, ha, hb, q⟩ | ⟨cl, Z, ds, hz, ra, rb, hd, q⟩
  · exact op_neD hu pins s σ H x y v u Q I rx ry h
  · cases (show v = Value.ref a from rx)
    cases (show u = Value.ref b from ry)
    obtain ⟨us, r1, p1, _⟩ := I.list (.inl (.inl ha))
    obtain ⟨us', r2, p2, _⟩ := I.list (.inl (.inl hb))
    cases r1
    cases r2
    exact SeqAt.RcNeAt.lists_lengths (A := X.A) p1.isList p2.isList (by simp) (by omega) _ _ _ _ ⟨.bl true, H, I, rfl, q⟩
  · obtain ⟨a, vs, rfl, h, qa⟩ := ra
    obtain ⟨b, ws, rfl, h', qb⟩ := rb
    cases (show v = Value.ref a from rx)
    cases (show u = Value.ref b from ry)
    have hds : ∀ x ∈ ds, D.py1 49 x = true := List.all_eq_true.mp hd
    obtain ⟨us, r1, p1, _⟩ := I.list (.inl (.inl (hz _ _ h)))
    obtain ⟨us', r2, p2, _⟩ := I.list (.inl (.inl (hz _ _ h')))
    have hsz : us.toArray.size = us'.toArray.size := by
      rw [List.size_toArray, List.size_toArray, ← r1.length, ← r2.length, ← qa.length, ← qb.length]
    have := SeqAt.RcNeAt.lists (A := X.A) (e := fun _ => true) p1.isList p2.isList hsz (by omega) fun j h1 h2 => by
      have k := eqAt_items (A := X.A.in1) ds (fun x hx v v' u u' => eqAt_self I hz 49 x (hds x hx) X.A.in1 (by show X.A.units + 1 + 49 < cLine; omega) v v' u u') _ _ _ _ qa qb r1 r2 j (by simpa using h1) (by simpa using h2)
      simpa using k
    rw [show ((List.range us.toArray.size).all fun _ => true) = true from List.all_eq_true.mpr fun _ _ => rfl] at this
    exact this _ _ _ _ ⟨.bl false, H, I, rfl, q⟩
def wEq0 : W2 := fun x y Q => (x = .dK [] [] ∧ y = .lst [] ∧ Q (.bl false)) ∨ (∃ xs, x = .tup xs ∧ y = .lst [] ∧ Q (.bl false)) ∨ wEq x y Q
def wNe0 : W2 := fun x y Q => (∃ z zs, x = .lst (z :: zs) ∧ y = .lst [] ∧ Q (.bl true)) ∨ (∃ ds, x = .lst ds ∧ y = .lst ds ∧ D.py1 50 (.lst ds) = true ∧ Q (.bl false)) ∨ wNe x y Q
theorem opl_eq0 : OpL X.K (rEq0 X.K) wEq0 := by
  intro w H st x y v u Qd Q' so rx ry q k
  rcases q with ⟨rfl, rfl, q⟩ | ⟨xs, rfl, rfl, q⟩ | q
  · obtain ⟨a, vs, rfl, hl, h, _⟩ := rx
    obtain ⟨b, ws, rfl, h', e⟩ := ry
    obtain rfl : ws = [] := e
    exact .inr (.inl ⟨a, b, rfl, rfl, Same.rd so.sub h, so.sub _ _ h', k (.bl false) w H _ (Ext.refl _ _) so rfl q⟩)
  · obtain ⟨a, vs, rfl, h, _⟩ := rx
    obtain ⟨b, ws, rfl, h', e⟩ := ry
    obtain rfl : ws = [] := e
    exact .inr (.inr ⟨a, b, vs, rfl, rfl, Same.seqT so.sub h, so.sub _ _ h', k (.bl false) w H _ (Ext.refl _ _) so rfl q⟩)
  · exact .inl (opl_eq w H st x y v u Qd Q' so rx ry q k)
theorem opl_ne0 : OpL X.K (rNe0 X.K) wNe0 := by
  intro w H st x y v u Qd Q' so rx ry q k
  rcases q with ⟨z, zs, rfl, rfl, q⟩ | ⟨ds, rfl, rfl, hd, q⟩ | q
  · obtain ⟨a, vs, rfl, h, v0, vr, rfl, _⟩ := rx
    obtain ⟨b, ws, rfl, h', e⟩ := ry
    obtain rfl : ws = [] := e
    exact .inr (.inl ⟨a, b, v0, vr, rfl, rfl, so.sub _ _ h, so.sub _ _ h', k (.bl true) w H _ (Ext.refl _ _) so rfl q⟩)
  · exact .inr (.inr ⟨w.cl, w.Z, ds, so.sub, rx, ry, hd, k (.bl false) w H _ (Ext.refl _ _) so rfl q⟩)
  · exact .inl (opl_ne w H st x y v u Qd Q' so rx ry q k)
variable {a b e : Expr} {ta tb : TD} {pos : Pos}
theorem d_eq0 (hu : X.A.units + 64 < cLine) (ha : DE X a ta) (hb : DE X b tb) : DE X (.Compare a [.Eq] [b] pos) (dOp wEq0 ta tb) := d_cmp (op_eq0 hu) opl_eq0 ha hb
theorem t_eq0 (hu : X.A.units + 64 < cLine) (ha : DE X a ta) (hb : DE X b tb) : DT X (.Compare a [.Eq] [b] pos) (dTest (dOp wEq0 ta tb)) := t_cmp (op_eq0 hu) opl_eq0 ha hb
theorem d_ne0 (hu : X.A.units + 64 < cLine) (ha : DE X a ta) (hb : DE X b tb) : DE X (.Compare a [.NotEq] [b] pos) (dOp wNe0 ta tb) := d_cmp (op_ne0 hu) opl_ne0 ha hb
theorem t_ne0 (hu : X.A.units + 64 < cLine) (ha : DE X a ta) (hb : DE X b tb) : DT X (.Compare a [.NotEq] [b] pos) (dTest (dOp wNe0 ta tb)) := t_cmp (op_ne0 hu) opl_ne0 ha hb
/-- x.upper() -/
def wUpper : W1 := fun x Q => match x with | .str a => a.length ≤ 1000 ∧ Q (.str (Txt.upper a)) | _ => False
theorem d_upper {apos : Pos} (ho : DE X e ta) (hbase : attributeBase e "upper" X.env (eval e X.env) = eval e X.env := by rfl) (hline : (apos.endLine == pos.line) = true := by rfl) : DE X (.Call (.Attribute e "upper" apos) [] [] pos) (dUn wUpper ta) := by
  obtain ⟨t, p, l⟩ := ho.ex
  refine ⟨_, pe_upper p hbase hline, fun H0 w σ H env st Q Q' sl so q k => l H0 w σ H env st _ _ sl so q fun w' H' v d st' x s r q => ?_⟩
  unfold wUpper at q
  split at q
  · rename_i i
    exact ⟨⟨i, r⟩, i, r, rfl, Nat.le_trans q.1 (by decide), k w' H' _ (.str _) st' x s rfl q.2⟩
  · exact q.elim
/-- a text times a number -/
def repS (a : Str) (n : Nat) : Str := ⟨(List.replicate n a.cps).foldl (· ++ ·) #[]⟩
def wMulS : W2 := fun x y Q => match x, y with | .str a, .int n => (1 < n ∧ n ≤ 1000 ∧ 0 < a.length ∧ a.length ≤ 1000 ∧ (repS a n.toNat).length ≤ 1000) ∧ Q (.str (repS a n.toNat)) | _, _ => False
theorem op_mulS : OpR X (binaryOp .Mult) (fun x y H Q => ∃ a n, x = .str a ∧ y = .int n ∧ (1 < n ∧ n ≤ 1000 ∧ 0 < a.length ∧ a.length ≤ 1000 ∧ (repS a n.toNat).length ≤ 1000) ∧ Q (.str (repS a n.toNat)) H) := by
  intro pins s σ H x y v u Q I rx ry h
  obtain ⟨a, n, rfl, rfl, ⟨h1, h2, h3, h4, h5⟩, q⟩ := h
  obtain ⟨t, rfl⟩ := rx
  obtain ⟨t', rfl⟩ := ry
  refine P.mul_str (by simp; omega) (fun _ _ => ?_) (fun _ _ => ?_) ?_
  · have : (n : Int) ≤ 1000 := h2
    have hd : (1000 : Int) ≤ (2 ^ 63 - 1) / n := by
      rw [Int.le_ediv_iff_mul_le (by omega)]
      omega
    omega
  · have hm : a.length * n.toNat ≤ 1000 * 1000 := Nat.mul_le_mul h4 (by omega)
    have : ¬ a.length * n.toNat > sizeLine := by rw [sizeLine_eq]; omega
    exact decide_eq_false this
  · rw [if_neg (by omega), if_neg (by simp; omega)]
    exact ⟨Nat.le_trans h5 (by decide), ⟨.str (repS a n.toNat), H, I.tok _, ⟨_, rfl⟩, q⟩⟩
theorem d_mulS (ha : DE X a ta) (hb : DE X b tb) : DE X (.BinOp a .Mult b pos) (dOp wMulS ta tb) := d_op op_mulS (by
  intro w H st x y v u Qd Q' so rx ry q k
  unfold wMulS at q
  split at q
  · rename_i a n
    cases rx
    cases ry
    exact ⟨a, n, rfl, rfl, q.1, k (.str _) w H _ (Ext.refl _ _) so rfl q.2⟩
  · exact q.elim) ha hb
/-- x + y, two tuples, the second one empty or not -/
def wCatT0 : W2 := fun x y Q => match x, y with | .tup xs, .tup ys => (xs ≠ [] ∧ xs.length + ys.length ≤ sizeLine) ∧ Q (.tup (xs ++ ys)) | _, _ => False
theorem d_catT0 (ha : DE X a ta) (hb : DE X b tb) : DE X (.BinOp a .Add b pos) (dOp wCatT0 ta tb) := d_op op_catT (by
  intro w H st x y v u Qd Q' so rx ry q k
  unfold wCatT0 at q
  split at q
  · rename_i xs ys
    obtain ⟨l, vs, rfl, hl, r1⟩ := rx
    obtain ⟨m, us, rfl, hm, r2⟩ := ry
    obtain ⟨⟨n1, hz⟩, q⟩ := q
    refine ⟨l, m, vs, us, rfl, rfl, Same.seqT so.sub hl, Same.seqT so.sub hm, ?_, by rw [← r1.length, ← r2.length]; exact hz, fun z => ?_, fun _ p hp => ?_⟩
    · intro z; subst z; exact n1 (by have := r1.length; exact List.length_eq_zero_iff.mp this)
    · subst z
      obtain rfl : ys = [] := by have := r2.length; exact List.length_eq_zero_iff.mp this
      rw [List.append_nil] at q
      exact k (.tup xs) w H (.ref l) (Ext.refl _ _) so ⟨l, vs, rfl, hl, r1⟩ q
    · obtain ⟨e2, s2⟩ := ext_frozen (o := .tup (vs ++ us)) so hp
      exact k (.tup (xs ++ ys)) _ _ (.ref p) e2 s2 ⟨p, _, rfl, .inl (.inl upd_same), e2.reps (r1.append r2)⟩ q
  · exact q.elim) ha hb
end
end DL

set_option Elab.async false
set_option linter.all false
set_option maxRecDepth 100000
set_option maxHeartbeats 4000000
/-! K04_M: sublists in order. -/
namespace K04
open DL PySem PySem.Spec
def lots : List Str → List (List Str)
  | [] => [[]]
  | x :: xs => [[]] ++ (lots xs).map (fun l => [x] ++ l) ++ (lots xs).drop 1
def subsets (xs : List Str) : List (List Str) := xs.foldl (fun F x => F ++ F.map fun l => l ++ [x]) [[]]
theorem lots_cons (xs : List Str) : ∃ r, lots xs = [] :: r := by
  cases xs with
  | nil => exact ⟨[], rfl⟩
  | cons x xs => exact ⟨_, rfl⟩
theorem lots_perm (x : Str) (xs : List Str) : (lots (x :: xs)).Perm (lots xs ++ (lots xs).map fun l => [x] ++ l) := by
  obtain ⟨r, e⟩ := lots_cons xs
  show ([[]] ++ (lots xs).map (fun l => [x] ++ l) ++ (lots xs).drop 1).Perm _
  rw [e]
  simp only [List.drop_succ_cons, List.drop_zero, List.singleton_append, List.cons_append]
  refine List.Perm.cons _ ?_
  exact List.perm_append_comm
theorem subsets_from : ∀ (xs : List Str) (F : List (List Str)), (xs.foldl (fun F x => F ++ F.map fun l => l ++ [x]) F).Perm (F.flatMap fun a => (lots xs).map fun l => a ++ l)
  | [], F => by
    have : (F.flatMap fun a => (lots []).map fun l => a ++ l) = F := by
      simp [lots, List.flatMap_singleton']
    rw [this]; exact .refl _
  | x :: xs, F => by
    rw [List.foldl_cons]
    refine (subsets_from xs _).trans ?_
    rw [List.flatMap_append]
    have e1 : ((F.map fun l => l ++ [x]).flatMap fun a => (lots xs).map fun l => a ++ l) = F.flatMap fun a => ((lots xs).map fun l => [x] ++ l).map fun l => a ++ l := by
      rw [List.flatMap_map]
      congr 1
      funext a
      rw [List.map_map]
      congr 1
      funext l
      simp
    rw [e1]
    clear e1
    induction F with
    | nil => exact .refl _
    | cons a F ih =>
      simp only [List.flatMap_cons]
      refine List.Perm.trans ?_ (List.Perm.append ((lots_perm x xs).map fun l => a ++ l).symm ih)
      rw [List.map_append]
      simp only [List.append_assoc]
      refine List.Perm.append_left _ ?_
      rw [← List.append_assoc, ← List.append_assoc]
      exact List.Perm.append_right _ List.perm_append_comm
theorem subsets_perm (xs : List Str) : (subsets xs).Perm (lots xs) := by
  refine (subsets_from xs [[]]).trans ?_
  simp
/-! ### the order -/
theorem str_ext {x y : Str} (h : x.cps.toList = y.cps.toList) : x = y := by
  obtain ⟨a⟩ := x
  obtain ⟨b⟩ := y
  have : a = b := Array.toList_inj.mp h
  rw [this]
theorem ltS_irrefl (x : Str) : ltS x x = false := decide_eq_false (List.lt_irrefl _)
theorem ltS_trans {x y z : Str} (h : ltS x y = true) (g : ltS y z = true) : ltS x z = true := decide_eq_true (List.lt_trans (of_decide_eq_true h) (of_decide_eq_true g))
theorem ltS_asymm {x y : Str} (h : ltS x y = true) : ltS y x = false := decide_eq_false (List.lt_asymm (of_decide_eq_true h))
theorem ltS_total {x y : Str} (h : ltS x y = false) (g : ltS y x = false) : x = y := by
  have h1 := of_decide_eq_false h
  have h2 := of_decide_eq_false g
  rw [List.not_lt] at h1 h2
  exact str_ext (List.le_antisymm h2 h1)
def ltW : List Str → List Str → Bool
  | [], [] => false
  | [], _ :: _ => true
  | _ :: _, [] => false
  | x :: xs, y :: ys => if x = y then ltW xs ys else ltS x y
theorem ltW_irrefl : ∀ l, ltW l l = false
  | [] => rfl
  | x :: xs => by rw [ltW, if_pos rfl, ltW_irrefl xs]
theorem ltW_asymm : ∀ {l m : List Str}, ltW l m = true → ltW m l = false
  | [], [], h => by cases h
  | [], _ :: _, _ => rfl
  | _ :: _, [], h => by cases h
  | x :: xs, y :: ys, h => by
    rw [ltW] at h ⊢
    by_cases e : x = y
    · rw [if_pos e] at h
      rw [if_pos e.symm]
      exact ltW_asymm h
    · rw [if_neg e] at h
      rw [if_neg (Ne.symm e)]
      exact ltS_asymm h
theorem ltW_total : ∀ {l m : List Str}, ltW l m = false → ltW m l = false → l = m
  | [], [], _, _ => rfl
  | [], _ :: _, h, _ => by cases h
  | _ :: _, [], _, h => by cases h
  | x :: xs, y :: ys, h, g => by
    rw [ltW] at h g
    by_cases e : x = y
    · rw [if_pos e] at h
      rw [if_pos e.symm] at g
      rw [e, ltW_total h g]
    · rw [if_neg e] at h
      rw [if_neg (Ne.symm e)] at g
      exact absurd (ltS_total h g) e
theorem ltW_trans : ∀ {l m n : List Str}, ltW l m = true → ltW m n = true → ltW l n = true
  | [], [], _, h, _ => by cases h
  | [], _ :: _, [], _, g => by cases g
  | [], _ :: _, _ :: _, _, _ => rfl
  | _ :: _, [], _, h, _ => by cases h
  | _ :: _, _ :: _, [], _, g => by cases g
  | x :: xs, y :: ys, z :: zs, h, g => by
    rw [ltW] at h g ⊢
    by_cases e1 : x = y
    · subst e1
      rw [if_pos rfl] at h
      by_cases e2 : x = z
      · subst e2
        rw [if_pos rfl] at g ⊢
        exact ltW_trans h g
      · rw [if_neg e2] at g ⊢
        exact g
    · rw [if_neg e1] at h
      by_cases e2 : y = z
      · subst e2
        rw [if_neg e1]
        exact h
      · rw [if_neg e2] at g
        have hxz := ltS_trans h g
        by_cases e3 : x = z
        · subst e3; rw [ltS_irrefl] at hxz; cases hxz
        · rw [if_neg e3]; exact hxz
theorem ltW_app (x : Str) (l m : List Str) : ltW (x :: l) (x :: m) = ltW l m := by rw [ltW, if_pos rfl]
theorem lots_mem : ∀ {xs : List Str} {l : List Str}, l ∈ lots xs → ∀ x ∈ l, x ∈ xs
  | [], l, h, x, hx => by
    have : l = [] := by simpa [lots] using h
    subst this; simp at hx
  | y :: ys, l, h, x, hx => by
    rcases List.mem_append.mp ((lots_perm y ys).mem_iff.mp h) with h | h
    · exact List.mem_cons_of_mem _ (lots_mem h x hx)
    · obtain ⟨m, hm, rfl⟩ := List.mem_map.mp h
      rcases List.mem_cons.mp hx with e | hx
      · rw [e]; exact List.mem_cons_self
      · exact List.mem_cons_of_mem _ (lots_mem hm x hx)
theorem lots_sorted : ∀ {xs : List Str}, xs.Pairwise (fun a b => ltS a b = true) → (lots xs).Pairwise fun a b => ltW a b = true
  | [], _ => by simp [lots]
  | x :: xs, h => by
    obtain ⟨hx, hp⟩ := List.pairwise_cons.mp h
    have ih := lots_sorted hp
    obtain ⟨r, e⟩ := lots_cons xs
    show ([[]] ++ (lots xs).map (fun l => [x] ++ l) ++ (lots xs).drop 1).Pairwise _
    have hmem : ∀ l ∈ r, ∀ y ∈ l, ltS x y = true := fun l hl y hy => hx y (lots_mem (by rw [e]; exact List.mem_cons_of_mem _ hl) y hy)
    rw [e] at ih ⊢
    obtain ⟨ih1, ih2⟩ := List.pairwise_cons.mp ih
    simp only [List.drop_succ_cons, List.drop_zero, List.singleton_append, List.cons_append, List.nil_append]
    refine List.pairwise_cons.mpr ⟨fun b hb => ?_, List.pairwise_append.mpr ⟨?_, ih2, fun a ha b hb => ?_⟩⟩
    · rcases List.mem_append.mp hb with hb | hb
      · obtain ⟨m, _, rfl⟩ := List.mem_map.mp hb; rfl
      · exact ih1 b hb
    · rw [List.pairwise_map]
      exact ih.imp fun {a b} hab => by rw [ltW_app]; exact hab
    · obtain ⟨m, _, rfl⟩ := List.mem_map.mp ha
      have hb0 := ih1 b hb
      cases b with
      | nil => cases hb0
      | cons y b =>
        have hy := hmem _ hb y List.mem_cons_self
        rw [ltW]
        by_cases e2 : x = y
        · rw [e2, ltS_irrefl] at hy; cases hy
        · rw [if_neg e2]; exact hy
/-- sorted(subsets) is lots -/
theorem sorted_subsets {xs : List Str} (h : xs.Pairwise fun a b => ltS a b = true) : (subsets xs).mergeSort (fun a b => !ltW b a) = lots xs := by
  have hs := lots_sorted h
  refine List.Perm.eq_of_pairwise (le := fun a b => (!ltW b a) = true) (fun a b _ _ h1 h2 => ?_) ?_ ?_ ((List.mergeSort_perm _ _).trans (subsets_perm xs))
  · exact ltW_total (by simpa using h2) (by simpa using h1)
  · refine List.pairwise_mergeSort (fun a b c h1 h2 => ?_) (fun a b => ?_) _
    · cases q : ltW c a with
      | false => rfl
      | true =>
        have h1 : ltW b a = false := by simpa using h1
        have h2 : ltW c b = false := by simpa using h2
        cases q2 : ltW a b with
        | true => rw [ltW_trans q q2] at h2; cases h2
        | false => rw [ltW_total q2 h1] at q; rw [q] at h2; cases h2
    · cases q : ltW b a with
      | false => rfl
      | true => rw [ltW_asymm q]; rfl
  · exact hs.imp fun {a b} hab => by rw [ltW_asymm hab]; rfl
/-! ### as data -/
def strsD (xs : List Str) : D := .lst (xs.map .str)
theorem toPys_strs : ∀ xs : List Str, D.toPys (xs.map D.str) = xs.map PyData.str
  | [] => by simp [D.toPys]
  | x :: xs => by simp [D.toPys, D.toPy, toPys_strs xs]
theorem toPy_strs (xs : List Str) : (strsD xs).toPy = .list (xs.map .str) := by simp [strsD, D.toPy, toPys_strs]
theorem alike_strs : ∀ xs ys : List Str, PySem.W.alikeAll (xs.map PyData.str) (ys.map PyData.str) = true
  | [], _ => by simp [PySem.W.alikeAll]
  | _ :: _, [] => by simp [PySem.W.alikeAll]
  | x :: xs, y :: ys => by
    rw [List.map_cons, List.map_cons, PySem.W.alikeAll, alike_strs xs ys]
    simp [PySem.W.alike]
theorem lt_strs : ∀ xs ys : List Str, PyProof.Rows.lexLt PyProof.Rows.itemOrd (PySem.W.keyToksAll (xs.map PyData.str)) (PySem.W.keyToksAll (ys.map PyData.str)) = ltW xs ys
  | [], [] => PyProof.Rows.lex_irrefl _
  | [], y :: ys => by
    rw [List.map_nil, List.map_cons, PySem.W.toks_all_cons]
    simp only [PySem.W.keyToksAll]
    rw [PyProof.Rows.lex_diff (O := PyProof.Rows.itemOrd) (by simp)]
    rfl
  | x :: xs, [] => by
    rw [List.map_nil, List.map_cons, PySem.W.toks_all_cons]
    simp only [PySem.W.keyToksAll]
    rw [PyProof.Rows.lex_diff (O := PyProof.Rows.itemOrd) (by simp)]
    rfl
  | x :: xs, y :: ys => by
    rw [List.map_cons, List.map_cons, PySem.W.dataLt_cons (by simp [PySem.W.alike]), lt_strs xs ys, ltW, PySem.W.dataLt_str]
    simp only [PyData.eqv, beq_iff_eq]
    rfl
theorem leD_strs (xs ys : List Str) : leD (strsD xs) (strsD ys) = !ltW ys xs := by
  show (!PySem.W.dataLt (strsD ys).toPy (strsD xs).toPy) = _
  rw [toPy_strs, toPy_strs, PySem.W.dataLt_list, lt_strs]
theorem leD_str (x y : Str) : leD (.str x) (.str y) = !ltS y x := by
  show (!PySem.W.dataLt (D.str y).toPy (D.str x).toPy) = _
  simp only [D.toPy]
  rw [PySem.W.dataLt_str]; rfl
end K04

set_option Elab.async false
set_option linter.all false
set_option maxRecDepth 100000
set_option maxHeartbeats 4000000
/-! K04_S: sayings. -/
namespace K04
open DL PySem PySem.Spec
inductive Say where
  | fact (w : Str) | neg (s : Say) | all (l : List Say) | any (l : List Say) | least (n : Nat) (l : List Say)
mutual
def sayD : Say → D
  | .fact w => .tup [.str "fact", .str w]
  | .neg s => .tup [.str "not", sayD s]
  | .all l => .tup [.str "all", .lst (sayDs l)]
  | .any l => .tup [.str "any", .lst (sayDs l)]
  | .least n l => .tup [.str "least", .int (n : Nat), .lst (sayDs l)]
def sayDs : List Say → List D
  | [] => []
  | s :: l => sayD s :: sayDs l
end
theorem sayDs_map : ∀ l : List Say, sayDs l = l.map sayD
  | [] => by simp [sayDs]
  | s :: l => by simp [sayDs, sayDs_map l]
mutual
def holds (world : List Str) : Say → Bool
  | .fact w => decide (w ∈ world)
  | .neg s => !holds world s
  | .all l => (holdsL world l).all id
  | .any l => (holdsL world l).any id
  | .least n l => decide (n ≤ ((holdsL world l).filter id).length)
def holdsL (world : List Str) : List Say → List Bool
  | [] => []
  | s :: l => holds world s :: holdsL world l
end
theorem holdsL_map (world : List Str) : ∀ l : List Say, holdsL world l = l.map (holds world)
  | [] => by simp [holdsL]
  | s :: l => by simp [holdsL, holdsL_map world l]
/-- a word as is_word takes it -/
def wordOk (w : Str) : Bool := decide (0 < w.length ∧ w.length < 13) && w.cps.toList.all (fun c => decide (97 ≤ c ∧ c ≤ 122))
/-- a saying over the facts, at most n deep -/
def okY (facts : List Str) : Nat → Say → Bool
  | _, .fact w => wordOk w && decide (w ∈ facts)
  | n + 1, .neg s => okY facts n s
  | n + 1, .all l => decide (l.length ≤ 100) && l.all (okY facts n)
  | n + 1, .any l => decide (l.length ≤ 100) && l.all (okY facts n)
  | n + 1, .least k l => decide (k ≤ 100) && decide (l.length ≤ 100) && l.all (okY facts n)
  | 0, _ => false
theorem okY_cases {facts : List Str} {n : Nat} {s : Say} (h : okY facts n s = true) : (∃ w, s = .fact w ∧ wordOk w = true ∧ w ∈ facts) ∨ ∃ m, n = m + 1 ∧ ((∃ t, s = .neg t ∧ okY facts m t = true) ∨
    (∃ l, s = .all l ∧ l.length ≤ 100 ∧ ∀ t ∈ l, okY facts m t = true) ∨ (∃ l, s = .any l ∧ l.length ≤ 100 ∧ ∀ t ∈ l, okY facts m t = true) ∨ (∃ k l, s = .least k l ∧ k ≤ 100 ∧ l.length ≤ 100 ∧ ∀ t ∈ l, okY facts m t = true)) := by
  cases s with
  | fact w => cases n <;> (simp [okY] at h; exact .inl ⟨w, rfl, h.1, h.2⟩)
  | neg t =>
    cases n with
    | zero => simp [okY] at h
    | succ m => simp [okY] at h; exact .inr ⟨m, rfl, .inl ⟨t, rfl, h⟩⟩
  | all l =>
    cases n with
    | zero => simp [okY] at h
    | succ m => simp [okY] at h; exact .inr ⟨m, rfl, .inr (.inl ⟨l, rfl, h.1, h.2⟩)⟩
  | any l =>
    cases n with
    | zero => simp [okY] at h
    | succ m => simp [okY] at h; exact .inr ⟨m, rfl, .inr (.inr (.inl ⟨l, rfl, h.1, h.2⟩))⟩
  | least k l =>
    cases n with
    | zero => simp [okY] at h
    | succ m => simp [okY] at h; exact .inr ⟨m, rfl, .inr (.inr (.inr ⟨k, l, rfl, h.1.1, h.1.2, h.2⟩))⟩
theorem cut_next {α : Type} (xs : List α) : cutD xs (some 1) none = xs.drop 1 := by
  unfold cutD
  have e0 : HT.sIx xs.length xs.length none = xs.length := rfl
  cases xs with
  | nil => rfl
  | cons x xs =>
    have e1 : HT.sIx (x :: xs).length 0 (some 1) = 1 := by
      unfold HT.sIx
      simp
    rw [e0, e1]
    exact List.take_of_length_le (by rw [List.length_drop]; omega)
theorem zip_next (xs : List Str) : zipD (xs.map D.str) (cutD (xs.map D.str) (some 1) none) = (xs.zip (xs.drop 1)).map fun p => D.tup [.str p.1, .str p.2] := by
  rw [cut_next, ← List.map_drop]
  unfold zipD
  rw [List.zipWith_map, List.zip, List.map_zipWith]
theorem next_lt {R : Str → Str → Prop} : ∀ {xs : List Str}, xs.Pairwise R → ∀ p ∈ xs.zip (xs.drop 1), R p.1 p.2
  | [], _, p, h => by simp at h
  | [x], _, p, h => by simp at h
  | x :: y :: xs, hp, p, h => by
    obtain ⟨h1, h2⟩ := List.pairwise_cons.mp hp
    simp only [List.drop_succ_cons, List.drop_zero, List.zip_cons_cons] at h
    rcases List.mem_cons.mp h with rfl | h
    · exact h1 y List.mem_cons_self
    · exact next_lt h2 p (by simpa using h)
end K04

set_option Elab.async false
set_option linter.all false
set_option maxRecDepth 100000
set_option maxHeartbeats 4000000
/-! K04_P: frames, worlds, sums. -/
namespace K04
open DL PySem PySem.Spec
structure Fr where
  facts : List Str
  sure : List Say
def frD (F : Fr) : D := .tup [strsD F.facts, .lst (F.sure.map sayD)]
def worldsOf (F : Fr) : List (List Str) := (lots F.facts).filter fun w => (F.sure.map fun s => holds w s).all id
structure FrOk (F : Fr) : Prop where
  words : ∀ w ∈ F.facts, wordOk w = true
  asc : F.facts.Pairwise fun a b => ltS a b = true
  few : F.facts.length ≤ 6
  says : ∀ s ∈ F.sure, okY F.facts 7 s = true
  many : F.sure.length ≤ 50
theorem wordOk_str {w : Str} (h : wordOk w = true) : PyData.strOk w = true := by
  simp only [wordOk, Bool.and_eq_true, decide_eq_true_eq, List.all_eq_true] at h
  unfold PyData.strOk
  rw [Array.all_eq_true']
  intro c hc
  have := h.2 c (by simpa using hc)
  simp
  omega
theorem FrOk.str {F : Fr} (h : FrOk F) : ∀ w ∈ F.facts, PyData.strOk w = true := fun w hw => wordOk_str (h.words w hw)
theorem nodup_asc {xs : List Str} (h : xs.Pairwise fun a b => ltS a b = true) : xs.Nodup := h.imp fun {a b} hab e => by rw [e, ltS_irrefl] at hab; cases hab
theorem okY_mono {facts : List Str} : ∀ {n : Nat} {s : Say}, okY facts n s = true → okY facts (n + 1) s = true := by
  intro n
  induction n with
  | zero => intro s h; cases s <;> simp_all [okY]
  | succ n ih =>
    intro s h
    cases s with
    | fact w => simpa [okY] using h
    | neg t => rw [okY] at h ⊢; exact ih h
    | all l => simp only [okY, Bool.and_eq_true, List.all_eq_true] at h ⊢; exact ⟨h.1, fun t ht => ih (h.2 t ht)⟩
    | any l => simp only [okY, Bool.and_eq_true, List.all_eq_true] at h ⊢; exact ⟨h.1, fun t ht => ih (h.2 t ht)⟩
    | least k l => simp only [okY, Bool.and_eq_true, List.all_eq_true] at h ⊢; exact ⟨h.1, fun t ht => ih (h.2 t ht)⟩
theorem okY_le {facts : List Str} {n m : Nat} {s : Say} (h : okY facts n s = true) (hm : n ≤ m) : okY facts m s = true := by
  induction hm with
  | refl => exact h
  | step _ ih => exact okY_mono ih
theorem lots_length : ∀ xs : List Str, (lots xs).length = 2 ^ xs.length
  | [] => rfl
  | x :: xs => by
    have := (lots_perm x xs).length_eq
    rw [this, List.length_append, List.length_map, lots_length xs, List.length_cons, Nat.pow_succ]; omega
theorem lots_few {xs : List Str} (h : xs.length ≤ 6) : (lots xs).length ≤ 64 := by rw [lots_length]; exact Nat.pow_le_pow_right (n := 2) (by decide) h
theorem worlds_few {F : Fr} (h : F.facts.length ≤ 6) : (worldsOf F).length ≤ 64 := Nat.le_trans (List.length_filter_le ..) (lots_few h)
theorem worlds_mem {F : Fr} {w : List Str} (h : w ∈ worldsOf F) : w ∈ lots F.facts := (List.mem_filter.mp h).1
theorem lots_nodup {xs : List Str} (h : xs.Pairwise fun a b => ltS a b = true) : (lots xs).Nodup := (lots_sorted h).imp fun {a b} hab e => by rw [e, ltW_irrefl] at hab; cases hab
theorem worlds_nodup {F : Fr} (h : FrOk F) : (worldsOf F).Nodup := (lots_nodup h.asc).sublist List.filter_sublist
theorem lots_len : ∀ {xs w : List Str}, w ∈ lots xs → w.length ≤ xs.length
  | [], w, h => by
    have : w = [] := by simpa [lots] using h
    subst this; simp
  | y :: ys, w, h => by
    rcases List.mem_append.mp ((lots_perm y ys).mem_iff.mp h) with h | h
    · exact Nat.le_succ_of_le (lots_len h)
    · obtain ⟨m, hm, rfl⟩ := List.mem_map.mp h
      exact Nat.succ_le_succ (lots_len hm)
theorem lots_sub : ∀ {xs w : List Str}, w ∈ lots xs → w.Sublist xs
  | [], w, h => by
    have : w = [] := by simpa [lots] using h
    subst this; exact .slnil
  | y :: ys, w, h => by
    rcases List.mem_append.mp ((lots_perm y ys).mem_iff.mp h) with h | h
    · exact (lots_sub h).cons _
    · obtain ⟨m, hm, rfl⟩ := List.mem_map.mp h
      exact (lots_sub hm).cons_cons _
theorem lots_asc {xs w : List Str} (h : xs.Pairwise fun a b => ltS a b = true) (hw : w ∈ lots xs) : w.Pairwise fun a b => ltS a b = true := h.sublist (lots_sub hw)
theorem lots_filter : ∀ {xs w : List Str}, xs.Nodup → w ∈ lots xs → w = xs.filter fun f => decide (f ∈ w)
  | [], w, _, h => by
    have : w = [] := by simpa [lots] using h
    subst this; rfl
  | y :: ys, w, hn, h => by
    obtain ⟨hy, hn⟩ := List.nodup_cons.mp hn
    rcases List.mem_append.mp ((lots_perm y ys).mem_iff.mp h) with h | h
    · rw [List.filter_cons_of_neg (by simpa using fun q => hy (lots_mem h y q))]
      exact lots_filter hn h
    · obtain ⟨m, hm, rfl⟩ := List.mem_map.mp h
      rw [List.filter_cons_of_pos (by simp)]
      show y :: m = _
      congr 1
      refine (lots_filter hn hm).trans (List.filter_congr fun f hf => ?_)
      have : f ≠ y := fun e => hy (e ▸ hf)
      simp [this]
theorem lots_eq {xs v w : List Str} (hn : xs.Nodup) (hv : v ∈ lots xs) (hw : w ∈ lots xs) (h : ∀ f ∈ xs, (f ∈ v ↔ f ∈ w)) : v = w := by
  rw [lots_filter hn hv, lots_filter hn hw]
  exact List.filter_congr fun f hf => by rw [decide_eq_decide]; exact h f hf
/-! ### sums -/
abbrev Term := Rat × Say
def termD (t : Term) : D := .tup [qD t.1, sayD t.2]
def sumIn (w : List Str) (ts : List Term) : Rat := sumOf ((ts.filter fun t => holds w t.2).map fun t => t.1)
def worthsOf (F : Fr) (ts : List Term) : List Rat := (worldsOf F).map fun w => sumIn w ts
structure TermsOk (facts : List Str) (n : Nat) (ts : List Term) : Prop where
  bits : ∀ t ∈ ts, Bd n t.1
  says : ∀ t ∈ ts, okY facts 7 t.2 = true
  room : (n + 1) * (ts.length + 1) ≤ 8900
  few : ts.length ≤ 500
def toldWorld (facts w : List Str) : Say := .all (facts.map fun f => if f ∈ w then .fact f else .neg (.fact f))
def sumThere (F : Fr) (ns : List Rat) : List Term := ((ns.zip (worldsOf F)).map fun p => (p.1, toldWorld F.facts p.2)).filter fun t => !decide (t.1 = 0)
theorem holds_told {xs v w : List Str} (hn : xs.Nodup) (hv : v ∈ lots xs) (hw : w ∈ lots xs) : holds v (toldWorld xs w) = decide (v = w) := by
  have h : holds v (toldWorld xs w) = true ↔ ∀ f ∈ xs, (f ∈ v ↔ f ∈ w) := by
    rw [toldWorld, holds, holdsL_map, List.map_map, List.all_eq_true]
    constructor
    · intro h f hf
      have := h _ (List.mem_map.mpr ⟨f, hf, rfl⟩)
      by_cases c : f ∈ w
      · simp [c, holds] at this; simp [c, this]
      · simp [c, holds] at this; simp [c, this]
    · intro h b hb
      obtain ⟨f, hf, rfl⟩ := List.mem_map.mp hb
      have := h f hf
      by_cases c : f ∈ w
      · simp [c, holds, this]
      · simp [c, holds, this]
  by_cases e : v = w
  · subst e; rw [decide_eq_true rfl]; exact h.mpr fun _ _ => Iff.rfl
  · rw [decide_eq_false e]
    cases q : holds v (toldWorld xs w) with
    | false => rfl
    | true => exact absurd (lots_eq hn hv hw (h.mp q)) e
def toldIn (xs : List Str) (v : List Str) (ps : List (Rat × List Str)) : Rat := sumIn v ((ps.map fun p => (p.1, toldWorld xs p.2)).filter fun t => !decide (t.1 = 0))
theorem toldIn_cons {xs v : List Str} (hn : xs.Nodup) (hv : v ∈ lots xs) (p : Rat × List Str) (hp : p.2 ∈ lots xs) (ps : List (Rat × List Str)) : toldIn xs v (p :: ps) = (if v = p.2 then p.1 else 0) + toldIn xs v ps := by
  unfold toldIn sumIn
  rw [List.map_cons]
  by_cases c : p.1 = 0
  · rw [List.filter_cons_of_neg (by simp [c])]
    by_cases e : v = p.2
    · rw [if_pos e, c, Rat.zero_add]
    · rw [if_neg e, Rat.zero_add]
  · rw [List.filter_cons_of_pos (by simp [c])]
    by_cases e : v = p.2
    · rw [List.filter_cons_of_pos (by show holds v (toldWorld xs p.2) = true; rw [holds_told hn hv hp, decide_eq_true e]), List.map_cons, sumOf_cons, if_pos e]
    · rw [List.filter_cons_of_neg (by show ¬ holds v (toldWorld xs p.2) = true; rw [holds_told hn hv hp, decide_eq_false e]; exact Bool.false_ne_true), if_neg e, Rat.zero_add]
theorem toldIn_zero {xs v : List Str} (hn : xs.Nodup) (hv : v ∈ lots xs) : ∀ ps : List (Rat × List Str), (∀ p ∈ ps, p.2 ∈ lots xs) → v ∉ ps.map (fun p => p.2) → toldIn xs v ps = 0
  | [], _, _ => rfl
  | p :: ps, h, hm => by
    rw [toldIn_cons hn hv p (h p List.mem_cons_self), if_neg fun e => hm (by rw [e]; simp), Rat.zero_add]
    exact toldIn_zero hn hv ps (fun p hp => h p (List.mem_cons_of_mem _ hp)) fun q => hm (List.mem_cons_of_mem _ q)
theorem toldIn_at {xs : List Str} (hn : xs.Nodup) : ∀ ps : List (Rat × List Str), (∀ p ∈ ps, p.2 ∈ lots xs) → (ps.map fun p => p.2).Nodup → ∀ p ∈ ps, toldIn xs p.2 ps = p.1
  | [], _, _, p, hp => by simp at hp
  | q :: ps, h, hm, p, hp => by
    obtain ⟨h1, h2⟩ := List.nodup_cons.mp hm
    rw [toldIn_cons hn (h p hp) q (h q List.mem_cons_self)]
    rcases List.mem_cons.mp hp with rfl | hp'
    · rw [if_pos rfl, toldIn_zero hn (h p hp) ps (fun p hp => h p (List.mem_cons_of_mem _ hp)) h1, Rat.add_zero]
    · rw [if_neg fun e => h1 (List.mem_map.mpr ⟨p, hp', e⟩), Rat.zero_add]
      exact toldIn_at hn ps (fun p hp => h p (List.mem_cons_of_mem _ hp)) h2 p hp'
theorem worths_told {F : Fr} (h : FrOk F) {ns : List Rat} (hl : ns.length = (worldsOf F).length) : worthsOf F (sumThere F ns) = ns := by
  have e2 : (ns.zip (worldsOf F)).map (fun p => p.2) = worldsOf F := by
    show (ns.zip (worldsOf F)).map Prod.snd = _
    rw [List.map_snd_zip (by omega)]
  have e1 : (ns.zip (worldsOf F)).map (fun p => p.1) = ns := by
    show (ns.zip (worldsOf F)).map Prod.fst = _
    rw [List.map_fst_zip (by omega)]
  have hm : ∀ p ∈ ns.zip (worldsOf F), p.2 ∈ lots F.facts := fun p hp => worlds_mem (by rw [← e2]; exact List.mem_map.mpr ⟨p, hp, rfl⟩)
  have hnd : ((ns.zip (worldsOf F)).map fun p => p.2).Nodup := by rw [e2]; exact worlds_nodup h
  have e3 : worthsOf F (sumThere F ns) = (ns.zip (worldsOf F)).map fun p => toldIn F.facts p.2 (ns.zip (worldsOf F)) := by
    show (worldsOf F).map (fun w => toldIn F.facts w (ns.zip (worldsOf F))) = _
    conv => lhs; rw [← e2]
    rw [List.map_map, e2]; rfl
  rw [e3]
  refine Eq.trans (List.map_congr_left fun p hp => ?_) e1
  exact toldIn_at (nodup_asc h.asc) _ hm hnd p hp
end K04

set_option Elab.async false
set_option linter.all false
set_option maxRecDepth 100000
set_option maxHeartbeats 4000000
/-! K04_W: the tags of sayings, told apart. -/
namespace K04
open DL PySem PySem.Spec
theorem wq_fact_fact {Q : DL.D → Prop} : wEq (.str "fact") (.str "fact") Q = Q (.bl true) := by rw [wEq_str (by decide +kernel) (by decide +kernel), decide_eq_true (by decide)]
theorem wq_fact_not {Q : DL.D → Prop} : wEq (.str "fact") (.str "not") Q = Q (.bl false) := by rw [wEq_str (by decide +kernel) (by decide +kernel), decide_eq_false (by decide)]
theorem wq_fact_all {Q : DL.D → Prop} : wEq (.str "fact") (.str "all") Q = Q (.bl false) := by rw [wEq_str (by decide +kernel) (by decide +kernel), decide_eq_false (by decide)]
theorem wq_fact_any {Q : DL.D → Prop} : wEq (.str "fact") (.str "any") Q = Q (.bl false) := by rw [wEq_str (by decide +kernel) (by decide +kernel), decide_eq_false (by decide)]
theorem wq_fact_least {Q : DL.D → Prop} : wEq (.str "fact") (.str "least") Q = Q (.bl false) := by rw [wEq_str (by decide +kernel) (by decide +kernel), decide_eq_false (by decide)]
theorem wq_not_fact {Q : DL.D → Prop} : wEq (.str "not") (.str "fact") Q = Q (.bl false) := by rw [wEq_str (by decide +kernel) (by decide +kernel), decide_eq_false (by decide)]
theorem wq_not_not {Q : DL.D → Prop} : wEq (.str "not") (.str "not") Q = Q (.bl true) := by rw [wEq_str (by decide +kernel) (by decide +kernel), decide_eq_true (by decide)]
theorem wq_not_all {Q : DL.D → Prop} : wEq (.str "not") (.str "all") Q = Q (.bl false) := by rw [wEq_str (by decide +kernel) (by decide +kernel), decide_eq_false (by decide)]
theorem wq_not_any {Q : DL.D → Prop} : wEq (.str "not") (.str "any") Q = Q (.bl false) := by rw [wEq_str (by decide +kernel) (by decide +kernel), decide_eq_false (by decide)]
theorem wq_not_least {Q : DL.D → Prop} : wEq (.str "not") (.str "least") Q = Q (.bl false) := by rw [wEq_str (by decide +kernel) (by decide +kernel), decide_eq_false (by decide)]
theorem wq_all_fact {Q : DL.D → Prop} : wEq (.str "all") (.str "fact") Q = Q (.bl false) := by rw [wEq_str (by decide +kernel) (by decide +kernel), decide_eq_false (by decide)]
theorem wq_all_not {Q : DL.D → Prop} : wEq (.str "all") (.str "not") Q = Q (.bl false) := by rw [wEq_str (by decide +kernel) (by decide +kernel), decide_eq_false (by decide)]
theorem wq_all_all {Q : DL.D → Prop} : wEq (.str "all") (.str "all") Q = Q (.bl true) := by rw [wEq_str (by decide +kernel) (by decide +kernel), decide_eq_true (by decide)]
theorem wq_all_any {Q : DL.D → Prop} : wEq (.str "all") (.str "any") Q = Q (.bl false) := by rw [wEq_str (by decide +kernel) (by decide +kernel), decide_eq_false (by decide)]
theorem wq_all_least {Q : DL.D → Prop} : wEq (.str "all") (.str "least") Q = Q (.bl false) := by rw [wEq_str (by decide +kernel) (by decide +kernel), decide_eq_false (by decide)]
theorem wq_any_fact {Q : DL.D → Prop} : wEq (.str "any") (.str "fact") Q = Q (.bl false) := by rw [wEq_str (by decide +kernel) (by decide +kernel), decide_eq_false (by decide)]
theorem wq_any_not {Q : DL.D → Prop} : wEq (.str "any") (.str "not") Q = Q (.bl false) := by rw [wEq_str (by decide +kernel) (by decide +kernel), decide_eq_false (by decide)]
theorem wq_any_all {Q : DL.D → Prop} : wEq (.str "any") (.str "all") Q = Q (.bl false) := by rw [wEq_str (by decide +kernel) (by decide +kernel), decide_eq_false (by decide)]
theorem wq_any_any {Q : DL.D → Prop} : wEq (.str "any") (.str "any") Q = Q (.bl true) := by rw [wEq_str (by decide +kernel) (by decide +kernel), decide_eq_true (by decide)]
theorem wq_any_least {Q : DL.D → Prop} : wEq (.str "any") (.str "least") Q = Q (.bl false) := by rw [wEq_str (by decide +kernel) (by decide +kernel), decide_eq_false (by decide)]
theorem wq_least_fact {Q : DL.D → Prop} : wEq (.str "least") (.str "fact") Q = Q (.bl false) := by rw [wEq_str (by decide +kernel) (by decide +kernel), decide_eq_false (by decide)]
theorem wq_least_not {Q : DL.D → Prop} : wEq (.str "least") (.str "not") Q = Q (.bl false) := by rw [wEq_str (by decide +kernel) (by decide +kernel), decide_eq_false (by decide)]
theorem wq_least_all {Q : DL.D → Prop} : wEq (.str "least") (.str "all") Q = Q (.bl false) := by rw [wEq_str (by decide +kernel) (by decide +kernel), decide_eq_false (by decide)]
theorem wq_least_any {Q : DL.D → Prop} : wEq (.str "least") (.str "any") Q = Q (.bl false) := by rw [wEq_str (by decide +kernel) (by decide +kernel), decide_eq_false (by decide)]
theorem wq_least_least {Q : DL.D → Prop} : wEq (.str "least") (.str "least") Q = Q (.bl true) := by rw [wEq_str (by decide +kernel) (by decide +kernel), decide_eq_true (by decide)]
theorem zipD_map {α β : Type} (f : α → DL.D) (g : β → DL.D) (xs : List α) (ys : List β) : zipD (xs.map f) (ys.map g) = (xs.zip ys).map fun p => DL.D.tup [f p.1, g p.2] := by
  unfold zipD
  rw [List.zipWith_map, List.zip, List.map_zipWith]
theorem holdsL_len (world : List Str) (l : List Say) : ((holdsL world l).filter id).length = (l.filter (holds world)).length := by
  rw [holdsL_map, List.filter_map, List.length_map]; rfl
theorem one_of {w : Str} : ∀ {xs : List Str}, xs.Nodup → ((xs.filter fun f => decide (f = w)).length = 1 ↔ w ∈ xs)
  | [], _ => by simp
  | x :: xs, h => by
    obtain ⟨h1, h2⟩ := List.nodup_cons.mp h
    by_cases e : x = w
    · subst e
      have : xs.filter (fun f => decide (f = x)) = [] := List.filter_eq_nil_iff.mpr fun f hf => by
        simp; intro e; exact h1 (e ▸ hf)
      simp [this]
    · rw [List.filter_cons_of_neg (by simpa using e), one_of h2]
      simp [Ne.symm e]
theorem all_len {p : Say → Bool} (l : List Say) : (l.filter p).length = l.length ↔ (l.map p).all id = true := by
  rw [List.length_filter_eq_length_iff, List.all_map, List.all_eq_true]; rfl
theorem any_len {p : Say → Bool} (l : List Say) : 0 < (l.filter p).length ↔ (l.map p).any id = true := by
  rw [List.length_filter_pos_iff, List.any_map, List.any_eq_true]; rfl
theorem pys_strs' {xs : List Str} (h : ∀ w ∈ xs, PyData.strOk w = true) (n : Nat) : D.pys (xs.map D.str) n = true := pys_map fun w hw => by rw [D.py]; exact h w hw
theorem strsD_py {xs : List Str} (h : ∀ w ∈ xs, PyData.strOk w = true) (n : Nat) : (strsD xs).py (n + 1) = true := by rw [strsD, D.py]; exact pys_strs' h n
theorem wEq_strs0 {xs : List Str} {Q : DL.D → Prop} (h : ∀ w ∈ xs, PyData.strOk w = true) (q : Q (.bl xs.isEmpty)) : wEq (.lst (xs.map .str)) (.lst []) Q :=
  wEq_lst (pys_strs' h _) (by simp [D.pys]) (eqvAll_nil _) (by cases xs <;> exact q)
theorem wNe_strs0 {xs : List Str} {Q : DL.D → Prop} (h : ∀ w ∈ xs, PyData.strOk w = true) (q : Q (.bl !xs.isEmpty)) : wNe (.lst (xs.map .str)) (.lst []) Q :=
  wNe_lst (pys_strs' h _) (by simp [D.pys]) (eqvAll_nil _) (by cases xs <;> exact q)
theorem wNe_worlds0 {ws : List (List Str)} {Q : DL.D → Prop} (h : ∀ x ∈ ws, ∀ w ∈ x, PyData.strOk w = true) (q : Q (.bl !ws.isEmpty)) : wNe (.lst (ws.map strsD)) (.lst []) Q :=
  wNe_lst (pys_map fun x hx => strsD_py (h x hx) _) (by simp [D.pys]) (eqvAll_nil _) (by cases ws <;> exact q)
theorem wEq_qs {xs ys : List Rat} {Q : DL.D → Prop} (q : Q (.bl (decide (xs = ys)))) : wEq (.lst (xs.map qD)) (.lst (ys.map qD)) Q :=
  wEq_lst (pys_map fun x _ => qD_py x _) (pys_map fun x _ => qD_py x _) (by
    rw [Bool.eq_iff_iff, decide_eq_true_iff]
    exact eqvAll_map (fun x y h => by rw [qD_eqv] at h; exact of_decide_eq_true h) (fun x => by rw [qD_eqv, decide_eq_true rfl]) xs ys) q

theorem wIx_fr0 {F : Fr} {Q : DL.D → Prop} : wIx (frD F) (.int 0) Q = Q (strsD F.facts) := wIx_t0
theorem wIx_fr1 {F : Fr} {Q : DL.D → Prop} : wIx (frD F) (.int 1) Q = Q (.lst (F.sure.map sayD)) := wIx_t1
theorem lt9000 {j : Int} (h : j.natAbs < 2 ^ 100) : j.natAbs < 2 ^ 9000 := Nat.lt_of_lt_of_le h (Nat.pow_le_pow_right (by decide) (by decide))
theorem set_same {α : Type} {st : List α} {c : Nat} {x : α} (h : st[c]? = some x) : st.set c x = st := by
  obtain ⟨h1, h2⟩ := List.getElem?_eq_some_iff.mp h
  rw [← h2]; exact List.set_getElem_self h1
theorem wSorted_strs {xs : List Str} {Q : DL.D → Prop} (h : ∀ w ∈ xs, PyData.strOk w = true) (hl : xs.length ≤ 1000) (q : Q (.lst ((xs.mergeSort fun a b => !ltS b a).map .str))) : wSorted (.lst (xs.map .str)) Q := by
  refine ⟨⟨size_small (by rw [List.length_map]; exact hl), fun d hd => ?_, ?_, ?_⟩, ?_⟩
  · obtain ⟨w, hw, rfl⟩ := List.mem_map.mp hd
    rw [D.py]; exact h w hw
  · rw [List.map_map]
    intro a ha b hb
    obtain ⟨x, _, rfl⟩ := List.mem_map.mp ha
    obtain ⟨y, _, rfl⟩ := List.mem_map.mp hb
    simp [D.toPy, PySem.W.alike]
  · rw [List.map_map]
    exact .others fun b => ⟨by simp [D.toPy], fun xs => by simp [D.toPy]⟩
  · rw [← List.map_mergeSort (r := fun a b => !ltS b a) (s := leD) fun a _ b _ => (leD_str a b).symm]
    exact q
theorem wSorted_lists {ws : List (List Str)} {Q : DL.D → Prop} (h : ∀ x ∈ ws, ∀ w ∈ x, PyData.strOk w = true) (hl : ws.length ≤ 1000) (q : Q (.lst ((ws.mergeSort fun a b => !ltW b a).map strsD))) : wSorted (.lst (ws.map strsD)) Q := by
  refine ⟨⟨size_small (by rw [List.length_map]; exact hl), fun d hd => ?_, ?_, ?_⟩, ?_⟩
  · obtain ⟨w, hw, rfl⟩ := List.mem_map.mp hd
    exact strsD_py (h w hw) _
  · rw [List.map_map]
    intro a ha b hb
    obtain ⟨x, _, rfl⟩ := List.mem_map.mp ha
    obtain ⟨y, _, rfl⟩ := List.mem_map.mp hb
    show PySem.W.alike (strsD x).toPy (strsD y).toPy = true
    rw [toPy_strs, toPy_strs, PySem.W.alike]
    exact alike_strs x y
  · rw [List.map_map]
    exact .others fun b => ⟨by show (strsD b).toPy ≠ _; rw [toPy_strs]; simp, fun xs => by show (strsD b).toPy ≠ _; rw [toPy_strs]; simp⟩
  · rw [← List.map_mergeSort (r := fun a b => !ltW b a) (s := leD) fun a _ b _ => (leD_strs a b).symm]
    exact q
theorem subsets_snoc (xs : List Str) (x : Str) : subsets (xs ++ [x]) = subsets xs ++ (subsets xs).map fun l => l ++ [x] := by
  unfold subsets; rw [List.foldl_append]; rfl
theorem subsets_few {xs : List Str} (h : xs.length ≤ 6) : (subsets xs).length ≤ 64 := by rw [(subsets_perm xs).length_eq]; exact lots_few h
theorem sort_asc {ys : List Str} (hn : ys.Nodup) : (ys.mergeSort fun a b => !ltS b a).Pairwise fun a b => ltS a b = true := by
  have h1 : (ys.mergeSort fun a b => !ltS b a).Pairwise fun a b => (!ltS b a) = true := by
    refine List.pairwise_mergeSort (fun a b c h1 h2 => ?_) (fun a b => ?_) _
    · cases q : ltS c a with
      | false => rfl
      | true =>
        have h1 : ltS b a = false := by simpa using h1
        have h2 : ltS c b = false := by simpa using h2
        cases q2 : ltS a b with
        | true => rw [ltS_trans q q2] at h2; cases h2
        | false => rw [ltS_total q2 h1] at q; rw [q] at h2; cases h2
    · cases q : ltS b a with
      | false => rfl
      | true => rw [ltS_asymm q]; rfl
  have h2 : (ys.mergeSort fun a b => !ltS b a).Nodup := (List.mergeSort_perm _ _).nodup_iff.mpr hn
  refine (h1.and h2).imp fun {a b} ⟨h3, h4⟩ => ?_
  cases q : ltS a b with
  | true => rfl
  | false => exact absurd (ltS_total q (by simpa using h3)) h4
end K04

set_option Elab.async false
set_option linter.all false
set_option maxRecDepth 100000
set_option maxHeartbeats 4000000
/-! FAM_V: what the checks tell of any data; bets. -/
namespace K04
open DL PySem PySem.Spec
def D.at' : DL.D → Nat → DL.D
  | .tup xs, i => xs.getD i .non
  | _, _ => .non
def D.items' : DL.D → List DL.D
  | .lst xs => xs
  | _ => []
def isListD : DL.D → Bool
  | .lst _ => true
  | _ => false
def isWholeD : DL.D → Bool
  | .int _ => true
  | _ => false
def isCountD : DL.D → Int → Bool
  | .int i, j => decide (i ≥ if 0 > j then 0 else j)
  | _, _ => false
def isTupD : DL.D → Int → Bool
  | .tup r, n => decide ((r.length : Int) = n)
  | _, _ => false
def isWordD : DL.D → Bool
  | .str w => wordOk w
  | _ => false
def saidD : DL.D → Str → Int → Bool
  | .tup (.str w :: r), t, n => decide (((r.length + 1 : Nat) : Int) = n) && decide (w = t)
  | _, _, _ => false
theorem saidD_2 {d : DL.D} {t : Str} (h : saidD d t 2 = true) : ∃ x, d = .tup [.str t, x] := by
  unfold saidD at h
  split at h
  · rename_i w r
    rw [Bool.and_eq_true, decide_eq_true_eq, decide_eq_true_eq] at h
    obtain ⟨h1, rfl⟩ := h
    match r, h1 with
    | [x], _ => exact ⟨x, rfl⟩
    | [], h1 => simp at h1
    | _ :: _ :: _, h1 => simp only [List.length_cons] at h1; omega
  · cases h
theorem saidD_3 {d : DL.D} {t : Str} (h : saidD d t 3 = true) : ∃ x y, d = .tup [.str t, x, y] := by
  unfold saidD at h
  split at h
  · rename_i w r
    rw [Bool.and_eq_true, decide_eq_true_eq, decide_eq_true_eq] at h
    obtain ⟨h1, rfl⟩ := h
    match r, h1 with
    | [x, y], _ => exact ⟨x, y, rfl⟩
    | [], h1 => simp at h1
    | [x], h1 => simp at h1
    | _ :: _ :: _ :: _, h1 => simp only [List.length_cons] at h1; omega
  · cases h
def inF : Option (List Str) → DL.D → Bool
  | none, _ => true
  | some l, .str w => decide (w ∈ l)
  | _, _ => false
def isSay (facts : Option (List Str)) : Nat → DL.D → Bool
  | 0, _ => false
  | n + 1, d =>
    if saidD d "fact" 2 = true then isWordD (D.at' d 1) && inF facts (D.at' d 1)
    else if saidD d "not" 2 = true then isSay facts n (D.at' d 1)
    else if saidD d "all" 2 = true ∨ saidD d "any" 2 = true then isListD (D.at' d 1) && (D.items' (D.at' d 1)).all (isSay facts n)
    else if saidD d "least" 3 = true ∧ isCountD (D.at' d 1) 0 = true then isListD (D.at' d 2) && (D.items' (D.at' d 2)).all (isSay facts n)
    else false
theorem said_tag {t u : Str} {r : List DL.D} {n : Int} : saidD (.tup (.str t :: r)) u n = (decide (((r.length + 1 : Nat) : Int) = n) && decide (t = u)) := rfl
theorem okV_le {n m : Nat} {d : DL.D} (h : okV n d = true) (hm : n ≤ m) : okV m d = true := by
  induction hm with
  | refl => exact h
  | step _ ih => exact okV_mono ih
theorem okV_str {w : Str} (h : PyData.strOk w = true) (hl : w.length ≤ 1000) (n : Nat) : okV n (.str w) = true := by
  cases n <;> simp [okV, leafV, h, hl]
theorem word_len {w : Str} (h : wordOk w = true) : w.length ≤ 1000 := by
  simp only [wordOk, Bool.and_eq_true, decide_eq_true_eq] at h
  omega
theorem okV_int {i : Int} (h : i.natAbs < 2 ^ 2000) (n : Nat) : okV n (.int i) = true := by
  cases n <;> simp only [okV, leafV, decide_eq_true_eq] <;> exact h
theorem okV_tup {n : Nat} {ds : List DL.D} (hl : ds.length ≤ 1000) (h : ∀ d ∈ ds, okV n d = true) : okV (n + 1) (.tup ds) = true := by
  simp only [okV, Bool.and_eq_true, decide_eq_true_eq, List.all_eq_true]; exact ⟨hl, h⟩
theorem okV_lst {n : Nat} {ds : List DL.D} (hl : ds.length ≤ 1000) (h : ∀ d ∈ ds, okV n d = true) : okV (n + 1) (.lst ds) = true := by
  simp only [okV, Bool.and_eq_true, decide_eq_true_eq, List.all_eq_true]; exact ⟨hl, h⟩
theorem small100 {k : Nat} (h : k ≤ 100) : ((k : Nat) : Int).natAbs < 2 ^ 2000 := by
  rw [Int.natAbs_natCast]
  exact Nat.lt_of_le_of_lt h (Nat.lt_of_lt_of_le (by decide : 100 < 2 ^ 7) (Nat.pow_le_pow_right (by decide) (by decide)))
theorem okV_tag (t : Str) (ht : PyData.strOk t = true := by decide +kernel) (hl : t.length ≤ 1000 := by decide) (n : Nat) : okV n (.str t) = true := okV_str ht hl n
theorem okV_say {facts : List Str} : ∀ {n : Nat} {s : Say}, okY facts n s = true → okV (2 * n + 1) (sayD s) = true := by
  intro n
  induction n with
  | zero =>
    intro s h
    rcases okY_cases h with ⟨w, rfl, hw, _⟩ | ⟨m, e, _⟩
    · simp only [sayD]
      refine okV_tup (by simp) fun d hd => ?_
      simp only [List.mem_cons, List.not_mem_nil, or_false] at hd
      rcases hd with rfl | rfl
      · exact okV_tag "fact" (n := _)
      · exact okV_str (wordOk_str hw) (word_len hw) _
    · cases e
  | succ n ih =>
    intro s h
    rcases okY_cases h with ⟨w, rfl, hw, _⟩ | ⟨m, e, ⟨t, rfl, ht⟩ | ⟨l, rfl, hl, hls⟩ | ⟨l, rfl, hl, hls⟩ | ⟨k, l, rfl, hk, hl, hls⟩⟩
    · simp only [sayD]
      refine okV_tup (by simp) fun d hd => ?_
      simp only [List.mem_cons, List.not_mem_nil, or_false] at hd
      rcases hd with rfl | rfl
      · exact okV_tag "fact" (n := _)
      · exact okV_str (wordOk_str hw) (word_len hw) _
    all_goals
      cases e
      simp only [sayD, sayDs_map]
      refine okV_tup (n := 2 * n + 2) (by simp) fun d hd => ?_
      simp only [List.mem_cons, List.not_mem_nil, or_false] at hd
    · rcases hd with rfl | rfl
      · exact okV_tag "not" (n := _)
      · exact okV_mono (ih ht)
    · rcases hd with rfl | rfl
      · exact okV_tag "all" (n := _)
      · refine okV_lst (by rw [List.length_map]; omega) fun d hd => ?_
        obtain ⟨t, ht, rfl⟩ := List.mem_map.mp hd
        exact ih (hls t ht)
    · rcases hd with rfl | rfl
      · exact okV_tag "any" (n := _)
      · refine okV_lst (by rw [List.length_map]; omega) fun d hd => ?_
        obtain ⟨t, ht, rfl⟩ := List.mem_map.mp hd
        exact ih (hls t ht)
    · rcases hd with rfl | rfl | rfl
      · exact okV_tag "least" (n := _)
      · exact okV_int (small100 hk) _
      · refine okV_lst (by rw [List.length_map]; omega) fun d hd => ?_
        obtain ⟨t, ht, rfl⟩ := List.mem_map.mp hd
        exact ih (hls t ht)
theorem okV_say' {facts : List Str} {n m : Nat} {s : Say} (h : okY facts n s = true) (hm : 2 * n + 1 ≤ m) : okV m (sayD s) = true := okV_le (okV_say h) hm
theorem isSay_ok {facts : List Str} : ∀ {n : Nat} {s : Say}, okY facts n s = true → ∀ m, n < m → isSay (some facts) m (sayD s) = true := by
  intro n
  induction n with
  | zero =>
    intro s h m hm
    obtain ⟨m, rfl⟩ : ∃ k, m = k + 1 := ⟨m - 1, by omega⟩
    rcases okY_cases h with ⟨w, rfl, hw, hi⟩ | ⟨m, e, _⟩
    · simp only [sayD]
      rw [isSay, if_pos (by rw [said_tag]; simp)]
      simp [D.at', isWordD, inF, hw, hi]
    · cases e
  | succ n ih =>
    intro s h m hm
    obtain ⟨m, rfl⟩ : ∃ k, m = k + 1 := ⟨m - 1, by omega⟩
    rcases okY_cases h with ⟨w, rfl, hw, hi⟩ | ⟨k, e, ⟨t, rfl, ht⟩ | ⟨l, rfl, hl, hls⟩ | ⟨l, rfl, hl, hls⟩ | ⟨k, l, rfl, hk, hl, hls⟩⟩
    · simp only [sayD]
      rw [isSay, if_pos (by rw [said_tag]; simp)]
      simp [D.at', isWordD, inF, hw, hi]
    all_goals
      cases e
      simp only [sayD, sayDs_map]
    · rw [isSay, if_neg (by rw [said_tag]; simp; decide), if_pos (by rw [said_tag]; simp)]
      exact ih ht m (by omega)
    · rw [isSay, if_neg (by rw [said_tag]; simp; decide), if_neg (by rw [said_tag]; simp; decide), if_pos (.inl (by rw [said_tag]; simp))]
      simp only [D.at', List.getD_cons_succ, List.getD_cons_zero, isListD, D.items', Bool.true_and, List.all_map, List.all_eq_true]
      exact fun t ht => ih (hls t ht) m (by omega)
    · rw [isSay, if_neg (by rw [said_tag]; simp; decide), if_neg (by rw [said_tag]; simp; decide), if_pos (.inr (by rw [said_tag]; simp))]
      simp only [D.at', List.getD_cons_succ, List.getD_cons_zero, isListD, D.items', Bool.true_and, List.all_map, List.all_eq_true]
      exact fun t ht => ih (hls t ht) m (by omega)
    · rw [isSay, if_neg (by rw [said_tag]; simp), if_neg (by rw [said_tag]; simp), if_neg (by rw [said_tag, said_tag]; simp), if_pos ⟨by rw [said_tag]; simp, by simp only [D.at', List.getD_cons_succ, List.getD_cons_zero, isCountD, decide_eq_true_eq]; rw [if_neg (by omega)]; omega⟩]
      simp only [D.at', List.getD_cons_succ, List.getD_cons_zero, isListD, D.items', Bool.true_and, List.all_map, List.all_eq_true]
      exact fun t ht => ih (hls t ht) m (by omega)
/-! ### fractions, numbers, bets -/
def plainD : DL.D → Bool
  | .non => true
  | .bl _ => true
  | .int _ => true
  | .str _ => true
  | .lst _ => true
  | .tup _ => true
  | .dK [] [] => true
  | _ => false
theorem plain_cases {d : DL.D} (h : plainD d = true) : d = .non ∨ (∃ b, d = .bl b) ∨ (∃ i, d = .int i) ∨ (∃ w, d = .str w) ∨ (∃ xs, d = .lst xs) ∨ (∃ xs, d = .tup xs) ∨ d = .dK [] [] := by
  unfold plainD at h
  split at h <;> simp_all
theorem wIsi_dK {ks : List L2.Key} {r : List DL.D} {T : String} {Q : DL.D → Prop} : wIsi (.dK ks r) (.ty T) Q = (tyKnown T = true ∧ Q (.bl (isiT "dict" T))) := by simp [wIsi, D.tyn]
def okT1 : DL.D → Bool
  | .tup xs => xs.all plainD
  | d => plainD d
theorem okV_tyn {n : Nat} {d : DL.D} (h : okV n d = true) : plainD d = true := by
  rcases okV_cases h with rfl | ⟨b, rfl⟩ | ⟨i, rfl, hi⟩ | ⟨x, rfl, hx, hl⟩ | rfl | ⟨m, ds, e, rfl, hl, hds⟩ | ⟨m, ds, e, rfl, hl, hds⟩ <;> rfl
theorem okV_T1 {n : Nat} {d : DL.D} (h : okV n d = true) : okT1 d = true := by
  rcases okV_cases h with rfl | ⟨b, rfl⟩ | ⟨i, rfl, hi⟩ | ⟨x, rfl, hx, hl⟩ | rfl | ⟨m, ds, e, rfl, hl, hds⟩ | ⟨m, ds, e, rfl, hl, hds⟩
  any_goals rfl
  simp only [okT1, List.all_eq_true]
  exact fun x hx => okV_tyn (hds x hx)
theorem okT1_plain {d : DL.D} (h : okT1 d = true) : plainD d = true := by
  unfold okT1 at h
  split at h
  · rfl
  · exact h
theorem okT1_q (q : Rat) : okT1 (qD q) = true := rfl
def areNumsD (d : DL.D) (k : Int) : Bool := match d with
  | .lst xs => decide ((xs.length : Int) = k) && xs.all isFracD
  | _ => false
theorem areNums_q (ns : List Rat) : areNumsD (.lst (ns.map qD)) (ns.length : Nat) = true := by
  simp only [areNumsD, List.length_map, decide_true, Bool.true_and, List.all_map, List.all_eq_true]
  exact fun q _ => isFracD_qD q
def weighOf (xs ys : List Rat) : Rat := sumOf (List.zipWith (· * ·) xs ys)
theorem isN_non : DL.D.isN .non = true := rfl
theorem isN_bl {b : Bool} : DL.D.isN (.bl b) = false := rfl
theorem isN_int {i : Int} : DL.D.isN (.int i) = false := rfl
theorem isN_str {x : Str} : DL.D.isN (.str x) = false := rfl
theorem isN_lst {x : List DL.D} : DL.D.isN (.lst x) = false := rfl
theorem isN_tup {x : List DL.D} : DL.D.isN (.tup x) = false := rfl
theorem isN_dK {k : List L2.Key} {x : List DL.D} : DL.D.isN (.dK k x) = false := rfl
theorem isN_q {q : Rat} : DL.D.isN (qD q) = false := rfl
theorem isN_say {s : Say} : DL.D.isN (sayD s) = false := by cases s <;> simp [sayD, D.isN]
theorem isT_non : DL.D.isTop .non = false := rfl
theorem isT_bl {b : Bool} : DL.D.isTop (.bl b) = false := rfl
theorem isT_int {i : Int} : DL.D.isTop (.int i) = false := rfl
theorem isT_str {x : Str} : DL.D.isTop (.str x) = false := rfl
theorem isT_lst {x : List DL.D} : DL.D.isTop (.lst x) = false := rfl
theorem isT_tup {x : List DL.D} : DL.D.isTop (.tup x) = false := rfl
theorem isT_dK {k : List L2.Key} {x : List DL.D} : DL.D.isTop (.dK k x) = false := rfl
theorem isT_q {q : Rat} : DL.D.isTop (qD q) = false := rfl
theorem isT_say {s : Say} : DL.D.isTop (sayD s) = false := by cases s <;> simp [sayD, D.isTop]
end K04

set_option Elab.async false
set_option linter.all false
set_option maxRecDepth 100000
set_option maxHeartbeats 4000000
namespace K02
open PySem PySem.Spec L2 DL
def topS (i : Nat) : Stmt := PySem.Challenge.pw_neversurewin_k02_sayings_judged.main.body.getD i (.Pass ⟨0, 0, 0, 0⟩)
abbrev s_is_whole : Stmt := topS 6
abbrev N_is_whole : List Str := ["value"]
abbrev P_is_whole : List Str := ["value"]
theorem sc_is_whole : FnScope N_is_whole P_is_whole (defScope s_is_whole) := ⟨rfl, rfl, rfl, by decide +kernel, rfl, by decide +kernel, by decide +kernel⟩
abbrev s_is_count : Stmt := topS 7
abbrev N_is_count : List Str := ["value", "least"]
abbrev P_is_count : List Str := ["value", "least"]
theorem sc_is_count : FnScope N_is_count P_is_count (defScope s_is_count) := ⟨rfl, rfl, rfl, by decide +kernel, rfl, by decide +kernel, by decide +kernel⟩
abbrev s_is_word : Stmt := topS 8
abbrev N_is_word : List Str := ["value", "sign"]
abbrev P_is_word : List Str := ["value"]
theorem sc_is_word : FnScope N_is_word P_is_word (defScope s_is_word) := ⟨rfl, rfl, rfl, by decide +kernel, rfl, by decide +kernel, by decide +kernel⟩
abbrev s_is_tuple_of : Stmt := topS 9
abbrev N_is_tuple_of : List Str := ["value", "size"]
abbrev P_is_tuple_of : List Str := ["value", "size"]
theorem sc_is_tuple_of : FnScope N_is_tuple_of P_is_tuple_of (defScope s_is_tuple_of) := ⟨rfl, rfl, rfl, by decide +kernel, rfl, by decide +kernel, by decide +kernel⟩
abbrev s_is_said : Stmt := topS 10
abbrev N_is_said : List Str := ["value", "word", "size"]
abbrev P_is_said : List Str := ["value", "word", "size"]
theorem sc_is_said : FnScope N_is_said P_is_said (defScope s_is_said) := ⟨rfl, rfl, rfl, by decide +kernel, rfl, by decide +kernel, by decide +kernel⟩
abbrev s_are_words : Stmt := topS 12
abbrev N_are_words : List Str := ["value", "one", "late", "word"]
abbrev P_are_words : List Str := ["value"]
theorem sc_are_words : FnScope N_are_words P_are_words (defScope s_are_words) := ⟨rfl, rfl, rfl, by decide +kernel, rfl, by decide +kernel, by decide +kernel⟩
abbrev s_is_saying_of : Stmt := topS 13
abbrev N_is_saying_of : List Str := ["facts", "value", "late"]
abbrev P_is_saying_of : List Str := ["facts", "value"]
theorem sc_is_saying_of : FnScope N_is_saying_of P_is_saying_of (defScope s_is_saying_of) := ⟨rfl, rfl, rfl, by decide +kernel, rfl, by decide +kernel, by decide +kernel⟩
abbrev s_is_saying : Stmt := topS 14
abbrev N_is_saying : List Str := ["facts", "value"]
abbrev P_is_saying : List Str := ["facts", "value"]
theorem sc_is_saying : FnScope N_is_saying P_is_saying (defScope s_is_saying) := ⟨rfl, rfl, rfl, by decide +kernel, rfl, by decide +kernel, by decide +kernel⟩
abbrev s_holds : Stmt := topS 15
abbrev N_holds : List Str := ["saying", "world", "told", "late"]
abbrev P_holds : List Str := ["saying", "world"]
theorem sc_holds : FnScope N_holds P_holds (defScope s_holds) := ⟨rfl, rfl, rfl, by decide +kernel, rfl, by decide +kernel, by decide +kernel⟩
abbrev s_is_so : Stmt := topS 16
abbrev N_is_so : List Str := ["saying", "world"]
abbrev P_is_so : List Str := ["saying", "world"]
theorem sc_is_so : FnScope N_is_so P_is_so (defScope s_is_so) := ⟨rfl, rfl, rfl, by decide +kernel, rfl, by decide +kernel, by decide +kernel⟩
abbrev s__law_purse : Stmt := topS 18
abbrev N__law_purse : List Str := ["script", "at", "seed"]
abbrev P__law_purse : List Str := ["script", "at"]
theorem sc__law_purse : FnScope N__law_purse P__law_purse (defScope s__law_purse) := ⟨rfl, rfl, rfl, by decide +kernel, rfl, by decide +kernel, by decide +kernel⟩
abbrev s__law_mixed : Stmt := topS 19
abbrev N__law_mixed : List Str := ["seed", "spin", "at", "mixed"]
abbrev P__law_mixed : List Str := ["seed", "spin", "at"]
theorem sc__law_mixed : FnScope N__law_mixed P__law_mixed (defScope s__law_mixed) := ⟨rfl, rfl, rfl, by decide +kernel, rfl, by decide +kernel, by decide +kernel⟩
abbrev s__law_draw : Stmt := topS 20
abbrev N__law_draw : List Str := ["purse", "many", "drawn", "found", "piece"]
abbrev P__law_draw : List Str := ["purse", "many"]
theorem sc__law_draw : FnScope N__law_draw P__law_draw (defScope s__law_draw) := ⟨rfl, rfl, rfl, by decide +kernel, rfl, by decide +kernel, by decide +kernel⟩
abbrev s__law_one_of : Stmt := topS 21
abbrev N__law_one_of : List Str := ["purse", "some"]
abbrev P__law_one_of : List Str := ["purse", "some"]
theorem sc__law_one_of : FnScope N__law_one_of P__law_one_of (defScope s__law_one_of) := ⟨rfl, rfl, rfl, by decide +kernel, rfl, by decide +kernel, by decide +kernel⟩
abbrev s__law_shuffled : Stmt := topS 22
abbrev N__law_shuffled : List Str := ["purse", "some", "found", "item"]
abbrev P__law_shuffled : List Str := ["purse", "some"]
theorem sc__law_shuffled : FnScope N__law_shuffled P__law_shuffled (defScope s__law_shuffled) := ⟨rfl, rfl, rfl, by decide +kernel, rfl, by decide +kernel, by decide +kernel⟩
abbrev s__law_same : Stmt := topS 23
abbrev N__law_same : List Str := ["told", "due", "is_like", "key", "one", "other"]
abbrev P__law_same : List Str := ["told", "due"]
theorem sc__law_same : FnScope N__law_same P__law_same (defScope s__law_same) := ⟨rfl, rfl, rfl, by decide +kernel, rfl, by decide +kernel, by decide +kernel⟩
abbrev s__law_purses : Stmt := topS 24
abbrev N__law_purses : List Str := ["script", "few", "at"]
abbrev P__law_purses : List Str := ["script", "few"]
theorem sc__law_purses : FnScope N__law_purses P__law_purses (defScope s__law_purses) := ⟨rfl, rfl, rfl, by decide +kernel, rfl, by decide +kernel, by decide +kernel⟩
abbrev s__law_saying : Stmt := topS 25
abbrev N__law_saying : List Str := ["purse", "facts", "deep", "way", "inner", "spin"]
abbrev P__law_saying : List Str := ["purse", "facts", "deep"]
theorem sc__law_saying : FnScope N__law_saying P__law_saying (defScope s__law_saying) := ⟨rfl, rfl, rfl, by decide +kernel, rfl, by decide +kernel, by decide +kernel⟩
abbrev s__law_holds : Stmt := topS 26
abbrev N__law_holds : List Str := ["saying", "world", "inner", "many", "late", "fact"]
abbrev P__law_holds : List Str := ["saying", "world"]
theorem sc__law_holds : FnScope N__law_holds P__law_holds (defScope s__law_holds) := ⟨rfl, rfl, rfl, by decide +kernel, rfl, by decide +kernel, by decide +kernel⟩
abbrev s__law_odds : Stmt := topS 27
abbrev N__law_odds : List Str := []
abbrev P__law_odds : List Str := []
theorem sc__law_odds : FnScope N__law_odds P__law_odds (defScope s__law_odds) := ⟨rfl, rfl, rfl, by decide +kernel, rfl, by decide +kernel, by decide +kernel⟩
abbrev s__law_bent : Stmt := topS 28
abbrev N__law_bent : List Str := ["purse", "saying", "way"]
abbrev P__law_bent : List Str := ["purse", "saying"]
theorem sc__law_bent : FnScope N__law_bent P__law_bent (defScope s__law_bent) := ⟨rfl, rfl, rfl, by decide +kernel, rfl, by decide +kernel, by decide +kernel⟩
abbrev s__law_right : Stmt := topS 29
abbrev N__law_right : List Str := ["facts", "saying", "told", "late"]
abbrev P__law_right : List Str := ["facts", "saying"]
theorem sc__law_right : FnScope N__law_right P__law_right (defScope s__law_right) := ⟨rfl, rfl, rfl, by decide +kernel, rfl, by decide +kernel, by decide +kernel⟩
abbrev s__law_heard : Stmt := topS 30
abbrev N__law_heard : List Str := ["way", "one", "other", "caught", "told", "error"]
abbrev P__law_heard : List Str := ["way", "one", "other"]
theorem sc__law_heard : FnScope N__law_heard P__law_heard (defScope s__law_heard) := ⟨rfl, rfl, rfl, by decide +kernel, rfl, by decide +kernel, by decide +kernel⟩
abbrev s_law : Stmt := topS 31
abbrev N_law : List Str := ["script", "purse", "facts", "saying", "worlds", "spin", "bent", "deep", "odd", "world"]
abbrev P_law : List Str := ["script"]
theorem sc_law : FnScope N_law P_law (defScope s_law) := ⟨rfl, rfl, rfl, by decide +kernel, rfl, by decide +kernel, by decide +kernel⟩
structure Ad where
  is_whole : Addr
  is_count : Addr
  is_word : Addr
  is_tuple_of : Addr
  is_said : Addr
  are_words : Addr
  is_saying_of : Addr
  is_saying : Addr
  holds : Addr
  is_so : Addr
  _law_purse : Addr
  _law_mixed : Addr
  _law_draw : Addr
  _law_one_of : Addr
  _law_shuffled : Addr
  _law_same : Addr
  _law_purses : Addr
  _law_saying : Addr
  _law_holds : Addr
  _law_odds : Addr
  _law_bent : Addr
  _law_right : Addr
  _law_heard : Addr
  law : Addr
  E_InvalidFacts : Addr
  E_InvalidSaying : Addr
  E_InvalidWorld : Addr
  E_BookError : Addr
structure Fd where
  is_whole : FuncData
  is_count : FuncData
  is_word : FuncData
  is_tuple_of : FuncData
  is_said : FuncData
  are_words : FuncData
  is_saying_of : FuncData
  is_saying : FuncData
  holds : FuncData
  is_so : FuncData
  _law_purse : FuncData
  _law_mixed : FuncData
  _law_draw : FuncData
  _law_one_of : FuncData
  _law_shuffled : FuncData
  _law_same : FuncData
  _law_purses : FuncData
  _law_saying : FuncData
  _law_holds : FuncData
  _law_odds : FuncData
  _law_bent : FuncData
  _law_right : FuncData
  _law_heard : FuncData
  law : FuncData
/-- what the text tells -/
structure Tx (K : Frag) (mg : Str → Option Value) (a : Ad) (d : Fd) : Prop where
  f_is_whole : FunD K "is_whole" "is_whole" (defArgs s_is_whole) (defBody s_is_whole) (defScope s_is_whole) [] [] a.is_whole d.is_whole
  g_is_whole : mg "is_whole" = some (.ref a.is_whole)
  f_is_count : FunD K "is_count" "is_count" (defArgs s_is_count) (defBody s_is_count) (defScope s_is_count) [.int 0] [] a.is_count d.is_count
  g_is_count : mg "is_count" = some (.ref a.is_count)
  f_is_word : FunD K "is_word" "is_word" (defArgs s_is_word) (defBody s_is_word) (defScope s_is_word) [] [] a.is_word d.is_word
  g_is_word : mg "is_word" = some (.ref a.is_word)
  f_is_tuple_of : FunD K "is_tuple_of" "is_tuple_of" (defArgs s_is_tuple_of) (defBody s_is_tuple_of) (defScope s_is_tuple_of) [] [] a.is_tuple_of d.is_tuple_of
  g_is_tuple_of : mg "is_tuple_of" = some (.ref a.is_tuple_of)
  f_is_said : FunD K "is_said" "is_said" (defArgs s_is_said) (defBody s_is_said) (defScope s_is_said) [] [] a.is_said d.is_said
  g_is_said : mg "is_said" = some (.ref a.is_said)
  f_are_words : FunD K "are_words" "are_words" (defArgs s_are_words) (defBody s_are_words) (defScope s_are_words) [] [] a.are_words d.are_words
  g_are_words : mg "are_words" = some (.ref a.are_words)
  f_is_saying_of : FunD K "is_saying_of" "is_saying_of" (defArgs s_is_saying_of) (defBody s_is_saying_of) (defScope s_is_saying_of) [] [] a.is_saying_of d.is_saying_of
  g_is_saying_of : mg "is_saying_of" = some (.ref a.is_saying_of)
  f_is_saying : FunD K "is_saying" "is_saying" (defArgs s_is_saying) (defBody s_is_saying) (defScope s_is_saying) [] [] a.is_saying d.is_saying
  g_is_saying : mg "is_saying" = some (.ref a.is_saying)
  f_holds : FunD K "holds" "holds" (defArgs s_holds) (defBody s_holds) (defScope s_holds) [] [] a.holds d.holds
  g_holds : mg "holds" = some (.ref a.holds)
  f_is_so : FunD K "is_so" "is_so" (defArgs s_is_so) (defBody s_is_so) (defScope s_is_so) [] [] a.is_so d.is_so
  g_is_so : mg "is_so" = some (.ref a.is_so)
  f__law_purse : FunD K "_law_purse" "_law_purse" (defArgs s__law_purse) (defBody s__law_purse) (defScope s__law_purse) [] [] a._law_purse d._law_purse
  g__law_purse : mg "_law_purse" = some (.ref a._law_purse)
  f__law_mixed : FunD K "_law_mixed" "_law_mixed" (defArgs s__law_mixed) (defBody s__law_mixed) (defScope s__law_mixed) [] [] a._law_mixed d._law_mixed
  g__law_mixed : mg "_law_mixed" = some (.ref a._law_mixed)
  f__law_draw : FunD K "_law_draw" "_law_draw" (defArgs s__law_draw) (defBody s__law_draw) (defScope s__law_draw) [] [] a._law_draw d._law_draw
  g__law_draw : mg "_law_draw" = some (.ref a._law_draw)
  f__law_one_of : FunD K "_law_one_of" "_law_one_of" (defArgs s__law_one_of) (defBody s__law_one_of) (defScope s__law_one_of) [] [] a._law_one_of d._law_one_of
  g__law_one_of : mg "_law_one_of" = some (.ref a._law_one_of)
  f__law_shuffled : FunD K "_law_shuffled" "_law_shuffled" (defArgs s__law_shuffled) (defBody s__law_shuffled) (defScope s__law_shuffled) [] [] a._law_shuffled d._law_shuffled
  g__law_shuffled : mg "_law_shuffled" = some (.ref a._law_shuffled)
  f__law_same : FunD K "_law_same" "_law_same" (defArgs s__law_same) (defBody s__law_same) (defScope s__law_same) [] [] a._law_same d._law_same
  g__law_same : mg "_law_same" = some (.ref a._law_same)
  f__law_purses : FunD K "_law_purses" "_law_purses" (defArgs s__law_purses) (defBody s__law_purses) (defScope s__law_purses) [] [] a._law_purses d._law_purses
  g__law_purses : mg "_law_purses" = some (.ref a._law_purses)
  f__law_saying : FunD K "_law_saying" "_law_saying" (defArgs s__law_saying) (defBody s__law_saying) (defScope s__law_saying) [] [] a._law_saying d._law_saying
  g__law_saying : mg "_law_saying" = some (.ref a._law_saying)
  f__law_holds : FunD K "_law_holds" "_law_holds" (defArgs s__law_holds) (defBody s__law_holds) (defScope s__law_holds) [] [] a._law_holds d._law_holds
  g__law_holds : mg "_law_holds" = some (.ref a._law_holds)
  f__law_odds : FunD K "_law_odds" "_law_odds" (defArgs s__law_odds) (defBody s__law_odds) (defScope s__law_odds) [] [] a._law_odds d._law_odds
  g__law_odds : mg "_law_odds" = some (.ref a._law_odds)
  f__law_bent : FunD K "_law_bent" "_law_bent" (defArgs s__law_bent) (defBody s__law_bent) (defScope s__law_bent) [] [] a._law_bent d._law_bent
  g__law_bent : mg "_law_bent" = some (.ref a._law_bent)
  f__law_right : FunD K "_law_right" "_law_right" (defArgs s__law_right) (defBody s__law_right) (defScope s__law_right) [] [] a._law_right d._law_right
  g__law_right : mg "_law_right" = some (.ref a._law_right)
  f__law_heard : FunD K "_law_heard" "_law_heard" (defArgs s__law_heard) (defBody s__law_heard) (defScope s__law_heard) [] [] a._law_heard d._law_heard
  g__law_heard : mg "_law_heard" = some (.ref a._law_heard)
  f_law : FunD K "law" "law" (defArgs s_law) (defBody s_law) (defScope s_law) [] [] a.law d.law
  g_law : mg "law" = some (.ref a.law)
  b_isinstance : mg "isinstance" = none
  b_int : mg "int" = none
  b_bool : mg "bool" = none
  b_tuple : mg "tuple" = none
  b_list : mg "list" = none
  b_dict : mg "dict" = none
  b_str : mg "str" = none
  b_len : mg "len" = none
  b_abs : mg "abs" = none
  b_max : mg "max" = none
  b_min : mg "min" = none
  b_sum : mg "sum" = none
  b_all : mg "all" = none
  b_any : mg "any" = none
  b_range : mg "range" = none
  b_zip : mg "zip" = none
  b_sorted : mg "sorted" = none
  b_reversed : mg "reversed" = none
  e_InvalidFacts : PySem.ErrX.ErrTxt K mg "InvalidFacts" "InvalidFacts.__init__" a.E_InvalidFacts
  xm_InvalidFacts : PySem.W.exmOne K (.ref a.E_InvalidFacts) (.ref a.E_BookError) = some true
  kt_InvalidFacts_InvalidFacts : PySem.W.kitOne K (.ref a.E_InvalidFacts) (.ref a.E_InvalidFacts) = some true
  kt_InvalidFacts_InvalidSaying : PySem.W.kitOne K (.ref a.E_InvalidFacts) (.ref a.E_InvalidSaying) = some false
  kt_InvalidFacts_InvalidWorld : PySem.W.kitOne K (.ref a.E_InvalidFacts) (.ref a.E_InvalidWorld) = some false
  e_InvalidSaying : PySem.ErrX.ErrTxt K mg "InvalidSaying" "InvalidSaying.__init__" a.E_InvalidSaying
  xm_InvalidSaying : PySem.W.exmOne K (.ref a.E_InvalidSaying) (.ref a.E_BookError) = some true
  kt_InvalidSaying_InvalidFacts : PySem.W.kitOne K (.ref a.E_InvalidSaying) (.ref a.E_InvalidFacts) = some false
  kt_InvalidSaying_InvalidSaying : PySem.W.kitOne K (.ref a.E_InvalidSaying) (.ref a.E_InvalidSaying) = some true
  kt_InvalidSaying_InvalidWorld : PySem.W.kitOne K (.ref a.E_InvalidSaying) (.ref a.E_InvalidWorld) = some false
  e_InvalidWorld : PySem.ErrX.ErrTxt K mg "InvalidWorld" "InvalidWorld.__init__" a.E_InvalidWorld
  xm_InvalidWorld : PySem.W.exmOne K (.ref a.E_InvalidWorld) (.ref a.E_BookError) = some true
  kt_InvalidWorld_InvalidFacts : PySem.W.kitOne K (.ref a.E_InvalidWorld) (.ref a.E_InvalidFacts) = some false
  kt_InvalidWorld_InvalidSaying : PySem.W.kitOne K (.ref a.E_InvalidWorld) (.ref a.E_InvalidSaying) = some false
  kt_InvalidWorld_InvalidWorld : PySem.W.kitOne K (.ref a.E_InvalidWorld) (.ref a.E_InvalidWorld) = some true
  gb : mg "BookError" = some (.ref a.E_BookError)
section
variable {K : Frag} {mg : Str → Option Value} {a : Ad} {d : Fd}
theorem Tx.x_is_whole (T : Tx K mg a d) : TxF K mg "is_whole" a.is_whole d.is_whole P_is_whole := txf_of T.f_is_whole T.g_is_whole fun _ _ _ _ _ _ us hl => match us, hl with | [_], _ => rfl
theorem Tx.x_is_count (T : Tx K mg a d) : TxD K mg "is_count" a.is_count d.is_count := ⟨T.g_is_count, T.f_is_count.kp⟩
theorem Tx.x_is_word (T : Tx K mg a d) : TxF K mg "is_word" a.is_word d.is_word P_is_word := txf_of T.f_is_word T.g_is_word fun _ _ _ _ _ _ us hl => match us, hl with | [_], _ => rfl
theorem Tx.x_is_tuple_of (T : Tx K mg a d) : TxF K mg "is_tuple_of" a.is_tuple_of d.is_tuple_of P_is_tuple_of := txf_of T.f_is_tuple_of T.g_is_tuple_of fun _ _ _ _ _ _ us hl => match us, hl with | [_, _], _ => rfl
theorem Tx.x_is_said (T : Tx K mg a d) : TxF K mg "is_said" a.is_said d.is_said P_is_said := txf_of T.f_is_said T.g_is_said fun _ _ _ _ _ _ us hl => match us, hl with | [_, _, _], _ => rfl
theorem Tx.x_are_words (T : Tx K mg a d) : TxF K mg "are_words" a.are_words d.are_words P_are_words := txf_of T.f_are_words T.g_are_words fun _ _ _ _ _ _ us hl => match us, hl with | [_], _ => rfl
theorem Tx.x_is_saying_of (T : Tx K mg a d) : TxF K mg "is_saying_of" a.is_saying_of d.is_saying_of P_is_saying_of := txf_of T.f_is_saying_of T.g_is_saying_of fun _ _ _ _ _ _ us hl => match us, hl with | [_, _], _ => rfl
theorem Tx.x_is_saying (T : Tx K mg a d) : TxF K mg "is_saying" a.is_saying d.is_saying P_is_saying := txf_of T.f_is_saying T.g_is_saying fun _ _ _ _ _ _ us hl => match us, hl with | [_, _], _ => rfl
theorem Tx.x_holds (T : Tx K mg a d) : TxF K mg "holds" a.holds d.holds P_holds := txf_of T.f_holds T.g_holds fun _ _ _ _ _ _ us hl => match us, hl with | [_, _], _ => rfl
theorem Tx.x_is_so (T : Tx K mg a d) : TxF K mg "is_so" a.is_so d.is_so P_is_so := txf_of T.f_is_so T.g_is_so fun _ _ _ _ _ _ us hl => match us, hl with | [_, _], _ => rfl
theorem Tx.x__law_purse (T : Tx K mg a d) : TxF K mg "_law_purse" a._law_purse d._law_purse P__law_purse := txf_of T.f__law_purse T.g__law_purse fun _ _ _ _ _ _ us hl => match us, hl with | [_, _], _ => rfl
theorem Tx.x__law_mixed (T : Tx K mg a d) : TxF K mg "_law_mixed" a._law_mixed d._law_mixed P__law_mixed := txf_of T.f__law_mixed T.g__law_mixed fun _ _ _ _ _ _ us hl => match us, hl with | [_, _, _], _ => rfl
theorem Tx.x__law_draw (T : Tx K mg a d) : TxF K mg "_law_draw" a._law_draw d._law_draw P__law_draw := txf_of T.f__law_draw T.g__law_draw fun _ _ _ _ _ _ us hl => match us, hl with | [_, _], _ => rfl
theorem Tx.x__law_one_of (T : Tx K mg a d) : TxF K mg "_law_one_of" a._law_one_of d._law_one_of P__law_one_of := txf_of T.f__law_one_of T.g__law_one_of fun _ _ _ _ _ _ us hl => match us, hl with | [_, _], _ => rfl
theorem Tx.x__law_shuffled (T : Tx K mg a d) : TxF K mg "_law_shuffled" a._law_shuffled d._law_shuffled P__law_shuffled := txf_of T.f__law_shuffled T.g__law_shuffled fun _ _ _ _ _ _ us hl => match us, hl with | [_, _], _ => rfl
theorem Tx.x__law_same (T : Tx K mg a d) : TxF K mg "_law_same" a._law_same d._law_same P__law_same := txf_of T.f__law_same T.g__law_same fun _ _ _ _ _ _ us hl => match us, hl with | [_, _], _ => rfl
theorem Tx.x__law_purses (T : Tx K mg a d) : TxF K mg "_law_purses" a._law_purses d._law_purses P__law_purses := txf_of T.f__law_purses T.g__law_purses fun _ _ _ _ _ _ us hl => match us, hl with | [_, _], _ => rfl
theorem Tx.x__law_saying (T : Tx K mg a d) : TxF K mg "_law_saying" a._law_saying d._law_saying P__law_saying := txf_of T.f__law_saying T.g__law_saying fun _ _ _ _ _ _ us hl => match us, hl with | [_, _, _], _ => rfl
theorem Tx.x__law_holds (T : Tx K mg a d) : TxF K mg "_law_holds" a._law_holds d._law_holds P__law_holds := txf_of T.f__law_holds T.g__law_holds fun _ _ _ _ _ _ us hl => match us, hl with | [_, _], _ => rfl
theorem Tx.x__law_odds (T : Tx K mg a d) : TxF K mg "_law_odds" a._law_odds d._law_odds P__law_odds := txf_of T.f__law_odds T.g__law_odds fun _ _ _ _ _ _ us hl => match us, hl with | [], _ => rfl
theorem Tx.x__law_bent (T : Tx K mg a d) : TxF K mg "_law_bent" a._law_bent d._law_bent P__law_bent := txf_of T.f__law_bent T.g__law_bent fun _ _ _ _ _ _ us hl => match us, hl with | [_, _], _ => rfl
theorem Tx.x__law_right (T : Tx K mg a d) : TxF K mg "_law_right" a._law_right d._law_right P__law_right := txf_of T.f__law_right T.g__law_right fun _ _ _ _ _ _ us hl => match us, hl with | [_, _], _ => rfl
theorem Tx.x__law_heard (T : Tx K mg a d) : TxF K mg "_law_heard" a._law_heard d._law_heard P__law_heard := txf_of T.f__law_heard T.g__law_heard fun _ _ _ _ _ _ us hl => match us, hl with | [_, _, _], _ => rfl
theorem Tx.x_law (T : Tx K mg a d) : TxF K mg "law" a.law d.law P_law := txf_of T.f_law T.g_law fun _ _ _ _ _ _ us hl => match us, hl with | [_], _ => rfl
theorem Tx.d_is_count_1 (T : Tx K mg a d) : BindD K d.is_count P_is_count [.int 0] := BindD.of (T.f_is_count.binds1 1 0 (by simp) rfl fun _ _ _ _ _ _ _ us its h1 h2 => match us, its, h1, h2 with | [_], [_], _, _ => ⟨_, rfl, rfl⟩) (fun _ _ => ⟨_, _, rfl, rfl, rfl⟩)
theorem Tx.kw_is_saying_0 (T : Tx K mg a d) : KwB K d.is_saying P_is_saying 0 ["value", "facts"] [1, 0] := fun s us ws h1 h2 => by
  obtain ⟨oc, od, dV, kV, doc, pm, an, cdv, ct, osl, e, lk, hcd, hD, hK⟩ := T.f_is_saying.ex
  rw [e]
  match us, ws, h1, h2 with
  | [], [_, _], _, _ => rcases hD with ⟨_, rfl⟩ | ⟨z, _⟩ <;> first | exact .of_eq rfl | exact absurd rfl z
theorem Tx.kw_is_so_0 (T : Tx K mg a d) : KwB K d.is_so P_is_so 0 ["world", "saying"] [1, 0] := fun s us ws h1 h2 => by
  obtain ⟨oc, od, dV, kV, doc, pm, an, cdv, ct, osl, e, lk, hcd, hD, hK⟩ := T.f_is_so.ex
  rw [e]
  match us, ws, h1, h2 with
  | [], [_, _], _, _ => rcases hD with ⟨_, rfl⟩ | ⟨z, _⟩ <;> first | exact .of_eq rfl | exact absurd rfl z
end
end K02

set_option Elab.async false
set_option linter.all false
set_option maxRecDepth 100000
set_option maxHeartbeats 4000000
namespace K02
open PySem PySem.Spec L2 DL K04
local macro_rules | `(tactic| walk_at "rd") => `(tactic| simp only [startE_cons, startE_none, startE_nil, wipe_cons, wipe_nil, sSeq, sNext, sRet, sRetN, sRetV, sIf, sSet, sDrop, sPar, sAsg, sAug, sApp, sFor, sFrz, sNever, sSpoil, dTupO, dLcO, sRetMove2, sRaise, sHeard, wUpper, wMulS, wCatT0, dSlT, dLcMove, sCatO, sSpoilE, dSlT, dIfR, dDat, dFreeze, dVar, dC, dOp, dOpR, dUn, dUnR, dTest, dAnd, dOr, dNot, dAndV, dOrV, dNotV, dBool, dIf, dChain, dTup, dLst, dLstO, dNil, dCons, oCons, dCall, dCallKw, dIxC, dSlL, dPart, dNoPart, dCell, dIsiT, dBorrow, dLc, dYes, diSeq, diZip3, dListRg, diRange1, diRange2, diZip, diEnum, diRev, diStr, gdName, gdTup, gdCons, gdNil, gdSub, gdSubC, EVd_dat, EVd_own, EVd_deep, EV.mine, pick,
  wI0, wI, wIx_t0, wIx_t1, wIx_t2, wIx_q0, wIx_q1, wIx_l0, wIsi_int, wIsi_bl, wIsi_str, wIsi_non, wIsi_lst, wIsi_tup, wIsi_q, wLen_scr, wLen_lst, wLen_tup, wLen_q, wEq_int, wNe_int, wEq_bl, wNe_bl, wEq_q, wNe_q, wIsN, wNotN, isN_non, isN_bl, isN_int, isN_str, isN_lst, isN_tup, isN_dK, isN_q, isN_say, isT_non, isT_bl, isT_int, isT_str, isT_lst, isT_tup, isT_dK, isT_q, isT_say, wGcd, wNeg, wAbs, wInt, wAll, wSum, wS, wB, wInL, wNotInL, sIns, dRevL, wCatL, wCatT, wRepL, wBits, wIsi_dK, dGetV, dGet2V, dInV, sPut, dDc, diKeys, sLock, unl_nil, unl_none, unl_cons, unl_dat, unl_own, unl_deep, unl_lkd, unl_nn, wListVals, wDget, sPar3, dkAt, dDisp, dPairs, dKeysV, diKeysR, dIndex, sAppO, sPar2, sAsOwn, isWholeD, isCountD, isListD, wIx_fr0, wIx_fr1, wq_fact_fact, wq_fact_not, wq_fact_all, wq_fact_any, wq_fact_least, wq_not_fact, wq_not_not, wq_not_all, wq_not_any, wq_not_least, wq_all_fact, wq_all_not, wq_all_all, wq_all_any, wq_all_least, wq_any_fact, wq_any_not, wq_any_all, wq_any_any, wq_any_least, wq_least_fact, wq_least_not, wq_least_all, wq_least_any, wq_least_least, wList, wTuple,
  List.getElem?_cons_zero, List.getElem?_cons_succ, List.getElem?_nil, List.set_cons_zero, List.set_cons_succ, List.cons_append, List.nil_append, List.append_nil, List.length_cons, List.length_nil, List.filterMap_cons, List.filterMap_nil, List.map_cons, List.map_nil, Nat.zero_add, Nat.reduceAdd, D.tyn, Option.some.injEq, exists_eq_left', beq_self_eq_true, bq_tf, bq_ft, Int.zero_add, sz_0, sz_1, sz_2, sz_3, sz_4, sz_5, sz_6, Bool.not_true, Bool.not_false, if_true, if_false, Bool.false_eq_true, true_and, and_true, decide_true, decide_false, List.any_cons, List.any_nil, Bool.or_true, Bool.true_or, Bool.or_false, Bool.false_or, tk_int, tk_bool, tk_str, tk_list, tk_tuple, tk_dict, isi_NoneType_int, isi_NoneType_bool, isi_NoneType_str, isi_NoneType_list, isi_NoneType_tuple, isi_NoneType_dict, isi_int_int, isi_int_bool, isi_int_str, isi_int_list, isi_int_tuple, isi_int_dict, isi_bool_int, isi_bool_bool, isi_bool_str, isi_bool_list, isi_bool_tuple, isi_bool_dict, isi_str_int, isi_str_bool, isi_str_str, isi_str_list, isi_str_tuple, isi_str_dict, isi_list_int, isi_list_bool, isi_list_str, isi_list_list, isi_list_tuple, isi_list_dict, isi_tuple_int, isi_tuple_bool, isi_tuple_str, isi_tuple_list, isi_tuple_tuple, isi_tuple_dict, isi_dict_int, isi_dict_bool, isi_dict_str, isi_dict_list, isi_dict_tuple, isi_dict_dict])
section
variable {P : Program} {w : World} {K : Frag} {mg : Str → Option Value} {base : Heap} {a : Ad} {d : Fd}

def phi_is_whole : Phi := fun ds st Q => ∃ d : DL.D, ds = [d] ∧ plainD d = true ∧ Q (.dat (.bl (isWholeD d))) st
theorem ok_is_whole (T : Tx K mg a d) : FnOk P w K mg base CX0 1 a.is_whole d.is_whole P_is_whole (spD K 1 phi_is_whole) := by
  have nd := sc_is_whole.nd
  refine def_ok T.f_is_whole sc_is_whole rfl fun cdv A outer s H E hr => ?_
  have hu := hr.units
  have hu5 := room65 hr
  refine ⟨_, (ss_one (s_ret ((d_and (d_isi T.b_isinstance (dv 0) (d_type T.b_int boot_int)) (d_one (d_not (d_isi T.b_isinstance (dv 0) (d_type T.b_bool boot_bool)))))).rE)), fun ds st Q hl h => ?_⟩
  obtain ⟨d, rfl, hd, q⟩ := h
  rcases plain_cases hd with rfl | ⟨b, rfl⟩ | ⟨i, rfl⟩ | ⟨x, rfl⟩ | ⟨xs, rfl⟩ | ⟨xs, rfl⟩ | rfl <;> (walk_at "rd"; exact q)
def phi_is_count : Phi := fun ds st Q => ∃ (d : DL.D) (j : Int), ds = [d, .int j] ∧ plainD d = true ∧ Q (.dat (.bl (isCountD d j))) st
theorem ok_is_count (T : Tx K mg a d) : FnOk P w K mg base CX0 2 a.is_count d.is_count P_is_count (spD K 2 phi_is_count) := by
  have nd := sc_is_count.nd
  refine def_ok T.f_is_count sc_is_count rfl fun cdv A outer s H E hr => ?_
  have hu := hr.units
  have hu5 := room65 hr
  refine ⟨_, (ss_one (s_ret ((d_and (r_call (ok_is_whole T) T.x_is_whole (hr.mono (by first | decide | omega)) (a_cons (dv 0) a_nil)).dE (d_one (d_ge (dv 0) (d_max2 T.b_max (dv 1) d_int))))).rE)), fun ds st Q hl h => ?_⟩
  obtain ⟨d, j, rfl, hd, q⟩ := h
  walk_at "rd"
  refine ⟨d, rfl, hd, ?_⟩
  rcases plain_cases hd with rfl | ⟨b, rfl⟩ | ⟨i, rfl⟩ | ⟨x, rfl⟩ | ⟨xs, rfl⟩ | ⟨xs, rfl⟩ | rfl <;> (walk_at "rd"; exact q)
def phi_is_tuple_of : Phi := fun ds st Q => ∃ (d : DL.D) (n : Int), ds = [d, .int n] ∧ plainD d = true ∧ Q (.dat (.bl (isTupD d n))) st
theorem ok_is_tuple_of (T : Tx K mg a d) : FnOk P w K mg base CX0 1 a.is_tuple_of d.is_tuple_of P_is_tuple_of (spD K 2 phi_is_tuple_of) := by
  have nd := sc_is_tuple_of.nd
  refine def_ok T.f_is_tuple_of sc_is_tuple_of rfl fun cdv A outer s H E hr => ?_
  have hu := hr.units
  have hu5 := room65 hr
  refine ⟨_, (ss_one (s_ret ((d_and (d_isi T.b_isinstance (dv 0) (d_type T.b_tuple boot_tuple)) (d_one (d_eq hu (d_len T.b_len (dv 0)) (dv 1))))).rE)), fun ds st Q hl h => ?_⟩
  obtain ⟨d, n, rfl, hd, q⟩ := h
  rcases plain_cases hd with rfl | ⟨b, rfl⟩ | ⟨i, rfl⟩ | ⟨x, rfl⟩ | ⟨xs, rfl⟩ | ⟨xs, rfl⟩ | rfl <;> (walk_at "rd"; exact q)
def phi_is_word : Phi := fun ds st Q => ∃ (n : Nat) (d : DL.D), ds = [d] ∧ okV n d = true ∧ Q (.dat (.bl (isWordD d))) st
theorem ok_is_word (T : Tx K mg a d) : FnOk P w K mg base CX0 1 a.is_word d.is_word P_is_word (spD K 1 phi_is_word) := by
  have nd := sc_is_word.nd
  refine def_ok T.f_is_word sc_is_word rfl fun cdv A outer s H E hr => ?_
  have hu := hr.units
  have hu5 := room65 hr
  refine ⟨_, (ss_one (s_ret ((d_and (d_isi T.b_isinstance (dv 0) (d_type T.b_str boot_str)) (d_and (d_chain op_lt op_lt (opl_I0 (g := fun i j => .bl (decide (i < j))) fun _ _ _ _ => rfl) (opl_I0 (g := fun i j => .bl (decide (i < j))) fun _ _ _ _ => rfl) d_int (d_len T.b_len (dv 0)) d_int) (d_one (d_all T.b_all (r_lc (i := 1) [("sign", 1)] nd (i_str (dv 0)) (fun _ _ _ _ _ => pg_name (i := 1) nd rfl (by first | exact Or.inl rfl | exact Or.inr rfl)) (fun _ _ _ _ _ => (d_chain op_le_str op_le_str opl_S opl_S d_str (dv 1) d_str)) (blkOk_by (N := N_is_word) (sc := defScope s_is_word) (by decide +kernel)) (by decide)).dE))))).rE)), fun ds st Q hl h => ?_⟩
  obtain ⟨n, d, rfl, hd, q⟩ := h
  rcases okV_cases hd with rfl | ⟨b, rfl⟩ | ⟨i, rfl, hi⟩ | ⟨w, rfl, hw, hl'⟩ | rfl | ⟨m, ds, e, rfl, hl', hds⟩ | ⟨m, ds, e, rfl, hl', hds⟩
  case inr.inr.inr.inl =>
    walk_at "rd"
    refine ⟨size_small hl', ?_⟩
    walk_at "rd"
    have q : Q (EV.dat (.bl (decide (0 < w.length ∧ w.length < 13) && w.cps.toList.all (fun c => decide (97 ≤ c ∧ c ≤ 122))))) st := q
    by_cases h0 : 0 < w.length
    case neg =>
      rw [decide_eq_false (show ¬ (0 : Int) < (w.length : Nat) by omega)]
      rw [decide_eq_false (show ¬ (0 < w.length ∧ w.length < 13) by omega), Bool.false_and] at q
      walk_at "rd"
      exact q
    rw [decide_eq_true (show (0 : Int) < (w.length : Nat) by omega)]
    walk_at "rd"
    by_cases h1 : w.length < 13
    case neg =>
      rw [decide_eq_false (show ¬ ((w.length : Nat) : Int) < 13 by omega)]
      rw [decide_eq_false (show ¬ (0 < w.length ∧ w.length < 13) by omega), Bool.false_and] at q
      walk_at "rd"
      exact q
    rw [decide_eq_true (show ((w.length : Nat) : Int) < 13 by omega)]
    rw [decide_eq_true (show 0 < w.length ∧ w.length < 13 from ⟨h0, h1⟩), Bool.true_and] at q
    walk_at "rd"
    unfold strD
    refine dComp_mapOf (fun c => DL.D.str ⟨#[c]⟩) (fun c => .bl (decide (97 ≤ c ∧ c ≤ 122))) _ _ (fun c hcm Q1 hq => ?_) (size_small (by rw [List.length_nil, Nat.zero_add, Array.length_toList]; exact hl')) ?_
    · walk_at "rd"
      have ea : (Str.ofString "a").cps.toList = [97] := by decide
      have ez : (Str.ofString "z").cps.toList = [122] := by decide
      have e1 : ltS ⟨#[c]⟩ "a" = !decide (97 ≤ c) := by
        unfold ltS
        rw [ea, Bool.eq_iff_iff, decide_eq_true_iff]
        simp [List.cons_lt_cons_iff]
      have e2 : ltS "z" ⟨#[c]⟩ = !decide (c ≤ 122) := by
        unfold ltS
        rw [ez, Bool.eq_iff_iff, decide_eq_true_iff]
        simp [List.cons_lt_cons_iff]
      rw [Bool.decide_and] at hq
      simp only [ltS] at e1 e2
      rw [e1]
      cases hc : decide (97 ≤ c)
      · rw [hc] at hq
        walk_at "rd"
        exact hq
      · rw [hc] at hq
        walk_at "rd"
        rw [e2, Bool.not_not]
        rw [Bool.true_and] at hq
        exact hq
    · refine ⟨w.cps.toList.map fun c => decide (97 ≤ c ∧ c ≤ 122), by simp, ?_⟩
      rw [List.all_map]
      exact q
  all_goals (walk_at "rd"; exact q)
def phi_is_said : Phi := fun ds st Q => ∃ (m : Nat) (d : DL.D) (v : Str) (n : Int), ds = [d, .str v, .int n] ∧ okV m d = true ∧ PyData.strOk v = true ∧ 1 ≤ n ∧ Q (.dat (.bl (saidD d v n))) st
theorem ok_is_said (T : Tx K mg a d) : FnOk P w K mg base CX0 2 a.is_said d.is_said P_is_said (spD K 3 phi_is_said) := by
  have nd := sc_is_said.nd
  refine def_ok T.f_is_said sc_is_said rfl fun cdv A outer s H E hr => ?_
  have hu := hr.units
  have hu5 := room65 hr
  refine ⟨_, (ss_one (s_ret ((d_and (r_call (ok_is_tuple_of T) T.x_is_tuple_of (hr.mono (by first | decide | omega)) (a_cons (dv 0) (a_cons (dv 2) a_nil))).dE (d_and (d_isi T.b_isinstance (d_ix (dv 0) d_int) (d_type T.b_str boot_str)) (d_one (d_eq hu (d_ix (dv 0) d_int) (dv 1)))))).rE)), fun ds st Q hl h => ?_⟩
  obtain ⟨m, d, v, n, rfl, hd, hv, hn, q⟩ := h
  walk_at "rd"
  refine ⟨d, n, rfl, okV_tyn hd, ?_⟩
  rcases okV_cases hd with rfl | ⟨b, rfl⟩ | ⟨i, rfl, hi⟩ | ⟨w, rfl, hw, hl'⟩ | rfl | ⟨m, ds, e, rfl, hl', hds⟩ | ⟨m, ds, e, rfl, hl', hds⟩
  case inr.inr.inr.inr.inr.inr =>
    simp only [isTupD]
    by_cases c : (ds.length : Int) = n
    case neg =>
      rw [decide_eq_false c]
      walk_at "rd"
      have : saidD (.tup ds) v n = false := by
        unfold saidD
        split
        · rename_i w r e2
          cases e2
          rw [decide_eq_false (by simpa using c), Bool.false_and]
        · rfl
      rw [this] at q
      exact q
    rw [decide_eq_true c]
    cases ds with
    | nil => simp at c; omega
    | cons x r =>
      walk_at "rd"
      rcases okV_cases (hds x List.mem_cons_self) with rfl | ⟨b, rfl⟩ | ⟨i, rfl, hi⟩ | ⟨w, rfl, hw, hl'⟩ | rfl | ⟨m, ds, e, rfl, hl', hds⟩ | ⟨m, ds, e, rfl, hl', hds⟩
      case inr.inr.inr.inl =>
        walk_at "rd"
        rw [wEq_str hw hv]
        rw [said_tag, decide_eq_true (by simpa using c), Bool.true_and] at q
        exact q
      all_goals (walk_at "rd"; exact q)
  all_goals (walk_at "rd"; exact q)
def wordsOk (xs : List Str) : Prop := (∀ w ∈ xs, wordOk w = true) ∧ xs.Pairwise fun a b => ltS a b = true
def adjD (ds : List DL.D) : Bool := (ds.zip (ds.drop 1)).all fun p => match p with
  | (.str a, .str b) => ltS a b
  | _ => false
def areWordsD : DL.D → Bool
  | .lst ds => ds.all isWordD && adjD ds
  | _ => false
theorem adj_strs (xs : List Str) : adjD (xs.map DL.D.str) = (xs.zip (xs.drop 1)).all fun p => ltS p.1 p.2 := by
  unfold adjD
  rw [← List.map_drop, List.zip_map, List.all_map]
  rfl
theorem words_of {ds : List DL.D} (h : ds.all isWordD = true) : ∃ ws : List Str, ds = ws.map DL.D.str ∧ ∀ w ∈ ws, wordOk w = true := by
  induction ds with
  | nil => exact ⟨[], rfl, by simp⟩
  | cons d ds ih =>
    rw [List.all_cons, Bool.and_eq_true] at h
    obtain ⟨ws, rfl, hw⟩ := ih h.2
    cases d with
    | str w =>
      refine ⟨w :: ws, rfl, fun x hx => ?_⟩
      rcases List.mem_cons.mp hx with rfl | hx
      · exact h.1
      · exact hw x hx
    | _ => exact absurd h.1 Bool.false_ne_true
theorem areWords_ok {xs : List Str} (h : wordsOk xs) : areWordsD (strsD xs) = true := by
  simp only [strsD, areWordsD, Bool.and_eq_true]
  refine ⟨?_, ?_⟩
  · rw [List.all_map]
    exact List.all_eq_true.mpr fun w hw => h.1 w hw
  · rw [adj_strs]
    exact List.all_eq_true.mpr fun p hp => next_lt h.2 p hp
def phi_are_words : Phi := fun ds st Q => ∃ (n : Nat) (d : DL.D), ds = [d] ∧ okV n d = true ∧ Q (.dat (.bl (areWordsD d))) st
theorem ok_are_words (T : Tx K mg a d) : FnOk P w K mg base CX0 2 a.are_words d.are_words P_are_words (spD K 1 phi_are_words) := by
  have nd := sc_are_words.nd
  refine def_ok T.f_are_words sc_are_words rfl fun cdv A outer s H E hr => ?_
  have hu := hr.units
  have hu5 := room65 hr
  refine ⟨_, (ss_cons (s_if (w_or (t_not (t_val (d_isi T.b_isinstance (dv 0) (d_type T.b_list boot_list)))) (w_or1 (t_not (t_val (d_all T.b_all (r_lc (i := 3) [("word", 3)] nd (i_seq (dv 0)) (fun _ _ _ _ _ => pg_name (i := 3) nd rfl (by first | exact Or.inl rfl | exact Or.inr rfl)) (fun _ _ _ _ _ => (r_call (ok_is_word T) T.x_is_word (hr.mono (by first | decide | omega)) (a_cons (dv 3) a_nil)).dE) (blkOk_by (N := N_are_words) (sc := defScope s_are_words) (by decide +kernel)) (by decide)).dE))))).t (ss_one (s_ret (d_bl).rE)) ss_nil)
        (ss_one (s_ret ((d_all T.b_all (r_lcT (n := 2) (is := [1, 2]) [("one", 1), ("late", 2)] nd (i_zip T.b_zip (dv 0) (r_slL (dv 0) (o_some d_int) o_none).dE) (fun _ _ _ _ _ => pg_tup rfl (pgs_cons (pg_name (i := 1) nd rfl (by first | exact Or.inl rfl | exact Or.inr rfl)) (pgs_cons (pg_name (i := 2) nd rfl (by first | exact Or.inl rfl | exact Or.inr rfl)) pgs_nil))) (fun _ _ _ _ _ => (d_ltS (dv 1) (dv 2))) (blkOk_by (N := N_are_words) (sc := defScope s_are_words) (by decide +kernel)) (by decide)).dE)).rE))), fun ds st Q hl h => ?_⟩
  obtain ⟨n, d, rfl, hd, q⟩ := h
  rcases okV_cases hd with rfl | ⟨b, rfl⟩ | ⟨i, rfl, hi⟩ | ⟨w, rfl, hw, hl'⟩ | rfl | ⟨m, ds, e, rfl, hl', hds⟩ | ⟨m, ds, e, rfl, hl', hds⟩
  case inr.inr.inr.inr.inr.inl =>
    have q : Q (.dat (.bl (ds.all isWordD && adjD ds))) st := q
    walk_at "rd"
    refine dComp_map (fun t => .bl (isWordD t)) ds _ (fun t ht Q1 hq => ?_) (size_small (by rw [List.length_nil, Nat.zero_add]; omega)) ?_
    · walk_at "rd"
      exact ⟨m, t, rfl, hds t ht, hq⟩
    refine ⟨ds.map isWordD, by rw [List.map_map, List.nil_append]; rfl, ?_⟩
    rw [List.all_map]
    show _
    cases ha : ds.all isWordD
    · rw [ha, Bool.false_and] at q
      rw [show (ds.all (id ∘ isWordD)) = false from ha]
      walk_at "rd"
      exact q
    rw [show (ds.all (id ∘ isWordD)) = true from ha]
    rw [ha, Bool.true_and] at q
    obtain ⟨xs, rfl, hx⟩ := words_of ha
    rw [List.length_map] at hl'
    rw [adj_strs] at q
    walk_at "rd"
    rw [zip_next]
    refine dComp_mapOf (fun (p : Str × Str) => DL.D.tup [.str p.1, .str p.2]) (fun p => .bl (ltS p.1 p.2)) (xs.zip (xs.drop 1)) _ (fun p hp Q1 hq => ?_) (size_small (by rw [List.length_nil, Nat.zero_add, List.length_zip]; omega)) ?_
    · walk_at "rd"
      refine ⟨rfl, ?_⟩
      simp only [gdNames]
      walk_at "rd"
      exact hq
    · refine ⟨(xs.zip (xs.drop 1)).map fun p => ltS p.1 p.2, by rw [List.map_map, List.nil_append]; rfl, ?_⟩
      rw [List.all_map]
      exact q
  all_goals (walk_at "rd"; exact q)
theorem pys_strs : ∀ {xs : List Str}, (∀ w ∈ xs, PyData.strOk w = true) → D.pys (xs.map D.str) 50 = true
  | [], _ => by simp [D.pys]
  | x :: xs, h => by simp [D.pys, D.py, h x List.mem_cons_self, pys_strs (xs := xs) fun w hw => h w (List.mem_cons_of_mem _ hw)]
theorem any_str (w : Str) : ∀ xs : List Str, ((xs.map D.str).any fun z => z.eqv (.str w)) = decide (w ∈ xs)
  | [] => by simp
  | x :: xs => by
    have h1 : (DL.D.str x).eqv (.str w) = decide (w = x) := by
      rw [Bool.eq_iff_iff, decide_eq_true_iff]; simp [D.eqv, D.toPy, PyData.eqv]; exact ⟨Eq.symm, Eq.symm⟩
    rw [List.map_cons, List.any_cons, any_str w xs, h1, Bool.eq_iff_iff]
    simp
def factsD : Option (List Str) → DL.D
  | none => .non
  | some l => strsD l
def phi_is_saying_ofN : Nat → Phi
  | 0 => fun _ _ _ => False
  | n + 1 => fun ds st Q => ∃ (facts : Option (List Str)) (d : DL.D), ds = [factsD facts, d] ∧ (∀ l, facts = some l → ∀ w ∈ l, PyData.strOk w = true) ∧ okV n d = true ∧ Q (.dat (.bl (isSay facts (n + 1) d))) st
theorem ok_is_saying_of (T : Tx K mg a d) : ∀ n, FnOk P w K mg base CX0 (n + 3) a.is_saying_of d.is_saying_of P_is_saying_of (spD K 2 (phi_is_saying_ofN n)) := by
  intro n
  induction n with
  | zero => exact fnok_false
  | succ n IH_is_saying_of =>
  have nd := sc_is_saying_of.nd
  refine def_ok T.f_is_saying_of sc_is_saying_of rfl fun cdv A outer s H E hr => ?_
  have hu := hr.units
  have hu5 := room65 hr
  refine ⟨_, (ss_cons (s_if (t_val (r_call (ok_is_said T) T.x_is_said (hr.mono (by first | decide | omega)) (a_cons (dv 1) (a_cons d_str (a_cons d_int a_nil)))).dE) (ss_one (s_ret ((d_and (r_call (ok_is_word T) T.x_is_word (hr.mono (by first | decide | omega)) (a_cons (d_ix (dv 1) d_int) a_nil)).dE (d_one (d_or (d_isN (dv 0) d_non) (d_one (d_in hu5 (d_ix (dv 1) d_int) (dv 0))))))).rE)) ss_nil)
        (ss_cons (s_if (t_val (r_call (ok_is_said T) T.x_is_said (hr.mono (by first | decide | omega)) (a_cons (dv 1) (a_cons d_str (a_cons d_int a_nil)))).dE) (ss_one (s_ret (r_call IH_is_saying_of T.x_is_saying_of hr (a_cons (dv 0) (a_cons (d_ix (dv 1) d_int) a_nil))))) ss_nil)
        (ss_cons (s_if (w_or (t_val (r_call (ok_is_said T) T.x_is_said (hr.mono (by first | decide | omega)) (a_cons (dv 1) (a_cons d_str (a_cons d_int a_nil)))).dE) (w_or1 (t_val (r_call (ok_is_said T) T.x_is_said (hr.mono (by first | decide | omega)) (a_cons (dv 1) (a_cons d_str (a_cons d_int a_nil)))).dE))).t (ss_one (s_ret ((d_and (d_isi T.b_isinstance (d_ix (dv 1) d_int) (d_type T.b_list boot_list)) (d_one (d_all T.b_all (r_lc (i := 2) [("late", 2)] nd (i_seq (d_ix (dv 1) d_int)) (fun _ _ _ _ _ => pg_name (i := 2) nd rfl (by first | exact Or.inl rfl | exact Or.inr rfl)) (fun _ _ _ _ _ => (r_call IH_is_saying_of T.x_is_saying_of hr (a_cons (dv 0) (a_cons (dv 2) a_nil))).dE) (blkOk_by (N := N_is_saying_of) (sc := defScope s_is_saying_of) (by decide +kernel)) (by decide)).dE)))).rE)) ss_nil)
        (ss_cons (s_if (w_and (t_val (r_call (ok_is_said T) T.x_is_said (hr.mono (by first | decide | omega)) (a_cons (dv 1) (a_cons d_str (a_cons d_int a_nil)))).dE) (w_and1 (t_val (r_callD' (ok_is_count T) T.x_is_count T.d_is_count_1 (hr.mono (by first | decide | omega)) (a_cons (d_ix (dv 1) d_int) a_nil)).dE))).t (ss_one (s_ret ((d_and (d_isi T.b_isinstance (d_ix (dv 1) d_int) (d_type T.b_list boot_list)) (d_one (d_all T.b_all (r_lc (i := 2) [("late", 2)] nd (i_seq (d_ix (dv 1) d_int)) (fun _ _ _ _ _ => pg_name (i := 2) nd rfl (by first | exact Or.inl rfl | exact Or.inr rfl)) (fun _ _ _ _ _ => (r_call IH_is_saying_of T.x_is_saying_of hr (a_cons (dv 0) (a_cons (dv 2) a_nil))).dE) (blkOk_by (N := N_is_saying_of) (sc := defScope s_is_saying_of) (by decide +kernel)) (by decide)).dE)))).rE)) ss_nil)
        (ss_one (s_ret (d_bl).rE)))))), fun ds st Q hl h => ?_⟩
  obtain ⟨facts, v, rfl, hf, hv, q⟩ := h
  rw [isSay] at q
  refine seq_hide fun R e => ?_
  walk_at "rd"
  refine ⟨n, v, _, _, rfl, hv, by decide +kernel, by decide, ?_⟩
  cases c1 : saidD v "fact" 2
  case true =>
    rw [c1, if_pos rfl] at q
    obtain ⟨x, rfl⟩ := saidD_2 c1
    rcases okV_cases hv with h1 | ⟨b, h1⟩ | ⟨i, h1, hi⟩ | ⟨z, h1, hw, hl'⟩ | h1 | ⟨m, ds, e', h1, hl', hds⟩ | ⟨m, ds, e', h1, hl', hds⟩ <;> cases h1
    have hx := hds x (by simp)
    walk_at "rd"
    refine ⟨m, x, rfl, hx, ?_⟩
    simp only [D.at', List.getD_cons_succ, List.getD_cons_zero] at q
    cases hx2 : isWordD x
    · rw [hx2, Bool.false_and] at q
      walk_at "rd"
      exact q
    rw [hx2, Bool.true_and] at q
    rcases okV_cases hx with rfl | ⟨b, rfl⟩ | ⟨i, rfl, hi⟩ | ⟨z, rfl, hw, hl'⟩ | rfl | ⟨m, ds, e', rfl, hl', hds⟩ | ⟨m, ds, e', rfl, hl', hds⟩
    case inr.inr.inr.inl =>
      cases facts with
      | none =>
        simp only [factsD]
        walk_at "rd"
        exact q
      | some l =>
        simp only [factsD, strsD]
        walk_at "rd"
        refine ⟨⟨by simp only [D.py]; exact hw, pys_strs (hf l rfl)⟩, ?_⟩
        rw [any_str]
        exact q
    all_goals cases hx2
  rw [if_neg (by rw [c1]; exact Bool.false_ne_true)] at q
  walk_at "rd"
  rw [e]
  refine seq_hide fun R e => ?_
  walk_at "rd"
  refine ⟨n, v, _, _, rfl, hv, by decide +kernel, by decide, ?_⟩
  cases c2 : saidD v "not" 2
  case true =>
    rw [c2, if_pos rfl] at q
    obtain ⟨x, rfl⟩ := saidD_2 c2
    rcases okV_cases hv with h1 | ⟨b, h1⟩ | ⟨i, h1, hi⟩ | ⟨z, h1, hw, hl'⟩ | h1 | ⟨m, ds, e', h1, hl', hds⟩ | ⟨m, ds, e', h1, hl', hds⟩ <;> cases h1
    subst e'
    walk_at "rd"
    exact ⟨facts, x, rfl, hf, hds x (by simp), q⟩
  rw [if_neg (by rw [c2]; exact Bool.false_ne_true)] at q
  walk_at "rd"
  rw [e]
  refine seq_hide fun R e => ?_
  walk_at "rd"
  refine ⟨n, v, _, _, rfl, hv, by decide +kernel, by decide, ?_⟩
  cases c3 : saidD v "all" 2
  case true =>
    rw [if_pos (.inl c3)] at q
    obtain ⟨x, rfl⟩ := saidD_2 c3
    rcases okV_cases hv with h1 | ⟨b, h1⟩ | ⟨i, h1, hi⟩ | ⟨z, h1, hw, hl'⟩ | h1 | ⟨m, ds, e', h1, hl', hds⟩ | ⟨m, ds, e', h1, hl', hds⟩ <;> cases h1
    subst e'
    simp only [D.at', List.getD_cons_succ, List.getD_cons_zero] at q
    walk_at "rd"
    have hx := hds x (by simp)
    rcases okV_cases hx with rfl | ⟨b, rfl⟩ | ⟨i, rfl, hi⟩ | ⟨z, rfl, hw, hl'⟩ | rfl | ⟨m, ds, e', rfl, hl', hds2⟩ | ⟨m, ds, e', rfl, hl', hds2⟩
    case inr.inr.inr.inr.inr.inl =>
      subst e'
      walk_at "rd"
      refine dComp_map (fun t => .bl (isSay facts (m + 1 + 1) t)) ds _ (fun t ht Q1 hq => ?_) (size_small (by rw [List.length_nil, Nat.zero_add]; omega)) ?_
      · walk_at "rd"
        exact ⟨facts, t, rfl, hf, okV_mono (hds2 t ht), hq⟩
      · refine ⟨ds.map fun t => isSay facts (m + 1 + 1) t, by simp, ?_⟩
        rw [List.all_map]
        exact q
    all_goals (walk_at "rd"; exact q)
  walk_at "rd"
  refine ⟨n, v, _, _, rfl, hv, by decide +kernel, by decide, ?_⟩
  cases c4 : saidD v "any" 2
  case true =>
    rw [if_pos (.inr c4)] at q
    obtain ⟨x, rfl⟩ := saidD_2 c4
    rcases okV_cases hv with h1 | ⟨b, h1⟩ | ⟨i, h1, hi⟩ | ⟨z, h1, hw, hl'⟩ | h1 | ⟨m, ds, e', h1, hl', hds⟩ | ⟨m, ds, e', h1, hl', hds⟩ <;> cases h1
    subst e'
    simp only [D.at', List.getD_cons_succ, List.getD_cons_zero] at q
    walk_at "rd"
    have hx := hds x (by simp)
    rcases okV_cases hx with rfl | ⟨b, rfl⟩ | ⟨i, rfl, hi⟩ | ⟨z, rfl, hw, hl'⟩ | rfl | ⟨m, ds, e', rfl, hl', hds2⟩ | ⟨m, ds, e', rfl, hl', hds2⟩
    case inr.inr.inr.inr.inr.inl =>
      subst e'
      walk_at "rd"
      refine dComp_map (fun t => .bl (isSay facts (m + 1 + 1) t)) ds _ (fun t ht Q1 hq => ?_) (size_small (by rw [List.length_nil, Nat.zero_add]; omega)) ?_
      · walk_at "rd"
        exact ⟨facts, t, rfl, hf, okV_mono (hds2 t ht), hq⟩
      · refine ⟨ds.map fun t => isSay facts (m + 1 + 1) t, by simp, ?_⟩
        rw [List.all_map]
        exact q
    all_goals (walk_at "rd"; exact q)
  rw [if_neg (by rw [c3, c4]; simp)] at q
  walk_at "rd"
  rw [e]
  refine seq_hide fun R e5 => ?_
  walk_at "rd"
  refine ⟨n, v, _, _, rfl, hv, by decide +kernel, by decide, ?_⟩
  cases c5 : saidD v "least" 3
  case false =>
    rw [if_neg (by rw [c5]; simp)] at q
    walk_at "rd"
    rw [e5]
    walk_at "rd"
    exact q
  obtain ⟨k, x, rfl⟩ := saidD_3 c5
  simp only [D.at', List.getD_cons_succ, List.getD_cons_zero] at q
  rcases okV_cases hv with h1 | ⟨b, h1⟩ | ⟨i, h1, hi⟩ | ⟨z, h1, hw, hl'⟩ | h1 | ⟨m, ds, e', h1, hl', hds⟩ | ⟨m, ds, e', h1, hl', hds⟩ <;> cases h1
  subst e'
  have hk := hds k (by simp)
  have hx := hds x (by simp)
  walk_at "rd"
  refine ⟨k, 0, rfl, okV_tyn hk, ?_⟩
  cases c6 : isCountD k 0
  · rw [c6, if_neg (by simp)] at q
    walk_at "rd"
    rw [e5]
    walk_at "rd"
    exact q
  rw [if_pos ⟨c5, c6⟩] at q
  walk_at "rd"
  rcases okV_cases hx with rfl | ⟨b, rfl⟩ | ⟨i, rfl, hi⟩ | ⟨z, rfl, hw, hl'⟩ | rfl | ⟨m, ds, e', rfl, hl', hds2⟩ | ⟨m, ds, e', rfl, hl', hds2⟩
  case inr.inr.inr.inr.inr.inl =>
    subst e'
    walk_at "rd"
    refine dComp_map (fun t => .bl (isSay facts (m + 1 + 1) t)) ds _ (fun t ht Q1 hq => ?_) (size_small (by rw [List.length_nil, Nat.zero_add]; omega)) ?_
    · walk_at "rd"
      exact ⟨facts, t, rfl, hf, okV_mono (hds2 t ht), hq⟩
    · refine ⟨ds.map fun t => isSay facts (m + 1 + 1) t, by simp, ?_⟩
      rw [List.all_map]
      exact q
  all_goals (walk_at "rd"; exact q)
end
end K02

set_option Elab.async false
set_option linter.all false
set_option maxRecDepth 100000
set_option maxHeartbeats 4000000
namespace K02
open PySem PySem.Spec L2 DL K04
local macro_rules | `(tactic| walk_at "rd") => `(tactic| simp only [startE_cons, startE_none, startE_nil, wipe_cons, wipe_nil, sSeq, sNext, sRet, sRetN, sRetV, sIf, sSet, sDrop, sPar, sAsg, sAug, sApp, sFor, sFrz, sNever, sSpoil, dTupO, dLcO, sRetMove2, sRaise, sHeard, wUpper, wMulS, wCatT0, dSlT, dLcMove, sCatO, sSpoilE, dSlT, dIfR, dDat, dFreeze, dVar, dC, dOp, dOpR, dUn, dUnR, dTest, dAnd, dOr, dNot, dAndV, dOrV, dNotV, dBool, dIf, dChain, dTup, dLst, dLstO, dNil, dCons, oCons, dCall, dCallKw, dIxC, dSlL, dPart, dNoPart, dCell, dIsiT, dBorrow, dLc, dYes, diSeq, diZip3, dListRg, diRange1, diRange2, diZip, diEnum, diRev, diStr, gdName, gdTup, gdCons, gdNil, gdSub, gdSubC, EVd_dat, EVd_own, EVd_deep, EV.mine, pick,
  wI0, wI, wIx_t0, wIx_t1, wIx_t2, wIx_q0, wIx_q1, wIx_l0, wIsi_int, wIsi_bl, wIsi_str, wIsi_non, wIsi_lst, wIsi_tup, wIsi_q, wLen_scr, wLen_lst, wLen_tup, wLen_q, wEq_int, wNe_int, wEq_bl, wNe_bl, wEq_q, wNe_q, wIsN, wNotN, isN_non, isN_bl, isN_int, isN_str, isN_lst, isN_tup, isN_dK, isN_q, isN_say, isT_non, isT_bl, isT_int, isT_str, isT_lst, isT_tup, isT_dK, isT_q, isT_say, wGcd, wNeg, wAbs, wInt, wAll, wSum, wS, wB, wInL, wNotInL, sIns, dRevL, wCatL, wCatT, wRepL, wBits, wIsi_dK, dGetV, dGet2V, dInV, sPut, dDc, diKeys, sLock, unl_nil, unl_none, unl_cons, unl_dat, unl_own, unl_deep, unl_lkd, unl_nn, wListVals, wDget, sPar3, dkAt, dDisp, dPairs, dKeysV, diKeysR, dIndex, sAppO, sPar2, sAsOwn, isWholeD, isCountD, isListD, wIx_fr0, wIx_fr1, wq_fact_fact, wq_fact_not, wq_fact_all, wq_fact_any, wq_fact_least, wq_not_fact, wq_not_not, wq_not_all, wq_not_any, wq_not_least, wq_all_fact, wq_all_not, wq_all_all, wq_all_any, wq_all_least, wq_any_fact, wq_any_not, wq_any_all, wq_any_any, wq_any_least, wq_least_fact, wq_least_not, wq_least_all, wq_least_any, wq_least_least, wList, wTuple,
  List.getElem?_cons_zero, List.getElem?_cons_succ, List.getElem?_nil, List.set_cons_zero, List.set_cons_succ, List.cons_append, List.nil_append, List.append_nil, List.length_cons, List.length_nil, List.filterMap_cons, List.filterMap_nil, List.map_cons, List.map_nil, Nat.zero_add, Nat.reduceAdd, D.tyn, Option.some.injEq, exists_eq_left', beq_self_eq_true, bq_tf, bq_ft, Int.zero_add, sz_0, sz_1, sz_2, sz_3, sz_4, sz_5, sz_6, Bool.not_true, Bool.not_false, if_true, if_false, Bool.false_eq_true, true_and, and_true, decide_true, decide_false, List.any_cons, List.any_nil, Bool.or_true, Bool.true_or, Bool.or_false, Bool.false_or, tk_int, tk_bool, tk_str, tk_list, tk_tuple, tk_dict, isi_NoneType_int, isi_NoneType_bool, isi_NoneType_str, isi_NoneType_list, isi_NoneType_tuple, isi_NoneType_dict, isi_int_int, isi_int_bool, isi_int_str, isi_int_list, isi_int_tuple, isi_int_dict, isi_bool_int, isi_bool_bool, isi_bool_str, isi_bool_list, isi_bool_tuple, isi_bool_dict, isi_str_int, isi_str_bool, isi_str_str, isi_str_list, isi_str_tuple, isi_str_dict, isi_list_int, isi_list_bool, isi_list_str, isi_list_list, isi_list_tuple, isi_list_dict, isi_tuple_int, isi_tuple_bool, isi_tuple_str, isi_tuple_list, isi_tuple_tuple, isi_tuple_dict, isi_dict_int, isi_dict_bool, isi_dict_str, isi_dict_list, isi_dict_tuple, isi_dict_dict])
section
variable {P : Program} {w : World} {K : Frag} {mg : Str → Option Value} {base : Heap} {a : Ad} {d : Fd}

def phi_holdsN : Nat → Phi
  | 0 => fun _ _ _ => False
  | n + 1 => fun ds st Q => ∃ (facts world : List Str) (s : Say), ds = [sayD s, strsD world] ∧ (∀ w ∈ facts, PyData.strOk w = true) ∧ (∀ w ∈ world, PyData.strOk w = true) ∧ okY facts n s = true ∧ Q (.dat (.bl (holds world s))) st
theorem ok_holds (T : Tx K mg a d) : ∀ n, FnOk P w K mg base CX0 (n + 3) a.holds d.holds P_holds (spD K 2 (phi_holdsN n)) := by
  intro n
  induction n with
  | zero => exact fnok_false
  | succ n IH_holds =>
  have nd := sc_holds.nd
  refine def_ok T.f_holds sc_holds rfl fun cdv A outer s H E hr => ?_
  have hu := hr.units
  have hu5 := room65 hr
  refine ⟨_, (ss_cons (s_if (t_eq hu (d_ix (dv 0) d_int) d_str) (ss_one (s_ret ((d_in hu5 (d_ix (dv 0) d_int) (dv 1))).rE)) ss_nil)
        (ss_cons (s_if (t_eq hu (d_ix (dv 0) d_int) d_str) (ss_one (s_ret ((d_not (r_call IH_holds T.x_holds hr (a_cons (d_ix (dv 0) d_int) (a_cons (dv 1) a_nil))).dE)).rE)) ss_nil)
        (ss_cons (s_if (t_eq hu (d_ix (dv 0) d_int) d_str) (ss_one (s_ret ((d_ge (d_len T.b_len (r_lcIf (i := 3) [("late", 3)] nd (i_seq (d_ix (dv 0) d_int)) (fun _ _ _ _ _ => pg_name (i := 3) nd rfl (by first | exact Or.inl rfl | exact Or.inr rfl)) (fun _ _ _ _ _ => (t_val (r_call IH_holds T.x_holds hr (a_cons (dv 3) (a_cons (dv 1) a_nil))).dE)) (fun _ _ _ _ _ => (dv 3)) (blkOk_by (N := N_holds) (sc := defScope s_holds) (by decide +kernel)) (by decide)).dE) (d_ix (dv 0) d_int))).rE)) ss_nil)
        (ss_cons (s_setLc (i := 3) 2 [("late", 3)] nd (i_seq (d_ix (dv 0) d_int)) (fun _ _ _ _ _ => pg_name (i := 3) nd rfl (by first | exact Or.inl rfl | exact Or.inr rfl)) (fun _ _ _ _ _ => (r_call IH_holds T.x_holds hr (a_cons (dv 3) (a_cons (dv 1) a_nil))).dE) (blkOk_by (N := N_holds) (sc := defScope s_holds) (by decide +kernel)) (by decide))
        (ss_one (DS.frz 2 (s_ret ((d_if (t_eq hu (d_ix (dv 0) d_int) d_str) (d_all T.b_all (dv 2)) (d_any T.b_any (dv 2)))).rE))))))), fun ds st Q hl h => ?_⟩
  obtain ⟨facts, world, s, rfl, hf, hw, hs, q⟩ := h
  rcases okY_cases hs with ⟨w, rfl, hww, hm⟩ | ⟨m, rfl, ⟨t, rfl, ht⟩ | ⟨l, rfl, hl, hls⟩ | ⟨l, rfl, hl, hls⟩ | ⟨k, l, rfl, hk, hl, hls⟩⟩
  · simp only [sayD, strsD]
    walk_at "rd"
    refine ⟨⟨by simp only [D.py]; exact hf w hm, pys_strs hw⟩, ?_⟩
    rw [any_str]
    exact q
  · simp only [sayD, strsD]
    walk_at "rd"
    refine ⟨facts, world, t, rfl, hf, hw, ht, ?_⟩
    exact q
  · simp only [sayD, strsD, sayDs_map]
    walk_at "rd"
    refine dComp_mapOf sayD (fun t => .bl (holds world t)) l _ (fun t ht Q1 hq => ?_) (size_small (by rw [List.length_nil, Nat.zero_add]; omega)) ?_
    · walk_at "rd"
      exact ⟨facts, world, t, rfl, hf, hw, hls t ht, hq⟩
    · walk_at "rd"
      refine ⟨l.map (holds world), by simp, ?_⟩
      rw [holds, holdsL_map] at q
      exact q
  · simp only [sayD, strsD, sayDs_map]
    walk_at "rd"
    refine dComp_mapOf sayD (fun t => .bl (holds world t)) l _ (fun t ht Q1 hq => ?_) (size_small (by rw [List.length_nil, Nat.zero_add]; omega)) ?_
    · walk_at "rd"
      exact ⟨facts, world, t, rfl, hf, hw, hls t ht, hq⟩
    · walk_at "rd"
      refine ⟨l.map (holds world), by simp, ?_⟩
      rw [holds, holdsL_map] at q
      exact q
  · simp only [sayD, strsD, sayDs_map]
    walk_at "rd"
    refine dComp_filterOf sayD (holds world) sayD l _ (fun t ht Q1 Q2 h1 h2 => ?_) (size_small (by rw [List.length_nil, Nat.zero_add]; omega)) ?_
    · walk_at "rd"
      refine ⟨facts, world, t, rfl, hf, hw, hls t ht, ?_⟩
      cases e : holds world t
      · walk_at "rd"; exact h2 e
      · walk_at "rd"; exact h1 e
    · walk_at "rd"
      simp only [List.nil_append, List.length_map]
      rw [holds, holdsL_len] at q
      rw [show decide (((l.filter (holds world)).length : Int) ≥ (k : Int)) = decide (k ≤ (l.filter (holds world)).length) by rw [decide_eq_decide]; omega]
      exact q
def phi_lots_of : Phi := fun ds st Q => ∃ xs : List Str, ds = [strsD xs] ∧ xs.length ≤ 6 ∧ Q (.own (.lst ((lots xs).map strsD))) st
theorem rev_get {α : Type} {xs : List α} {i : Nat} {x : α} (h : xs.reverse[i]? = some x) : i < xs.length ∧ xs.drop (xs.length - (i + 1)) = x :: xs.drop (xs.length - i) := by
  obtain ⟨h1, h2⟩ := List.getElem?_eq_some_iff.mp h
  rw [List.length_reverse] at h1
  refine ⟨h1, ?_⟩
  rw [List.getElem_reverse] at h2
  have h3 : xs.length - 1 - i = xs.length - (i + 1) := by omega
  rw [List.drop_eq_getElem_cons (by omega), show xs.length - (i + 1) + 1 = xs.length - i by omega, ← h2]
  congr 1
  congr 1
  omega
end
end K02

set_option Elab.async false
set_option linter.all false
set_option maxRecDepth 100000
set_option maxHeartbeats 4000000
namespace K02
open PySem PySem.Spec L2 DL K04
local macro_rules | `(tactic| walk_at "rd") => `(tactic| simp only [startE_cons, startE_none, startE_nil, wipe_cons, wipe_nil, sSeq, sNext, sRet, sRetN, sRetV, sIf, sSet, sDrop, sPar, sAsg, sAug, sApp, sFor, sFrz, sNever, sSpoil, dTupO, dLcO, sRetMove2, sRaise, sHeard, wUpper, wMulS, wCatT0, dSlT, dLcMove, sCatO, sSpoilE, dSlT, dIfR, dDat, dFreeze, dVar, dC, dOp, dOpR, dUn, dUnR, dTest, dAnd, dOr, dNot, dAndV, dOrV, dNotV, dBool, dIf, dChain, dTup, dLst, dLstO, dNil, dCons, oCons, dCall, dCallKw, dIxC, dSlL, dPart, dNoPart, dCell, dIsiT, dBorrow, dLc, dYes, diSeq, diZip3, dListRg, diRange1, diRange2, diZip, diEnum, diRev, diStr, gdName, gdTup, gdCons, gdNil, gdSub, gdSubC, EVd_dat, EVd_own, EVd_deep, EV.mine, pick,
  wI0, wI, wIx_t0, wIx_t1, wIx_t2, wIx_q0, wIx_q1, wIx_l0, wIsi_int, wIsi_bl, wIsi_str, wIsi_non, wIsi_lst, wIsi_tup, wIsi_q, wLen_scr, wLen_lst, wLen_tup, wLen_q, wEq_int, wNe_int, wEq_bl, wNe_bl, wEq_q, wNe_q, wIsN, wNotN, isN_non, isN_bl, isN_int, isN_str, isN_lst, isN_tup, isN_dK, isN_q, isN_say, isT_non, isT_bl, isT_int, isT_str, isT_lst, isT_tup, isT_dK, isT_q, isT_say, wGcd, wNeg, wAbs, wInt, wAll, wSum, wS, wB, wInL, wNotInL, sIns, dRevL, wCatL, wCatT, wRepL, wBits, wIsi_dK, dGetV, dGet2V, dInV, sPut, dDc, diKeys, sLock, unl_nil, unl_none, unl_cons, unl_dat, unl_own, unl_deep, unl_lkd, unl_nn, wListVals, wDget, sPar3, dkAt, dDisp, dPairs, dKeysV, diKeysR, dIndex, sAppO, sPar2, sAsOwn, isWholeD, isCountD, isListD, wIx_fr0, wIx_fr1, wq_fact_fact, wq_fact_not, wq_fact_all, wq_fact_any, wq_fact_least, wq_not_fact, wq_not_not, wq_not_all, wq_not_any, wq_not_least, wq_all_fact, wq_all_not, wq_all_all, wq_all_any, wq_all_least, wq_any_fact, wq_any_not, wq_any_all, wq_any_any, wq_any_least, wq_least_fact, wq_least_not, wq_least_all, wq_least_any, wq_least_least, wList, wTuple,
  List.getElem?_cons_zero, List.getElem?_cons_succ, List.getElem?_nil, List.set_cons_zero, List.set_cons_succ, List.cons_append, List.nil_append, List.append_nil, List.length_cons, List.length_nil, List.filterMap_cons, List.filterMap_nil, List.map_cons, List.map_nil, Nat.zero_add, Nat.reduceAdd, D.tyn, Option.some.injEq, exists_eq_left', beq_self_eq_true, bq_tf, bq_ft, Int.zero_add, sz_0, sz_1, sz_2, sz_3, sz_4, sz_5, sz_6, Bool.not_true, Bool.not_false, if_true, if_false, Bool.false_eq_true, true_and, and_true, decide_true, decide_false, List.any_cons, List.any_nil, Bool.or_true, Bool.true_or, Bool.or_false, Bool.false_or, tk_int, tk_bool, tk_str, tk_list, tk_tuple, tk_dict, isi_NoneType_int, isi_NoneType_bool, isi_NoneType_str, isi_NoneType_list, isi_NoneType_tuple, isi_NoneType_dict, isi_int_int, isi_int_bool, isi_int_str, isi_int_list, isi_int_tuple, isi_int_dict, isi_bool_int, isi_bool_bool, isi_bool_str, isi_bool_list, isi_bool_tuple, isi_bool_dict, isi_str_int, isi_str_bool, isi_str_str, isi_str_list, isi_str_tuple, isi_str_dict, isi_list_int, isi_list_bool, isi_list_str, isi_list_list, isi_list_tuple, isi_list_dict, isi_tuple_int, isi_tuple_bool, isi_tuple_str, isi_tuple_list, isi_tuple_tuple, isi_tuple_dict, isi_dict_int, isi_dict_bool, isi_dict_str, isi_dict_list, isi_dict_tuple, isi_dict_dict])
section
variable {P : Program} {w : World} {K : Frag} {mg : Str → Option Value} {base : Heap} {a : Ad} {d : Fd}

def phi_is_fraction : Phi := fun ds st Q => ∃ v : DL.D, ds = [v] ∧ okT1 v = true ∧ Q (.dat (.bl (isFracD v))) st
theorem tup2 {xs : List DL.D} (h : isTupD (.tup xs) 2 = true) : ∃ x y, xs = [x, y] := by
  have h : decide ((xs.length : Int) = 2) = true := h
  rw [decide_eq_true_eq] at h
  match xs, h with
  | [x, y], _ => exact ⟨x, y, rfl⟩
  | [], h => simp at h
  | [x], h => simp at h
  | _ :: _ :: _ :: _, h => simp only [List.length_cons] at h; omega
def phi_fraction : Phi := fun ds st Q => ∃ i j : Int, ds = [.int i, .int j] ∧ j ≠ 0 ∧ j.natAbs < 2 ^ 9000 ∧ Q (.dat (qD (Rat.divInt i j))) st
theorem mulW_q {p q : Rat} {n m : Nat} (hp : Bd n p) (hq : Bd m q) (h : n + m ≤ 8990) : CMulW p.num q.num ∧ CMulW p.num q.den ∧ CMulW q.num p.den ∧ CMulW p.den q.den ∧ CMulW p.den q.num ∧ CMulW (q.den : Int) p.num ∧ CMulW (q.num) (p.num) :=
  ⟨mulW_of hp.1 hq.1 (by omega), mulW_of hp.1 hq.den (by omega), mulW_of hq.1 hp.den (by omega), mulW_of hp.den hq.den (by omega), mulW_of hp.den hq.1 (by omega), mulW_of hq.den hp.1 (by omega), mulW_of hq.1 hp.1 (by omega)⟩
theorem den_lt {p q : Rat} {n m : Nat} (hp : Bd n p) (hq : Bd m q) (h : n + m ≤ 8990) : ((p.den : Int) * q.den).natAbs < 2 ^ 9000 := Nat.lt_of_lt_of_le (natAbs_mul_lt hp.den hq.den) (Nat.pow_le_pow_right (by decide) (by omega))
theorem den_ne2 (p q : Rat) : (p.den : Int) * q.den ≠ 0 := Int.mul_ne_zero (den_ne p) (den_ne q)
def phi_q2 (f : Rat → Rat → Rat) : Phi := fun ds st Q => ∃ (p q : Rat) (n m : Nat), ds = [qD p, qD q] ∧ Bd n p ∧ Bd m q ∧ n + m ≤ 8990 ∧ Q (.dat (qD (f p q))) st
abbrev phi_plus := phi_q2 (· + ·)
abbrev phi_minus := phi_q2 (· - ·)
abbrev phi_times := phi_q2 (· * ·)
def phi_over : Phi := fun ds st Q => ∃ (p q : Rat) (n m : Nat), ds = [qD p, qD q] ∧ Bd n p ∧ Bd m q ∧ n + m ≤ 8990 ∧ q ≠ 0 ∧ Q (.dat (qD (p / q))) st
def phi_less : Phi := fun ds st Q => ∃ (p q : Rat) (n m : Nat), ds = [qD p, qD q] ∧ Bd n p ∧ Bd m q ∧ n + m ≤ 8990 ∧ Q (.dat (.bl (decide (p < q)))) st
abbrev phi_is_less := phi_less
def phi_total : Phi := fun ds st Q => ∃ (qs : List Rat) (n : Nat), ds = [.lst (qs.map qD)] ∧ BdAll n qs ∧ (n + 1) * (qs.length + 1) ≤ 8900 ∧ Q (.dat (qD (sumOf qs))) st
def phi_boolsN : Nat → Phi
  | 0 => fun _ _ _ => False
  | n + 1 => fun ds st Q => ∃ x, ds = [x, x] ∧ ((∃ b, x = .bl b) ∨ 1 ≤ n ∧ ∃ bs : List Bool, x = .lst (bs.map DL.D.bl) ∧ bs.length ≤ 10) ∧ Q (.dat (.bl true)) st
theorem ok__law_same (T : Tx K mg a d) : ∀ n, FnOk P w K mg base CX0 n a._law_same d._law_same P__law_same (spD K 2 (phi_boolsN n)) := by
  intro n
  induction n with
  | zero => exact fnok_false
  | succ n IH__law_same =>
  have nd := sc__law_same.nd
  refine def_ok T.f__law_same sc__law_same rfl fun cdv A outer s H E hr => ?_
  have hu := hr.units
  have hu5 := room65 hr
  refine ⟨_, (ss_cons (s_if (t_val (d_isi T.b_isinstance (dv 1) (d_type T.b_dict boot_dict))) ss_never ss_nil)
        (ss_cons (s_if (t_val (d_isiT ["list", "tuple"] T.b_isinstance (dv 1) (a_cons (d_type T.b_list boot_list) (a_cons (d_type T.b_tuple boot_tuple) a_nil)))) (ss_cons (s_set 2 nd ((d_and (d_eq hu (d_isi T.b_isinstance (dv 0) (d_type T.b_list boot_list)) (d_isi T.b_isinstance (dv 1) (d_type T.b_list boot_list))) (d_one (d_eq hu (d_isi T.b_isinstance (dv 0) (d_type T.b_tuple boot_tuple)) (d_isi T.b_isinstance (dv 1) (d_type T.b_tuple boot_tuple)))))).rE)
        (ss_one (s_ret ((d_and (dv 2) (d_and (d_eq hu (d_len T.b_len (dv 0)) (d_len T.b_len (dv 1))) (d_one (d_all T.b_all (r_lcT (n := 2) (is := [4, 5]) [("one", 4), ("other", 5)] nd (i_zip T.b_zip (dv 0) (dv 1)) (fun _ _ _ _ _ => pg_tup rfl (pgs_cons (pg_name (i := 4) nd rfl (by first | exact Or.inl rfl | exact Or.inr rfl)) (pgs_cons (pg_name (i := 5) nd rfl (by first | exact Or.inl rfl | exact Or.inr rfl)) pgs_nil))) (fun _ _ _ _ _ => (r_call IH__law_same T.x__law_same hr (a_cons (dv 4) (a_cons (dv 5) a_nil))).dE) (blkOk_by (N := N__law_same) (sc := defScope s__law_same) (by decide +kernel)) (by decide)).dE))))).rE))) ss_nil)
        (ss_cons (s_set 2 nd ((d_and (d_not (d_isiT ["list", "tuple", "dict"] T.b_isinstance (dv 0) (a_cons (d_type T.b_list boot_list) (a_cons (d_type T.b_tuple boot_tuple) (a_cons (d_type T.b_dict boot_dict) a_nil))))) (d_and (d_eq hu (d_isi T.b_isinstance (dv 0) (d_type T.b_int boot_int)) (d_isi T.b_isinstance (dv 1) (d_type T.b_int boot_int))) (d_one (d_eq hu (d_isi T.b_isinstance (dv 0) (d_type T.b_str boot_str)) (d_isi T.b_isinstance (dv 1) (d_type T.b_str boot_str))))))).rE)
        (ss_one (s_ret ((d_and (dv 2) (d_and (d_eq hu (d_isN (dv 0) d_non) (d_isN (dv 1) d_non)) (d_and (d_eq hu (d_isi T.b_isinstance (dv 0) (d_type T.b_bool boot_bool)) (d_isi T.b_isinstance (dv 1) (d_type T.b_bool boot_bool))) (d_one (d_eq hu (dv 0) (dv 1))))))).rE))))), fun ds st Q hl h => ?_⟩
  obtain ⟨x, rfl, hx, q⟩ := h
  rcases hx with ⟨b, rfl⟩ | ⟨h1, bs, rfl, hl⟩
  · walk_at "rd"
    exact q
  · walk_at "rd"
    rw [zipD_self]
    refine dComp_mapOf (fun d => .tup [d, d]) (fun _ => .bl true) _ _ (fun dd hd Q1 hq => ?_) (by rw [List.length_nil, Nat.zero_add, List.length_map]; exact size_small (by omega)) ?_
    · obtain ⟨b, _, rfl⟩ := List.mem_map.mp hd
      walk_at "rd"
      refine ⟨rfl, ?_⟩
      obtain ⟨m, rfl⟩ : ∃ m, n = m + 1 := ⟨n - 1, by omega⟩
      exact ⟨.bl b, rfl, .inl ⟨b, rfl⟩, hq⟩
    · refine ⟨(bs.map DL.D.bl).map fun _ => true, by simp, ?_⟩
      rw [all_const]
      exact q
theorem ok__law_purse (T : Tx K mg a d) : FnOk P w K mg base CX0 1 a._law_purse d._law_purse P__law_purse (spD K 2 phi__law_purse) := by
  have nd := sc__law_purse.nd
  refine def_ok T.f__law_purse sc__law_purse rfl fun cdv A outer s H E hr => ?_
  have hu := hr.units
  have hu5 := room65 hr
  refine ⟨_, (ss_cons (s_set 2 nd ((d_sum T.b_sum (r_slL (dv 0) (o_some (dv 1)) (o_some (d_add (dv 1) d_int))).dE)).rE)
        (ss_one (s_ret (r_lst (a_cons (d_mod (d_toInt T.b_int (d_max2 T.b_max (d_sub (dv 2) (d_powW d_int d_int)) d_int)) (d_powW (d_powW d_int d_int) d_int)) (a_cons (d_mod (d_toInt T.b_int (dv 2)) d_int) (a_cons d_int (a_cons (dv 1) a_nil))))).cell))), fun ds st Q hl h => ?_⟩
  obtain ⟨ns, t, rfl, h0, h1, q⟩ := h
  walk_at "rd"
  refine ⟨cutD ns (some t) (some (t + 1)), rfl, ?_⟩
  generalize (cutD ns (some t) (some (t + 1))).sum = seed
  refine ⟨pow_18, pow_10, pow_60, pow_480.1, by decide, [_, _, 0, t], rfl, q _ ⟨_, _, 0, t, rfl, ?_, ?_, ⟨by omega, by omega⟩, ⟨h0, h1⟩⟩⟩
  · have := mod_in (i := if 0 > seed - 10 ^ Int.toNat 18 then 0 else seed - 10 ^ Int.toNat 18) pow_480.1
    exact ⟨this.1, Int.lt_trans this.2 pow_480.2⟩
  · have := mod_in (i := seed) (j := 2147483629) (by decide)
    exact ⟨this.1, by omega⟩
theorem ok__law_mixed (T : Tx K mg a d) : FnOk P w K mg base CX0 1 a._law_mixed d._law_mixed P__law_mixed (spD K 3 phi__law_mixed) := by
  have nd := sc__law_mixed.nd
  refine def_ok T.f__law_mixed sc__law_mixed rfl fun cdv A outer s H E hr => ?_
  have hu := hr.units
  have hu5 := room65 hr
  refine ⟨_, (ss_cons (s_set 3 nd ((d_add (d_mul (dv 0) d_int) (d_mul (d_mul d_int (dv 1)) (dv 1)))).rE)
        (ss_cons (s_set 3 nd ((d_mod (d_toInt T.b_int (d_add (d_add (dv 3) (d_mul d_int (dv 2))) (dv 1))) d_int)).rE)
        (ss_cons (s_set 3 nd ((d_mod (d_toInt T.b_int (d_add (d_mul (dv 3) (dv 3)) d_int)) d_int)).rE)
        (ss_one (s_ret ((d_mod (d_toInt T.b_int (d_mul (dv 3) d_int)) d_int)).rE))))), fun ds st Q hl h => ?_⟩
  obtain ⟨x, y, z, rfl, h0, h1, h2, q⟩ := h
  walk_at "rd"
  obtain ⟨m1, m2, m3, m4⟩ := mixed_facts h0 h1 h2
  refine ⟨m1, m2, m3, m4, by decide, ?_⟩
  generalize x * 69069 + 104729 * y * y + 7919 * z + y = e1
  have r1 := mod_in (i := e1) (j := 2147483647) (by decide)
  generalize e1 % 2147483647 = e2 at r1
  refine ⟨small_mul (by omega) (by omega), by decide, ?_⟩
  have r2 := mod_in (i := e2 * e2 + 40503) (j := 2147483629) (by decide)
  generalize (e2 * e2 + 40503) % 2147483629 = e3 at r2
  refine ⟨small_mul (by omega) (by omega), by decide, ?_⟩
  have r3 := mod_in (i := e3 * 48271) (j := 2147483587) (by decide)
  exact q _ r3.1 (by omega)
theorem ok__law_draw (T : Tx K mg a d) : FnOk P w K mg base CX0 2 a._law_draw d._law_draw P__law_draw (spD K 2 phi__law_draw) := by
  have nd := sc__law_draw.nd
  refine def_ok T.f__law_draw sc__law_draw rfl fun cdv A outer s H E hr => ?_
  have hu := hr.units
  have hu5 := room65 hr
  refine ⟨_, (ss_cons (s_if (t_gt (d_ixc 0 d_int) d_int) (ss_cons (s_set 2 nd ((d_mod (d_toInt T.b_int (d_ixc 0 d_int)) (dv 1))).rE)
        (ss_cons (s_asg (d_fdivG (d_ixc 0 d_int) (dv 1)) (g_subC 0 d_int))
        (ss_one (s_ret ((dv 2)).rE)))) ss_nil)
        (ss_cons (s_set 3 nd (d_int).rE)
        (ss_cons (s_for PassesOwn.never (i_range1 T.b_range (d_add d_int (d_fdivG (d_bits (dv 1)) d_int))) (g_name (i := 4) nd) (ss_cons (s_asg (d_add (d_ixc 0 d_int) d_int) (g_subC 0 d_int))
        (ss_one (s_set 3 nd ((d_add (d_mul (dv 3) d_int) (r_call (ok__law_mixed T) T.x__law_mixed (hr.mono (by first | decide | omega)) (a_cons (d_ixc 0 d_int) (a_cons (d_ixc 0 d_int) (a_cons (d_ixc 0 d_int) a_nil)))).dE)).rE))))
        (ss_one (s_ret ((d_mod (d_toInt T.b_int (dv 3)) (dv 1))).rE))))), fun ds st Q hl h => ?_⟩
  obtain ⟨n, many, ns, b, rfl, hm, hn, hp, hb, q⟩ := h
  obtain ⟨p0, p1, p2, p3, rfl, h0, h1, h2, h3⟩ := hp
  walk_at "rd"
  refine ⟨_, _, hn, rfl, ?_⟩
  by_cases hp : 0 < p0
  · rw [decide_eq_true hp, if_pos rfl]
    refine ⟨_, _, hn, rfl, by omega, _, _, hn, rfl, small_div (by omega) (by omega), _, 0, hn, rfl, ?_⟩
    refine q _ _ (mod_in (by omega)).1 (mod_in (by omega)).2 ⟨p0.fdiv many, p1, p2, p3, rfl, ?_, h1, ⟨h2.1, by omega⟩, h3⟩
    rw [Int.fdiv_eq_ediv_of_nonneg _ (by omega)]
    exact ⟨Int.ediv_nonneg (by omega) (by omega), Int.lt_of_le_of_lt (Int.ediv_le_self _ (by omega)) h0.2⟩
  · rw [decide_eq_false hp, if_neg Bool.false_ne_true]
    have hbits := bits_small (i := many) (by omega) hm.2
    have e28 : ((Builtin.Int.intBits many : Nat) : Int).fdiv 28 = 0 := by
      rw [Int.fdiv_eq_ediv_of_nonneg _ (by omega), Int.ediv_eq_zero_of_lt (by omega) (by omega)]
    rw [e28, show ((1 : Int) + 0).toNat = 1 from rfl, range_one]
    have hlt : n < st.length := (List.getElem?_eq_some_iff.mp hn).1
    refine ⟨small_div (by decide) (by decide), by decide, ?_⟩
    simp only [dLoop]
    walk_at "rd"
    refine ⟨_, _, hn, rfl, _, 2, hn, rfl, ?_⟩
    have hn2 : (st.set n ([p0, p1, p2, p3].set 2 (p2 + 1)))[n]? = some [p0, p1, p2 + 1, p3] := List.getElem?_set_self hlt
    refine ⟨small_mul (by decide) (by decide), _, _, hn2, rfl, _, _, hn2, rfl, _, _, hn2, rfl, p1, p2 + 1, p3, rfl, h1, ⟨by omega, by omega⟩, h3, fun r _ _ => ?_⟩
    walk_at "rd"
    refine ⟨by omega, ?_⟩
    exact q _ [p0, p1, p2 + 1, p3] (mod_in (by omega)).1 (mod_in (by omega)).2 ⟨p0, p1, p2 + 1, p3, rfl, h0, h1, ⟨by omega, by omega⟩, h3⟩
theorem ok__law_one_of (T : Tx K mg a d) : FnOk P w K mg base CX0 3 a._law_one_of d._law_one_of P__law_one_of (spD K 2 phi__law_one_of) := by
  have nd := sc__law_one_of.nd
  refine def_ok T.f__law_one_of sc__law_one_of rfl fun cdv A outer s H E hr => ?_
  have hu := hr.units
  have hu5 := room65 hr
  refine ⟨_, (ss_one (s_ret ((d_ix (dv 1) (r_call (ok__law_draw T) T.x__law_draw (hr.mono (by first | decide | omega)) (a_cons (dv 0) (a_cons (d_len T.b_len (dv 1)) a_nil))).dE)).rE)), fun ds st Q hl h => ?_⟩
  obtain ⟨n, xs, ns, b, rfl, hx, hl, hn, hp, hb, q⟩ := h
  walk_at "rd"
  have hl0 := List.length_pos_iff.mpr hx
  refine ⟨n, _, ns, b, rfl, by omega, hn, hp, hb, fun r ns' h0 h1 hp' => ?_⟩
  walk_at "rd"
  have hrl : r.toNat < xs.length := by omega
  refine wIx_l (n := r.toNat) (List.getElem?_eq_getElem hrl) (by omega) (q _ _ (List.getElem_mem hrl) hp')
theorem ok__law_purses (T : Tx K mg a d) : FnOk P w K mg base CX0 2 a._law_purses d._law_purses P__law_purses (spD K 2 phi__law_purses) := by
  have nd := sc__law_purses.nd
  refine def_ok T.f__law_purses sc__law_purses rfl fun cdv A outer s H E hr => ?_
  have hu := hr.units
  have hu5 := room65 hr
  refine ⟨_, (ss_one (s_ret (r_lc (i := 2) [("at", 2)] nd (i_range1 T.b_range (d_max2 T.b_max d_int (d_min2 T.b_min (dv 1) (d_len T.b_len (dv 0))))) (fun _ _ _ _ _ => pg_name (i := 2) nd rfl (by first | exact Or.inl rfl | exact Or.inr rfl)) (fun _ _ _ _ _ => (r_call (ok__law_purse T) T.x__law_purse (hr.mono (by first | decide | omega)) (a_cons (dv 0) (a_cons (dv 2) a_nil))).dE) (blkOk_by (N := N__law_purses) (sc := defScope s__law_purses) (by decide +kernel)) (by decide)))), fun ds st Q hl h => ?_⟩
  obtain ⟨ns, few, rfl, hf, rfl, q⟩ := h
  walk_at "rd"
  obtain ⟨k, ek, hk1, hk2⟩ : ∃ k : Nat, (if (if (ns.length : Int) < few then (ns.length : Int) else few) > 1 then if (ns.length : Int) < few then (ns.length : Int) else few else 1) = (k : Nat) ∧ 1 ≤ k ∧ k ≤ max 1 few := by
    by_cases c : (ns.length : Int) < few
    · simp only [if_pos c]
      by_cases c2 : (ns.length : Int) > 1
      · exact ⟨ns.length, if_pos c2, by omega, by omega⟩
      · exact ⟨1, if_neg c2, by omega, by omega⟩
    · simp only [if_neg c]
      by_cases c2 : (few : Int) > 1
      · exact ⟨few, if_pos c2, by omega, by omega⟩
      · exact ⟨1, if_neg c2, by omega, by omega⟩
  rw [ek]
  refine ⟨⟨by omega, by omega⟩, ?_⟩
  rw [Int.toNat_natCast]
  refine dComp_inv (fun i acc st => st.length = i ∧ (∀ c ∈ st, Purse 0 c) ∧ acc = (List.range i).map .cel) _ _ _ (fun i dd acc st Q1 Q2 hd hi k1 k2 => ?_) ⟨rfl, fun c hc => by simp at hc, rfl⟩ (size_small (by rw [rangeD_length]; simp; omega)) fun acc st hi => ?_
  · obtain ⟨hi1, rfl⟩ := rangeD_get hd
    obtain ⟨hi2, hc, rfl⟩ := hi
    walk_at "rd"
    refine ⟨ns, _, rfl, by omega, by omega, fun c hpc => ?_⟩
    walk_at "rd"
    refine k1 _ _ ⟨by simp [hi2], fun c' hc' => ?_, by rw [List.range_succ, List.map_append, hi2]; rfl⟩
    rcases List.mem_append.mp hc' with z | z
    · exact hc _ z
    · rw [List.mem_singleton.mp z]; exact hpc
  · obtain ⟨hi2, hc, rfl⟩ := hi
    rw [rangeD_length] at hi2 ⊢
    exact q k st hk1 hk2 hi2 hc _ rfl
abbrev phi__law_frac := phi_fraction
abbrev phi__law_plus := phi_plus
abbrev phi__law_minus := phi_minus
abbrev phi__law_times := phi_times
abbrev phi__law_less := phi_less
abbrev phi__law_total := phi_total
theorem weigh_bd {n m : Nat} {xs ys : List Rat} (hx : BdAll n xs) (hy : BdAll m ys) : BdAll (n + m) (List.zipWith (· * ·) xs ys) := fun z hz => by
  obtain ⟨i, hi, rfl⟩ := List.getElem_of_mem hz
  rw [List.getElem_zipWith]
  exact (hx _ (List.getElem_mem _)).mul (hy _ (List.getElem_mem _))
def phi_weighed : Phi := fun ds st Q => ∃ (xs ys : List Rat) (n m : Nat), ds = [.lst (xs.map qD), .lst (ys.map qD)] ∧ BdAll n xs ∧ BdAll m ys ∧ n + m ≤ 8900 ∧ (n + m + 1) * (xs.length + 1) ≤ 8900 ∧ xs.length ≤ 1000 ∧ Q (.dat (qD (weighOf xs ys))) st
abbrev phi__law_weighed := phi_weighed
end
end K02

set_option Elab.async false
set_option linter.all false
set_option maxRecDepth 100000
set_option maxHeartbeats 4000000
namespace K02
open PySem PySem.Spec L2 DL K04
local macro_rules | `(tactic| walk_at "rd") => `(tactic| simp only [startE_cons, startE_none, startE_nil, wipe_cons, wipe_nil, sSeq, sNext, sRet, sRetN, sRetV, sIf, sSet, sDrop, sPar, sAsg, sAug, sApp, sFor, sFrz, sNever, sSpoil, dTupO, dLcO, sRetMove2, sRaise, sHeard, wUpper, wMulS, wCatT0, dSlT, dLcMove, sCatO, sSpoilE, dSlT, dIfR, dDat, dFreeze, dVar, dC, dOp, dOpR, dUn, dUnR, dTest, dAnd, dOr, dNot, dAndV, dOrV, dNotV, dBool, dIf, dChain, dTup, dLst, dLstO, dNil, dCons, oCons, dCall, dCallKw, dIxC, dSlL, dPart, dNoPart, dCell, dIsiT, dBorrow, dLc, dYes, diSeq, diZip3, dListRg, diRange1, diRange2, diZip, diEnum, diRev, diStr, gdName, gdTup, gdCons, gdNil, gdSub, gdSubC, EVd_dat, EVd_own, EVd_deep, EV.mine, pick,
  wI0, wI, wIx_t0, wIx_t1, wIx_t2, wIx_q0, wIx_q1, wIx_l0, wIsi_int, wIsi_bl, wIsi_str, wIsi_non, wIsi_lst, wIsi_tup, wIsi_q, wLen_scr, wLen_lst, wLen_tup, wLen_q, wEq_int, wNe_int, wEq_bl, wNe_bl, wEq_q, wNe_q, wIsN, wNotN, isN_non, isN_bl, isN_int, isN_str, isN_lst, isN_tup, isN_dK, isN_q, isN_say, isT_non, isT_bl, isT_int, isT_str, isT_lst, isT_tup, isT_dK, isT_q, isT_say, wGcd, wNeg, wAbs, wInt, wAll, wSum, wS, wB, wInL, wNotInL, sIns, dRevL, wCatL, wCatT, wRepL, wBits, wIsi_dK, dGetV, dGet2V, dInV, sPut, dDc, diKeys, sLock, unl_nil, unl_none, unl_cons, unl_dat, unl_own, unl_deep, unl_lkd, unl_nn, wListVals, wDget, sPar3, dkAt, dDisp, dPairs, dKeysV, diKeysR, dIndex, sAppO, sPar2, sAsOwn, isWholeD, isCountD, isListD, wIx_fr0, wIx_fr1, wq_fact_fact, wq_fact_not, wq_fact_all, wq_fact_any, wq_fact_least, wq_not_fact, wq_not_not, wq_not_all, wq_not_any, wq_not_least, wq_all_fact, wq_all_not, wq_all_all, wq_all_any, wq_all_least, wq_any_fact, wq_any_not, wq_any_all, wq_any_any, wq_any_least, wq_least_fact, wq_least_not, wq_least_all, wq_least_any, wq_least_least, wList, wTuple,
  List.getElem?_cons_zero, List.getElem?_cons_succ, List.getElem?_nil, List.set_cons_zero, List.set_cons_succ, List.cons_append, List.nil_append, List.append_nil, List.length_cons, List.length_nil, List.filterMap_cons, List.filterMap_nil, List.map_cons, List.map_nil, Nat.zero_add, Nat.reduceAdd, D.tyn, Option.some.injEq, exists_eq_left', beq_self_eq_true, bq_tf, bq_ft, Int.zero_add, sz_0, sz_1, sz_2, sz_3, sz_4, sz_5, sz_6, Bool.not_true, Bool.not_false, if_true, if_false, Bool.false_eq_true, true_and, and_true, decide_true, decide_false, List.any_cons, List.any_nil, Bool.or_true, Bool.true_or, Bool.or_false, Bool.false_or, tk_int, tk_bool, tk_str, tk_list, tk_tuple, tk_dict, isi_NoneType_int, isi_NoneType_bool, isi_NoneType_str, isi_NoneType_list, isi_NoneType_tuple, isi_NoneType_dict, isi_int_int, isi_int_bool, isi_int_str, isi_int_list, isi_int_tuple, isi_int_dict, isi_bool_int, isi_bool_bool, isi_bool_str, isi_bool_list, isi_bool_tuple, isi_bool_dict, isi_str_int, isi_str_bool, isi_str_str, isi_str_list, isi_str_tuple, isi_str_dict, isi_list_int, isi_list_bool, isi_list_str, isi_list_list, isi_list_tuple, isi_list_dict, isi_tuple_int, isi_tuple_bool, isi_tuple_str, isi_tuple_list, isi_tuple_tuple, isi_tuple_dict, isi_dict_int, isi_dict_bool, isi_dict_str, isi_dict_list, isi_dict_tuple, isi_dict_dict])
section
variable {P : Program} {w : World} {K : Frag} {mg : Str → Option Value} {base : Heap} {a : Ad} {d : Fd}

def phi__law_shuffled : Phi := fun ds st Q => ∃ (c : Nat) (xs : List DL.D) (ns : List Int) (b : Nat), ds = [.cel c, .lst xs] ∧ xs.length ≤ 20 ∧ st[c]? = some ns ∧ Purse b ns ∧ b < 2 ^ 29 ∧ ∀ (ys : List DL.D) (ns' : List Int), ys.Perm xs → Purse (b + xs.length) ns' → Q (.own (.lst ys)) (st.set c ns')
theorem ok__law_shuffled (T : Tx K mg a d) : FnOk P w K mg base CX0 3 a._law_shuffled d._law_shuffled P__law_shuffled (spD K 2 phi__law_shuffled) := by
  have nd := sc__law_shuffled.nd
  refine def_ok T.f__law_shuffled sc__law_shuffled rfl fun cdv A outer s H E hr => ?_
  have hu := hr.units
  have hu5 := room65 hr
  refine ⟨_, (ss_cons (s_set 2 nd (r_lst a_nil))
        (ss_cons (s_for PassesOwn.never (i_seq (dv 1)) (g_name (i := 3) nd) (ss_one (s_ins 2 (r_call (ok__law_draw T) T.x__law_draw (hr.mono (by first | decide | omega)) (a_cons (dv 0) (a_cons (d_add (DE.borrow 2 (d_len T.b_len (dv 2))) d_int) a_nil))).dE (dv 3))))
        (ss_one (s_retV 2)))), fun ds st Q hl h => ?_⟩
  obtain ⟨c, xs, ns, b, rfl, hl', hn, hp, hb, q⟩ := h
  have hlt : c < st.length := (List.getElem?_eq_some_iff.mp hn).1
  walk_at "rd"
  refine dLoop_inv (fun i env st' => ∃ ns' ys x3, st' = st.set c ns' ∧ Purse (b + i) ns' ∧ ys.Perm (xs.take i) ∧ env = [some (.dat (.cel c)), some (.dat (.lst xs)), some (.own (.lst ys)), x3]) _ _ _ (fun i x env st' nx hx hi k => ?_) ⟨ns, [], _, (set_same hn).symm, hp, .nil, rfl⟩ fun env st' hi => ?_
  · obtain ⟨ns', ys, x3, rfl, hp', hy, rfl⟩ := hi
    have hil := (List.getElem?_eq_some_iff.mp hx).1
    have hyl := hy.length_eq
    rw [List.length_take] at hyl
    walk_at "rd"
    refine ⟨⟨_, rfl⟩, fun _ => by simp [D.flat], c, _, ns', _, rfl, ⟨by omega, by omega⟩, List.getElem?_set_self hlt, hp', by omega, fun r ns2 h0 h1 hp2 => ?_⟩
    walk_at "rd"
    refine ⟨⟨size_lt (by omega), h0, by omega⟩, ?_⟩
    refine k _ _ ⟨ns2, ys.take r.toNat ++ [x] ++ ys.drop r.toNat, _, List.set_set .., hp2, ?_, rfl⟩
    rw [take_succ_of hx, List.append_assoc, List.singleton_append]
    refine List.perm_middle.trans ?_
    rw [List.take_append_drop]
    exact (hy.cons x).trans (List.perm_append_singleton x _).symm
  · obtain ⟨ns', ys, x3, rfl, hp', hy, rfl⟩ := hi
    walk_at "rd"
    rw [List.take_length] at hy
    exact q ys ns' hy hp'
def unstr : DL.D → Str
  | .str w => w
  | _ => "x"
theorem perm_strs {xs : List Str} {ys : List DL.D} (h : ys.Perm (xs.map DL.D.str)) : ∃ zs : List Str, ys = zs.map DL.D.str ∧ zs.Perm xs := by
  refine ⟨ys.map unstr, ?_, ?_⟩
  · rw [List.map_map]
    refine (List.map_id ys).symm.trans (List.map_congr_left fun y hy => ?_)
    obtain ⟨x, _, rfl⟩ := List.mem_map.mp (h.mem_iff.mp hy)
    rfl
  · have := h.map unstr
    rw [List.map_map] at this
    simpa [Function.comp_def, unstr] using this
def phi__law_holdsN : Nat → Phi
  | 0 => fun _ _ _ => False
  | n + 1 => fun ds st Q => ∃ (facts world : List Str) (s : Say), ds = [sayD s, strsD world] ∧ (∀ w ∈ facts, PyData.strOk w = true) ∧ (∀ w ∈ world, PyData.strOk w = true) ∧ world.Nodup ∧ world.length ≤ 100 ∧ okY facts n s = true ∧ Q (.dat (.bl (holds world s))) st
theorem ok__law_holds (T : Tx K mg a d) : ∀ n, FnOk P w K mg base CX0 (n + 3) a._law_holds d._law_holds P__law_holds (spD K 2 (phi__law_holdsN n)) := by
  intro n
  induction n with
  | zero => exact fnok_false
  | succ n IH__law_holds =>
  have nd := sc__law_holds.nd
  refine def_ok T.f__law_holds sc__law_holds rfl fun cdv A outer s H E hr => ?_
  have hu := hr.units
  have hu5 := room65 hr
  refine ⟨_, (ss_cons (s_if (t_eq hu (d_ix (dv 0) d_int) d_str) (ss_one (s_ret ((d_eq hu (d_len T.b_len (r_lcIf (i := 5) [("fact", 5)] nd (i_seq (dv 1)) (fun _ _ _ _ _ => pg_name (i := 5) nd rfl (by first | exact Or.inl rfl | exact Or.inr rfl)) (fun _ _ _ _ _ => (t_eq hu (dv 5) (d_ix (dv 0) d_int))) (fun _ _ _ _ _ => (dv 5)) (blkOk_by (N := N__law_holds) (sc := defScope s__law_holds) (by decide +kernel)) (by decide)).dE) d_int)).rE)) ss_nil)
        (ss_cons (s_if (t_eq hu (d_ix (dv 0) d_int) d_str) (ss_one (s_ret ((d_not (r_call IH__law_holds T.x__law_holds hr (a_cons (d_ix (dv 0) d_int) (a_cons (dv 1) a_nil))).dE)).rE)) ss_nil)
        (ss_cons (s_set 2 nd ((d_if (t_eq hu (d_ix (dv 0) d_int) d_str) (d_ix (dv 0) d_int) (d_ix (dv 0) d_int))).rE)
        (ss_cons (s_set 3 nd ((d_len T.b_len (r_lcIf (i := 4) [("late", 4)] nd (i_seq (dv 2)) (fun _ _ _ _ _ => pg_name (i := 4) nd rfl (by first | exact Or.inl rfl | exact Or.inr rfl)) (fun _ _ _ _ _ => (t_val (r_call IH__law_holds T.x__law_holds hr (a_cons (dv 4) (a_cons (dv 1) a_nil))).dE)) (fun _ _ _ _ _ => (dv 4)) (blkOk_by (N := N__law_holds) (sc := defScope s__law_holds) (by decide +kernel)) (by decide)).dE)).rE)
        (ss_one (s_ret ((d_if (t_eq hu (d_ix (dv 0) d_int) d_str) (d_ge (dv 3) (d_ix (dv 0) d_int)) (d_if (t_eq hu (d_ix (dv 0) d_int) d_str) (d_eq hu (dv 3) (d_len T.b_len (dv 2))) (d_gt (dv 3) d_int)))).rE)))))), fun ds st Q hl h => ?_⟩
  obtain ⟨facts, world, s, rfl, hf, hw, hnd, hwl, hs, q⟩ := h
  rcases okY_cases hs with ⟨w, rfl, hww, hm⟩ | ⟨m, rfl, ⟨t, rfl, ht⟩ | ⟨l, rfl, hl, hls⟩ | ⟨l, rfl, hl, hls⟩ | ⟨k, l, rfl, hk, hl, hls⟩⟩
  · simp only [sayD, strsD]
    walk_at "rd"
    refine dComp_filterOf DL.D.str (fun f => decide (f = w)) DL.D.str world _ (fun f hfm Q1 Q2 h1 h2 => ?_) (size_small (by rw [List.length_nil, Nat.zero_add]; omega)) ?_
    · walk_at "rd"
      rw [wEq_str (hw f hfm) (hf w hm)]
      cases e : decide (f = w)
      · walk_at "rd"; exact h2 e
      · walk_at "rd"; exact h1 e
    · walk_at "rd"
      simp only [List.nil_append, List.length_map]
      rw [holds] at q
      rw [show decide (((world.filter fun f => decide (f = w)).length : Int) = 1) = decide (w ∈ world) by rw [decide_eq_decide, ← one_of hnd]; omega]
      exact q
  · simp only [sayD, strsD]
    walk_at "rd"
    refine ⟨facts, world, t, rfl, hf, hw, hnd, hwl, ht, ?_⟩
    exact q
  · simp only [sayD, strsD, sayDs_map]
    walk_at "rd"
    refine dComp_filterOf sayD (holds world) sayD l _ (fun t ht Q1 Q2 h1 h2 => ?_) (size_small (by rw [List.length_nil, Nat.zero_add]; omega)) ?_
    · walk_at "rd"
      refine ⟨facts, world, t, rfl, hf, hw, hnd, hwl, hls t ht, ?_⟩
      cases e : holds world t
      · walk_at "rd"; exact h2 e
      · walk_at "rd"; exact h1 e
    · walk_at "rd"
      simp only [List.nil_append, List.length_map]
      rw [holds, holdsL_map] at q
      rw [show decide (((l.filter (holds world)).length : Int) = (l.length : Int)) = (l.map (holds world)).all id by rw [Bool.eq_iff_iff, decide_eq_true_iff, ← all_len]; omega]
      exact q
  · simp only [sayD, strsD, sayDs_map]
    walk_at "rd"
    refine dComp_filterOf sayD (holds world) sayD l _ (fun t ht Q1 Q2 h1 h2 => ?_) (size_small (by rw [List.length_nil, Nat.zero_add]; omega)) ?_
    · walk_at "rd"
      refine ⟨facts, world, t, rfl, hf, hw, hnd, hwl, hls t ht, ?_⟩
      cases e : holds world t
      · walk_at "rd"; exact h2 e
      · walk_at "rd"; exact h1 e
    · walk_at "rd"
      simp only [List.nil_append, List.length_map]
      rw [holds, holdsL_map] at q
      rw [show decide ((0 : Int) < ((l.filter (holds world)).length : Int)) = (l.map (holds world)).any id by rw [Bool.eq_iff_iff, decide_eq_true_iff, ← any_len]; omega]
      exact q
  · simp only [sayD, strsD, sayDs_map]
    walk_at "rd"
    refine dComp_filterOf sayD (holds world) sayD l _ (fun t ht Q1 Q2 h1 h2 => ?_) (size_small (by rw [List.length_nil, Nat.zero_add]; omega)) ?_
    · walk_at "rd"
      refine ⟨facts, world, t, rfl, hf, hw, hnd, hwl, hls t ht, ?_⟩
      cases e : holds world t
      · walk_at "rd"; exact h2 e
      · walk_at "rd"; exact h1 e
    · walk_at "rd"
      simp only [List.nil_append, List.length_map]
      rw [holds, holdsL_len] at q
      rw [show decide (((l.filter (holds world)).length : Int) ≥ (k : Int)) = decide (k ≤ (l.filter (holds world)).length) by rw [decide_eq_decide]; omega]
      exact q
def drawsN : Nat → Nat
  | 0 => 2
  | n + 1 => 3 + 5 * drawsN n
def phi__law_sayingN : Nat → Phi
  | 0 => fun _ _ _ => False
  | n + 1 => fun ds st Q => ∃ (c k : Nat) (facts : List Str) (ns : List Int) (b : Nat), ds = [.cel c, strsD facts, .int (k : Nat)] ∧ k ≤ n ∧ (∀ w ∈ facts, wordOk w = true) ∧ facts.length ≤ 100 ∧ st[c]? = some ns ∧ Purse b ns ∧ b + drawsN k < 2 ^ 28 ∧ ∀ (s : Say) (ns' : List Int), okY facts (k + 1) s = true → Purse (b + drawsN k) ns' → Q (.dat (sayD s)) (st.set c ns')
theorem draw_either {c b : Nat} {st : Store} {ns1 : List Int} {K : EV → Store → Prop} (t : Bool) (hlt : c < st.length) (hp : Purse b ns1) (hb : b < 2 ^ 29) (h : ∀ (many : Nat) (ns2 : List Int), many ≤ 5 → Purse (b + 1) ns2 → K (.dat (.int (many : Nat))) (st.set c ns2)) :
    if t = true then phi__law_one_of [.cel c, .lst [.int 0, .int 1, .int 2, .int 2, .int 3, .int 5]] (st.set c ns1) K else phi__law_draw [.cel c, .int 3] (st.set c ns1) K := by
  cases t
  · rw [if_neg Bool.false_ne_true]
    refine ⟨c, 3, ns1, b, rfl, ⟨by decide, by decide⟩, List.getElem?_set_self hlt, hp, by omega, fun r ns2 h0 h1 hp2 => ?_⟩
    rw [List.set_set]
    have := h r.toNat ns2 (by omega) hp2
    rwa [Int.toNat_of_nonneg h0] at this
  · rw [if_pos rfl]
    refine ⟨c, _, ns1, b, rfl, by simp, by decide, List.getElem?_set_self hlt, hp, by omega, fun x ns2 hx hp2 => ?_⟩
    rw [List.set_set]
    simp only [List.mem_cons, List.not_mem_nil, or_false] at hx
    rcases hx with rfl | rfl | rfl | rfl | rfl | rfl
    · exact h 0 ns2 (by decide) hp2
    · exact h 1 ns2 (by decide) hp2
    · exact h 2 ns2 (by decide) hp2
    · exact h 2 ns2 (by decide) hp2
    · exact h 3 ns2 (by decide) hp2
    · exact h 5 ns2 (by decide) hp2
theorem ok__law_saying (T : Tx K mg a d) : ∀ n, FnOk P w K mg base CX0 (n + 4) a._law_saying d._law_saying P__law_saying (spD K 3 (phi__law_sayingN n)) := by
  intro n
  induction n with
  | zero => exact fnok_false
  | succ n IH__law_saying =>
  have nd := sc__law_saying.nd
  refine def_ok T.f__law_saying sc__law_saying rfl fun cdv A outer s H E hr => ?_
  have hu := hr.units
  have hu5 := room65 hr
  refine ⟨_, (ss_cons (s_set 3 nd ((d_if (t_gt (dv 2) d_int) (r_call (ok__law_draw T) T.x__law_draw (hr.mono (by first | decide | omega)) (a_cons (dv 0) (a_cons d_int a_nil))).dE d_int)).rE)
        (ss_cons (s_if (w_or (t_lt (dv 3) d_int) (w_or1 (t_eq hu (dv 1) (r_lst a_nil).dE))).t (ss_one (s_ret ((d_if (t_ne hu (dv 1) (r_lst a_nil).dE) (d_tup (a_cons d_str (a_cons (r_call (ok__law_one_of T) T.x__law_one_of (hr.mono (by first | decide | omega)) (a_cons (dv 0) (a_cons (dv 1) a_nil))).dE a_nil))) (d_tup (a_cons (r_call (ok__law_one_of T) T.x__law_one_of (hr.mono (by first | decide | omega)) (a_cons (dv 0) (a_cons (r_lst (a_cons d_str (a_cons d_str a_nil))).dE a_nil))).dE (a_cons (r_lst a_nil).dE a_nil))))).rE)) ss_nil)
        (ss_cons (s_if (t_eq hu (dv 3) d_int) (ss_one (s_ret ((d_tup (a_cons d_str (a_cons (r_call IH__law_saying T.x__law_saying hr (a_cons (dv 0) (a_cons (dv 1) (a_cons (d_sub (dv 2) d_int) a_nil)))).dE a_nil)))).rE)) ss_nil)
        (ss_cons (s_setLc (i := 5) 4 [("spin", 5)] nd (i_range1 T.b_range (d_if (t_lt (dv 2) d_int) (r_call (ok__law_one_of T) T.x__law_one_of (hr.mono (by first | decide | omega)) (a_cons (dv 0) (a_cons (r_lst (a_cons d_int (a_cons d_int (a_cons d_int (a_cons d_int (a_cons d_int (a_cons d_int a_nil))))))).dE a_nil))).dE (r_call (ok__law_draw T) T.x__law_draw (hr.mono (by first | decide | omega)) (a_cons (dv 0) (a_cons d_int a_nil))).dE)) (fun _ _ _ _ _ => pg_name (i := 5) nd rfl (by first | exact Or.inl rfl | exact Or.inr rfl)) (fun _ _ _ _ _ => (r_call IH__law_saying T.x__law_saying hr (a_cons (dv 0) (a_cons (dv 1) (a_cons (d_sub (dv 2) d_int) a_nil)))).dE) (blkOk_by (N := N__law_saying) (sc := defScope s__law_saying) (by decide +kernel)) (by decide))
        (ss_one (DS.frz 4 (s_ret ((d_if (t_eq hu (dv 3) d_int) (d_tup (a_cons d_str (a_cons (r_call (ok__law_draw T) T.x__law_draw (hr.mono (by first | decide | omega)) (a_cons (dv 0) (a_cons d_int a_nil))).dE (a_cons (dv 4) a_nil)))) (d_tup (a_cons (d_if (t_eq hu (dv 3) d_int) d_str d_str) (a_cons (dv 4) a_nil))))).rE))))))), fun ds st Q hl h => ?_⟩
  obtain ⟨c, k, facts, ns, b, rfl, hkn, hf, hfl, hn, hp, hb, q⟩ := h
  have hlt : c < st.length := (List.getElem?_eq_some_iff.mp hn).1
  simp only [strsD] at *
  have hsay : facts ≠ [] → ∀ x ∈ facts.map DL.D.str, ∃ w, w ∈ facts ∧ x = .str w := fun _ x hx => by
    obtain ⟨w, hw, rfl⟩ := List.mem_map.mp hx; exact ⟨w, hw, rfl⟩
  have hstr : ∀ w ∈ facts, PyData.strOk w = true := fun w hw => wordOk_str (hf w hw)
  -- the leaf: a fact, or all or any of nothing
  have leaf : ∀ (x3 : Option EV) (ns1 : List Int), Purse (b + 1) ns1 → (∀ (s : Say) (ns' : List Int), okY facts (k + 1) s = true → Purse (b + 2) ns' → Q (.dat (sayD s)) (st.set c ns')) → wNe (DL.D.lst (facts.map DL.D.str)) (.lst []) fun z => match z with
      | .bl bb => if bb = true then phi__law_one_of [.cel c, .lst (facts.map DL.D.str)] (st.set c ns1) (fun ev st' => Q (EV.dat (.tup [.str "fact", ev.d])) st')
        else phi__law_one_of [.cel c, .lst [.str "all", .str "any"]] (st.set c ns1) (fun ev st' => Q (EV.dat (.tup [ev.d, .lst []])) st')
      | _ => False := fun x3 ns1 hp1 kk => by
    refine wNe_strs0 hstr ?_
    cases he : facts with
    | nil =>
      subst he
      walk_at "rd"
      refine ⟨c, _, ns1, _, rfl, by simp, by decide, List.getElem?_set_self hlt, hp1, by omega, fun x ns2 hx hp2 => ?_⟩
      rw [List.set_set]
      simp only [List.mem_cons, List.not_mem_nil, or_false] at hx
      rcases hx with rfl | rfl
      · have := kk (.all []) ns2 (by simp [okY]) hp2
        simp only [sayD, sayDs] at this; exact this
      · have := kk (.any []) ns2 (by simp [okY]) hp2
        simp only [sayD, sayDs] at this; exact this
    | cons f fs =>
      rw [← he]
      have hne : facts.isEmpty = false := by rw [he]; rfl
      rw [hne]
      walk_at "rd"
      refine ⟨c, _, ns1, _, rfl, by rw [he]; simp, by rw [List.length_map]; omega, List.getElem?_set_self hlt, hp1, by omega, fun x ns2 hx hp2 => ?_⟩
      rw [List.set_set]
      obtain ⟨w, hw, rfl⟩ := List.mem_map.mp hx
      have := kk (.fact w) ns2 (by simp [okY, hf w hw, hw]) hp2
      simp only [sayD] at this; exact this
  refine seq_hide fun R e => ?_
  walk_at "rd"
  cases k with
  | zero =>
    rw [decide_eq_false (by decide), if_neg Bool.false_ne_true, e]
    walk_at "rd"
    have := leaf none ns (hp.mono (by omega)) q
    rw [set_same hn] at this
    exact this
  | succ n' =>
    obtain ⟨n, rfl⟩ : ∃ z, n = z + 1 := ⟨n - 1, by omega⟩
    rw [decide_eq_true (by omega), if_pos rfl]
    refine ⟨c, 7, ns, b, rfl, ⟨by decide, by decide⟩, hn, hp, by omega, fun way ns1 hw0 hw1 hp1 => ?_⟩
    rw [e]
    refine seq_hide fun R e => ?_
    walk_at "rd"
    have hdr : drawsN (n' + 1) = 3 + 5 * drawsN n' := rfl
    have hdn : 2 ≤ drawsN n' := by cases n' <;> simp only [drawsN] <;> omega
    by_cases c3 : way < 3
    · rw [decide_eq_true c3, if_pos rfl]
      exact leaf none ns1 hp1 fun s ns' hs hp => q s ns' hs (hp.mono (by simp only [drawsN]; omega))
    rw [decide_eq_false c3, if_neg Bool.false_ne_true]
    refine wEq_strs0 hstr ?_
    cases he : facts.isEmpty
    case true =>
      exact leaf none ns1 hp1 fun s ns' hs hp => q s ns' hs (hp.mono (by simp only [drawsN]; omega))
    case false =>
    simp only [Bool.false_eq_true, if_false]
    rw [e]
    refine seq_hide fun R e => ?_
    walk_at "rd"
    have hn1 : ∀ x, (st.set c x)[c]? = some x := fun x => List.getElem?_set_self hlt
    rw [show (((n' + 1 : Nat) : Int) - 1) = (n' : Nat) by omega]
    by_cases c4 : way = 3
    · rw [decide_eq_true c4]
      walk_at "rd"
      refine ⟨c, n', facts, ns1, b + 1, rfl, by omega, hf, hfl, hn1 _, hp1, by omega, fun s ns2 hs hp2 => ?_⟩
      rw [List.set_set]
      have := q (.neg s) ns2 hs (hp2.mono (by simp only [drawsN]; omega))
      simp only [sayD] at this
      exact this
    rw [decide_eq_false c4]
    walk_at "rd"
    rw [e]
    refine seq_hide fun R e => ?_
    walk_at "rd"
    refine draw_either _ hlt hp1 (by omega) fun many ns2 hm5 hp2 => ?_
    walk_at "rd"
    rw [Int.toNat_natCast]
    refine ⟨by omega, ?_⟩
    refine dComp_inv (fun i acc st' => ∃ (l : List Say) (ns' : List Int), st' = st.set c ns' ∧ Purse (b + 2 + drawsN n' * i) ns' ∧ acc = l.map sayD ∧ l.length = i ∧ ∀ t ∈ l, okY facts (n' + 1) t = true) _ _ _ (fun i dd acc st' Q1 Q2 hd hi k1 k2 => ?_) ⟨[], ns2, rfl, hp2, rfl, rfl, fun _ h => by simp at h⟩ (size_small (by rw [rangeD_length, List.length_nil]; omega)) fun acc st' hi => ?_
    · obtain ⟨l, ns3, rfl, hp3, rfl, hll, hlo⟩ := hi
      obtain ⟨hi5, rfl⟩ := rangeD_get hd
      have hmul : drawsN n' * i + drawsN n' ≤ 5 * drawsN n' := by
        have : drawsN n' * (i + 1) ≤ drawsN n' * 5 := Nat.mul_le_mul_left _ (by omega)
        rw [Nat.mul_succ] at this; omega
      walk_at "rd"
      rw [show (((n' + 1 : Nat) : Int) - 1) = (n' : Nat) by omega]
      refine ⟨c, n', facts, ns3, _, rfl, by omega, hf, hfl, hn1 _, hp3, by omega, fun s ns4 hs hp4 => ?_⟩
      rw [List.set_set]
      refine k1 _ _ ⟨l ++ [s], ns4, rfl, hp4.mono (by rw [Nat.mul_succ]; omega), by rw [List.map_append]; rfl, by simp [hll], fun t ht => ?_⟩
      rcases List.mem_append.mp ht with h | h
      · exact hlo t h
      · rw [List.mem_singleton.mp h]; exact hs
    · obtain ⟨l, ns3, rfl, hp3, rfl, hll, hlo⟩ := hi
      rw [rangeD_length] at hll hp3
      have hmul : drawsN n' * many ≤ 5 * drawsN n' := by rw [Nat.mul_comm]; exact Nat.mul_le_mul_right _ hm5
      have hl100 : l.length ≤ 100 := by omega
      have hall : l.all (okY facts (n' + 1)) = true := List.all_eq_true.mpr hlo
      rw [e]
      walk_at "rd"
      by_cases c6 : way = 6
      · rw [decide_eq_true c6]
        walk_at "rd"
        refine ⟨c, 5, ns3, _, rfl, ⟨by decide, by decide⟩, hn1 _, hp3, by omega, fun k ns4 hk0 hk1 hp4 => ?_⟩
        rw [List.set_set]
        have := q (.least k.toNat l) ns4 (by simp only [okY, Bool.and_eq_true, decide_eq_true_eq]; exact ⟨⟨by omega, hl100⟩, hall⟩) (hp4.mono (by omega))
        simp only [sayD, sayDs_map] at this
        rw [Int.toNat_of_nonneg hk0] at this
        exact this
      rw [decide_eq_false c6]
      walk_at "rd"
      by_cases c5 : way = 4
      · rw [decide_eq_true c5]
        walk_at "rd"
        have := q (.all l) ns3 (by simp only [okY, Bool.and_eq_true, decide_eq_true_eq]; exact ⟨hl100, hall⟩) (hp3.mono (by omega))
        simp only [sayD, sayDs_map] at this
        exact this
      · rw [decide_eq_false c5]
        walk_at "rd"
        have := q (.any l) ns3 (by simp only [okY, Bool.and_eq_true, decide_eq_true_eq]; exact ⟨hl100, hall⟩) (hp3.mono (by omega))
        simp only [sayD, sayDs_map] at this
        exact this
end
end K02

set_option Elab.async false
set_option linter.all false
set_option maxRecDepth 100000
set_option maxHeartbeats 4000000
namespace K02
open PySem PySem.Spec L2 DL K04
local macro_rules | `(tactic| walk_at "rd") => `(tactic| simp only [startE_cons, startE_none, startE_nil, wipe_cons, wipe_nil, sSeq, sNext, sRet, sRetN, sRetV, sIf, sSet, sDrop, sPar, sAsg, sAug, sApp, sFor, sFrz, sNever, sSpoil, dTupO, dLcO, sRetMove2, sRaise, sHeard, wUpper, wMulS, wCatT0, dSlT, dLcMove, sCatO, sSpoilE, dSlT, dIfR, dDat, dFreeze, dVar, dC, dOp, dOpR, dUn, dUnR, dTest, dAnd, dOr, dNot, dAndV, dOrV, dNotV, dBool, dIf, dChain, dTup, dLst, dLstO, dNil, dCons, oCons, dCall, dCallKw, dIxC, dSlL, dPart, dNoPart, dCell, dIsiT, dBorrow, dLc, dYes, diSeq, diZip3, dListRg, diRange1, diRange2, diZip, diEnum, diRev, diStr, gdName, gdTup, gdCons, gdNil, gdSub, gdSubC, EVd_dat, EVd_own, EVd_deep, EV.mine, pick,
  wI0, wI, wIx_t0, wIx_t1, wIx_t2, wIx_q0, wIx_q1, wIx_l0, wIsi_int, wIsi_bl, wIsi_str, wIsi_non, wIsi_lst, wIsi_tup, wIsi_q, wLen_scr, wLen_lst, wLen_tup, wLen_q, wEq_int, wNe_int, wEq_bl, wNe_bl, wEq_q, wNe_q, wIsN, wNotN, isN_non, isN_bl, isN_int, isN_str, isN_lst, isN_tup, isN_dK, isN_q, isN_say, isT_non, isT_bl, isT_int, isT_str, isT_lst, isT_tup, isT_dK, isT_q, isT_say, wGcd, wNeg, wAbs, wInt, wAll, wSum, wS, wB, wInL, wNotInL, sIns, dRevL, wCatL, wCatT, wRepL, wBits, wIsi_dK, dGetV, dGet2V, dInV, sPut, dDc, diKeys, sLock, unl_nil, unl_none, unl_cons, unl_dat, unl_own, unl_deep, unl_lkd, unl_nn, wListVals, wDget, sPar3, dkAt, dDisp, dPairs, dKeysV, diKeysR, dIndex, sAppO, sPar2, sAsOwn, isWholeD, isCountD, isListD, wIx_fr0, wIx_fr1, wq_fact_fact, wq_fact_not, wq_fact_all, wq_fact_any, wq_fact_least, wq_not_fact, wq_not_not, wq_not_all, wq_not_any, wq_not_least, wq_all_fact, wq_all_not, wq_all_all, wq_all_any, wq_all_least, wq_any_fact, wq_any_not, wq_any_all, wq_any_any, wq_any_least, wq_least_fact, wq_least_not, wq_least_all, wq_least_any, wq_least_least, wList, wTuple,
  List.getElem?_cons_zero, List.getElem?_cons_succ, List.getElem?_nil, List.set_cons_zero, List.set_cons_succ, List.cons_append, List.nil_append, List.append_nil, List.length_cons, List.length_nil, List.filterMap_cons, List.filterMap_nil, List.map_cons, List.map_nil, Nat.zero_add, Nat.reduceAdd, D.tyn, Option.some.injEq, exists_eq_left', beq_self_eq_true, bq_tf, bq_ft, Int.zero_add, sz_0, sz_1, sz_2, sz_3, sz_4, sz_5, sz_6, Bool.not_true, Bool.not_false, if_true, if_false, Bool.false_eq_true, true_and, and_true, decide_true, decide_false, List.any_cons, List.any_nil, Bool.or_true, Bool.true_or, Bool.or_false, Bool.false_or, tk_int, tk_bool, tk_str, tk_list, tk_tuple, tk_dict, isi_NoneType_int, isi_NoneType_bool, isi_NoneType_str, isi_NoneType_list, isi_NoneType_tuple, isi_NoneType_dict, isi_int_int, isi_int_bool, isi_int_str, isi_int_list, isi_int_tuple, isi_int_dict, isi_bool_int, isi_bool_bool, isi_bool_str, isi_bool_list, isi_bool_tuple, isi_bool_dict, isi_str_int, isi_str_bool, isi_str_str, isi_str_list, isi_str_tuple, isi_str_dict, isi_list_int, isi_list_bool, isi_list_str, isi_list_list, isi_list_tuple, isi_list_dict, isi_tuple_int, isi_tuple_bool, isi_tuple_str, isi_tuple_list, isi_tuple_tuple, isi_tuple_dict, isi_dict_int, isi_dict_bool, isi_dict_str, isi_dict_list, isi_dict_tuple, isi_dict_dict])
section
variable {P : Program} {w : World} {K : Frag} {mg : Str → Option Value} {base : Heap} {a : Ad} {d : Fd}

theorem isSay_none (f : List Str) : ∀ (m : Nat) (d : DL.D), isSay (some f) m d = true → isSay none m d = true := by
  intro m
  induction m with
  | zero => intro d h; exact h
  | succ n ih =>
    intro d h
    rw [isSay] at h ⊢
    by_cases c1 : saidD d "fact" 2 = true
    · rw [if_pos c1] at h ⊢
      rw [Bool.and_eq_true] at h ⊢
      exact ⟨h.1, rfl⟩
    rw [if_neg c1] at h ⊢
    by_cases c2 : saidD d "not" 2 = true
    · rw [if_pos c2] at h ⊢
      exact ih _ h
    rw [if_neg c2] at h ⊢
    by_cases c3 : saidD d "all" 2 = true ∨ saidD d "any" 2 = true
    · rw [if_pos c3] at h ⊢
      rw [Bool.and_eq_true, List.all_eq_true] at h ⊢
      exact ⟨h.1, fun t ht => ih t (h.2 t ht)⟩
    rw [if_neg c3] at h ⊢
    by_cases c4 : saidD d "least" 3 = true ∧ isCountD (D.at' d 1) 0 = true
    · rw [if_pos c4] at h ⊢
      rw [Bool.and_eq_true, List.all_eq_true] at h ⊢
      exact ⟨h.1, fun t ht => ih t (h.2 t ht)⟩
    rw [if_neg c4] at h
    cases h
theorem okV_words {xs : List Str} (h : ∀ w ∈ xs, wordOk w = true) (hl : xs.length ≤ 1000) (n : Nat) : okV (n + 1) (strsD xs) = true := okV_lst (by rw [List.length_map]; exact hl) fun d hd => by
  obtain ⟨w, hw, rfl⟩ := List.mem_map.mp hd
  exact okV_str (wordOk_str (h w hw)) (word_len (h w hw)) n
def phi_is_saying : Phi := fun ds st Q => ∃ (facts : List Str) (d : DL.D), ds = [strsD facts, d] ∧ wordsOk facts ∧ facts.length ≤ 100 ∧ okV 15 d = true ∧ Q (.dat (.bl (isSay (some facts) 16 d))) st
theorem ok_is_saying (T : Tx K mg a d) : FnOk P w K mg base CX0 20 a.is_saying d.is_saying P_is_saying (spD K 2 phi_is_saying) := by
  have nd := sc_is_saying.nd
  refine def_ok T.f_is_saying sc_is_saying rfl fun cdv A outer s H E hr => ?_
  have hu := hr.units
  have hu5 := room65 hr
  refine ⟨_, (ss_cons (s_if (t_not (t_val (r_call (ok_are_words T) T.x_are_words (hr.mono (by first | decide | omega)) (a_cons (dv 0) a_nil)).dE)) ss_never ss_nil)
        (ss_one (s_ret (r_call (ok_is_saying_of T 16) T.x_is_saying_of (hr.mono (by first | decide | omega)) (a_cons (dv 0) (a_cons (dv 1) a_nil)))))), fun ds st Q hl h => ?_⟩
  obtain ⟨facts, x, rfl, hf, hl', hx, q⟩ := h
  walk_at "rd"
  refine ⟨1, _, rfl, okV_words hf.1 (by omega) 0, ?_⟩
  rw [areWords_ok hf]
  walk_at "rd"
  exact ⟨some facts, x, rfl, fun l e w hw => by cases e; exact wordOk_str (hf.1 w hw), hx, q⟩
def phi_is_so : Phi := fun ds st Q => ∃ (facts world : List Str) (s : Say), ds = [sayD s, strsD world] ∧ (∀ w ∈ facts, PyData.strOk w = true) ∧ wordsOk world ∧ world.length ≤ 100 ∧ okY facts 7 s = true ∧ Q (.dat (.bl (holds world s))) st
theorem ok_is_so (T : Tx K mg a d) : FnOk P w K mg base CX0 20 a.is_so d.is_so P_is_so (spD K 2 phi_is_so) := by
  have nd := sc_is_so.nd
  refine def_ok T.f_is_so sc_is_so rfl fun cdv A outer s H E hr => ?_
  have hu := hr.units
  have hu5 := room65 hr
  refine ⟨_, (ss_cons (s_if (t_not (t_val (r_call (ok_is_saying_of T 16) T.x_is_saying_of (hr.mono (by first | decide | omega)) (a_cons d_non (a_cons (dv 0) a_nil))).dE)) ss_never ss_nil)
        (ss_cons (s_if (t_not (t_val (r_call (ok_are_words T) T.x_are_words (hr.mono (by first | decide | omega)) (a_cons (dv 1) a_nil)).dE)) ss_never ss_nil)
        (ss_one (s_ret (r_call (ok_holds T 8) T.x_holds (hr.mono (by first | decide | omega)) (a_cons (dv 0) (a_cons (dv 1) a_nil))))))), fun ds st Q hl h => ?_⟩
  obtain ⟨facts, world, s, rfl, hf, hw, hl', hs, q⟩ := h
  walk_at "rd"
  refine ⟨none, _, rfl, fun l e => (by cases e), okV_say' hs (by decide), ?_⟩
  rw [isSay_none facts _ _ (isSay_ok hs 16 (by decide))]
  walk_at "rd"
  refine ⟨1, _, rfl, okV_words hw.1 (by omega) 0, ?_⟩
  rw [areWords_ok hw]
  walk_at "rd"
  exact ⟨facts, world, s, rfl, hf, fun w h => wordOk_str (hw.1 w h), hs, q⟩
/-! the ways in which they raise -/
def phiX_is_saying (a : Ad) : PhiX := fun ds st _ E => ∃ (n : Nat) (x y : DL.D), ds = [x, y] ∧ okV n x = true ∧ areWordsD x = false ∧ E a.E_InvalidFacts x st
theorem okX_is_saying (T : Tx K mg a d) : FnOk P w K mg base (L2.CX P w) 20 a.is_saying d.is_saying P_is_saying (spX K 2 (phiX_is_saying a)) := by
  have nd := sc_is_saying.nd
  refine def_okX T.f_is_saying sc_is_saying rfl fun cdv A outer s H E w0 E' hr hE => ?_
  have hu := hr.units
  have hu5 := room65 hr
  refine ⟨_, x_cons (x_if (t_not (t_val (r_call (ok_are_words T) T.x_are_words (hr.mono (by first | decide | omega)) (a_cons (dv 0) a_nil)).dE)) (x_one (x_raise hE (takes_of rfl rfl rfl rfl) T.e_InvalidFacts hr (dv 0))) ss_nil.x) ss_never.x, fun ds st Q hl h => ?_⟩
  obtain ⟨n, x, y, rfl, hx, hw, q⟩ := h
  walk_at "rd"
  refine ⟨n, x, rfl, hx, ?_⟩
  rw [hw]
  walk_at "rd"
  exact q
def phiX_is_so (a : Ad) : PhiX := fun ds st _ E => ∃ (x y : DL.D), ds = [x, y] ∧ okV 15 x = true ∧ ((isSay none 16 x = false ∧ E a.E_InvalidSaying x st) ∨ ∃ n, okV n y = true ∧ isSay none 16 x = true ∧ areWordsD y = false ∧ E a.E_InvalidWorld y st)
theorem okX_is_so (T : Tx K mg a d) : FnOk P w K mg base (L2.CX P w) 20 a.is_so d.is_so P_is_so (spX K 2 (phiX_is_so a)) := by
  have nd := sc_is_so.nd
  refine def_okX T.f_is_so sc_is_so rfl fun cdv A outer s H E w0 E' hr hE => ?_
  have hu := hr.units
  have hu5 := room65 hr
  refine ⟨_, x_cons (x_if (t_not (t_val (r_call (ok_is_saying_of T 16) T.x_is_saying_of (hr.mono (by first | decide | omega)) (a_cons d_non (a_cons (dv 0) a_nil))).dE)) (x_one (x_raise hE (takes_of rfl rfl rfl rfl) T.e_InvalidSaying hr (dv 0))) ss_nil.x)
    (x_cons (x_if (t_not (t_val (r_call (ok_are_words T) T.x_are_words (hr.mono (by first | decide | omega)) (a_cons (dv 1) a_nil)).dE)) (x_one (x_raise hE (takes_of rfl rfl rfl rfl) T.e_InvalidWorld hr (dv 1))) ss_nil.x) ss_never.x), fun ds st Q hl h => ?_⟩
  obtain ⟨x, y, rfl, hx, h⟩ := h
  walk_at "rd"
  refine ⟨none, x, rfl, fun l e => (by cases e), hx, ?_⟩
  rcases h with ⟨h1, q⟩ | ⟨n, hy, h1, h2, q⟩
  · rw [h1]
    walk_at "rd"
    exact q
  · rw [h1]
    walk_at "rd"
    refine ⟨n, y, rfl, hy, ?_⟩
    rw [h2]
    walk_at "rd"
    exact q
def phi__law_heard : Phi := fun ds st Q => ∃ (way : Int) (x y : DL.D), ds = [.int way, x, y] ∧ (way = 0 ∧ (∃ n, okV n x = true ∧ areWordsD x = false) ∧ (∀ ev : EV, ev.d = .lst [.lst [.bl true, .bl false, .bl false], x] → Q ev st) ∨
  way = 1 ∧ okV 15 x = true ∧ ((isSay none 16 x = false ∧ ∀ ev : EV, ev.d = .lst [.lst [.bl false, .bl true, .bl false], x] → Q ev st) ∨ ∃ n, okV n y = true ∧ isSay none 16 x = true ∧ areWordsD y = false ∧ ∀ ev : EV, ev.d = .lst [.lst [.bl false, .bl false, .bl true], y] → Q ev st))
theorem ok__law_heard (T : Tx K mg a d) : FnOk P w K mg base CX0 22 a._law_heard d._law_heard P__law_heard (spD K 3 phi__law_heard) := by
  have nd := sc__law_heard.nd
  refine def_ok T.f__law_heard sc__law_heard rfl fun cdv A outer s H E hr => ?_
  have hu := hr.units
  have hu5 := room65 hr
  refine ⟨_, (ss_cons (s_set 3 nd (r_lst a_nil)) (ss_cons (s_heard (pd := ⟨0, 0, 0, 0⟩) nd (okX_is_saying T) T.x_is_saying (hr.mono (by first | decide | omega)) (okX_is_so T) T.x_is_so (hr.mono (by first | decide | omega)) T.gb T.e_InvalidFacts.gC T.e_InvalidSaying.gC T.e_InvalidWorld.gC T.b_isinstance)
    (ss_one (s_ret (d_if (t_ne0 hu (dv 3) (r_lst a_nil).dE) (dv 3) (r_lst (a_cons d_str (a_cons (dv 4) a_nil))).dE).rE)))), fun ds st Q hl h => ?_⟩
  have k1 : Kinds K mg a.E_BookError a.E_InvalidFacts a.E_InvalidSaying a.E_InvalidWorld a.E_InvalidFacts true false false := ⟨⟨_, _, T.e_InvalidFacts⟩, T.xm_InvalidFacts, T.kt_InvalidFacts_InvalidFacts, T.kt_InvalidFacts_InvalidSaying, T.kt_InvalidFacts_InvalidWorld⟩
  have k2 : Kinds K mg a.E_BookError a.E_InvalidFacts a.E_InvalidSaying a.E_InvalidWorld a.E_InvalidSaying false true false := ⟨⟨_, _, T.e_InvalidSaying⟩, T.xm_InvalidSaying, T.kt_InvalidSaying_InvalidFacts, T.kt_InvalidSaying_InvalidSaying, T.kt_InvalidSaying_InvalidWorld⟩
  have k3 : Kinds K mg a.E_BookError a.E_InvalidFacts a.E_InvalidSaying a.E_InvalidWorld a.E_InvalidWorld false false true := ⟨⟨_, _, T.e_InvalidWorld⟩, T.xm_InvalidWorld, T.kt_InvalidWorld_InvalidFacts, T.kt_InvalidWorld_InvalidSaying, T.kt_InvalidWorld_InvalidWorld⟩
  obtain ⟨way, x, y, rfl, h⟩ := h
  walk_at "rd"
  refine ⟨way, x, y, rfl, rfl, rfl, ?_⟩
  rcases h with ⟨rfl, ⟨n, hx, hw⟩, q⟩ | ⟨rfl, hx, h⟩
  · rw [if_pos rfl]
    refine ⟨n, x, y, rfl, hx, hw, true, false, false, k1, ?_⟩
    refine .inl ⟨_, _, rfl, rfl, ?_⟩
    walk_at "rd"
    exact q _ rfl
  · rw [if_neg (by decide)]
    refine ⟨x, y, rfl, hx, ?_⟩
    rcases h with ⟨h1, q⟩ | ⟨n, hy, h1, h2, q⟩
    · refine .inl ⟨h1, false, true, false, k2, ?_⟩
      refine .inl ⟨_, _, rfl, rfl, ?_⟩
      walk_at "rd"
      exact q _ rfl
    · refine .inr ⟨n, hy, h1, h2, false, false, true, k3, ?_⟩
      refine .inl ⟨_, _, rfl, rfl, ?_⟩
      walk_at "rd"
      exact q _ rfl
end
end K02

set_option Elab.async false
set_option linter.all false
set_option maxRecDepth 100000
set_option maxHeartbeats 4000000
namespace K02
open PySem PySem.Spec L2 DL K04
local macro_rules | `(tactic| walk_at "rd") => `(tactic| simp only [startE_cons, startE_none, startE_nil, wipe_cons, wipe_nil, sSeq, sNext, sRet, sRetN, sRetV, sIf, sSet, sDrop, sPar, sAsg, sAug, sApp, sFor, sFrz, sNever, sSpoil, dTupO, dLcO, sRetMove2, sRaise, sHeard, wUpper, wMulS, wCatT0, dSlT, dLcMove, sCatO, sSpoilE, dSlT, dIfR, dDat, dFreeze, dVar, dC, dOp, dOpR, dUn, dUnR, dTest, dAnd, dOr, dNot, dAndV, dOrV, dNotV, dBool, dIf, dChain, dTup, dLst, dLstO, dNil, dCons, oCons, dCall, dCallKw, dIxC, dSlL, dPart, dNoPart, dCell, dIsiT, dBorrow, dLc, dYes, diSeq, diZip3, dListRg, diRange1, diRange2, diZip, diEnum, diRev, diStr, gdName, gdTup, gdCons, gdNil, gdSub, gdSubC, EVd_dat, EVd_own, EVd_deep, EV.mine, pick,
  wI0, wI, wIx_t0, wIx_t1, wIx_t2, wIx_q0, wIx_q1, wIx_l0, wIsi_int, wIsi_bl, wIsi_str, wIsi_non, wIsi_lst, wIsi_tup, wIsi_q, wLen_scr, wLen_lst, wLen_tup, wLen_q, wEq_int, wNe_int, wEq_bl, wNe_bl, wEq_q, wNe_q, wIsN, wNotN, isN_non, isN_bl, isN_int, isN_str, isN_lst, isN_tup, isN_dK, isN_q, isN_say, isT_non, isT_bl, isT_int, isT_str, isT_lst, isT_tup, isT_dK, isT_q, isT_say, wGcd, wNeg, wAbs, wInt, wAll, wSum, wS, wB, wInL, wNotInL, sIns, dRevL, wCatL, wCatT, wRepL, wBits, wIsi_dK, dGetV, dGet2V, dInV, sPut, dDc, diKeys, sLock, unl_nil, unl_none, unl_cons, unl_dat, unl_own, unl_deep, unl_lkd, unl_nn, wListVals, wDget, sPar3, dkAt, dDisp, dPairs, dKeysV, diKeysR, dIndex, sAppO, sPar2, sAsOwn, isWholeD, isCountD, isListD, wIx_fr0, wIx_fr1, wq_fact_fact, wq_fact_not, wq_fact_all, wq_fact_any, wq_fact_least, wq_not_fact, wq_not_not, wq_not_all, wq_not_any, wq_not_least, wq_all_fact, wq_all_not, wq_all_all, wq_all_any, wq_all_least, wq_any_fact, wq_any_not, wq_any_all, wq_any_any, wq_any_least, wq_least_fact, wq_least_not, wq_least_all, wq_least_any, wq_least_least, wList, wTuple,
  List.getElem?_cons_zero, List.getElem?_cons_succ, List.getElem?_nil, List.set_cons_zero, List.set_cons_succ, List.cons_append, List.nil_append, List.append_nil, List.length_cons, List.length_nil, List.filterMap_cons, List.filterMap_nil, List.map_cons, List.map_nil, Nat.zero_add, Nat.reduceAdd, D.tyn, Option.some.injEq, exists_eq_left', beq_self_eq_true, bq_tf, bq_ft, Int.zero_add, sz_0, sz_1, sz_2, sz_3, sz_4, sz_5, sz_6, Bool.not_true, Bool.not_false, if_true, if_false, Bool.false_eq_true, true_and, and_true, decide_true, decide_false, List.any_cons, List.any_nil, Bool.or_true, Bool.true_or, Bool.or_false, Bool.false_or, tk_int, tk_bool, tk_str, tk_list, tk_tuple, tk_dict, isi_NoneType_int, isi_NoneType_bool, isi_NoneType_str, isi_NoneType_list, isi_NoneType_tuple, isi_NoneType_dict, isi_int_int, isi_int_bool, isi_int_str, isi_int_list, isi_int_tuple, isi_int_dict, isi_bool_int, isi_bool_bool, isi_bool_str, isi_bool_list, isi_bool_tuple, isi_bool_dict, isi_str_int, isi_str_bool, isi_str_str, isi_str_list, isi_str_tuple, isi_str_dict, isi_list_int, isi_list_bool, isi_list_str, isi_list_list, isi_list_tuple, isi_list_dict, isi_tuple_int, isi_tuple_bool, isi_tuple_str, isi_tuple_list, isi_tuple_tuple, isi_tuple_dict, isi_dict_int, isi_dict_bool, isi_dict_str, isi_dict_list, isi_dict_tuple, isi_dict_dict])
section
variable {P : Program} {w : World} {K : Frag} {mg : Str → Option Value} {base : Heap} {a : Ad} {d : Fd}

def oddsD : List DL.D := [.non, .int 0, .int 5, .bl true, .str "a", .str "", .tup [], .lst [], .dK [] [], .tup [.int 1, .int 2, .int 3], .lst [.int 1, .int 2], .tup [.str "fact"], .tup [.str "fact", .int 5], .tup [.int 2, .int 4], .tup [.int 1, .int 0], .tup [.int 1, .int (-2)], .tup [.int 0, .int 2], .tup [.bl true, .int 1], .tup [.int 1, .bl true], .lst [.int 0, .int 1], .tup [.lst [], .int 1], .tup [.lst [.str "fact"], .str "a"], .tup [.dK [] [], .int 1]]
def phi__law_odds : Phi := fun ds st Q => ds = [] ∧ Q (.own (.lst oddsD)) st
theorem ok__law_odds (T : Tx K mg a d) : FnOk P w K mg base CX0 1 a._law_odds d._law_odds P__law_odds (spD K 0 phi__law_odds) := by
  have nd := sc__law_odds.nd
  refine def_ok T.f__law_odds sc__law_odds rfl fun cdv A outer s H E hr => ?_
  have hu := hr.units
  have hu5 := room65 hr
  refine ⟨_, (ss_one (s_ret (r_lst (a_cons d_non (a_cons d_int (a_cons d_int (a_cons d_bl (a_cons d_str (a_cons d_str (a_cons (d_tup a_nil) (a_cons (r_lst a_nil).dE (a_cons d_dict0 (a_cons (d_tup (a_cons d_int (a_cons d_int (a_cons d_int a_nil)))) (a_cons (r_lst (a_cons d_int (a_cons d_int a_nil))).dE (a_cons (d_tup (a_cons d_str a_nil)) (a_cons (d_tup (a_cons d_str (a_cons d_int a_nil))) (a_cons (d_tup (a_cons d_int (a_cons d_int a_nil))) (a_cons (d_tup (a_cons d_int (a_cons d_int a_nil))) (a_cons (d_tup (a_cons d_int (a_cons (d_neg d_int) a_nil))) (a_cons (d_tup (a_cons d_int (a_cons d_int a_nil))) (a_cons (d_tup (a_cons d_bl (a_cons d_int a_nil))) (a_cons (d_tup (a_cons d_int (a_cons d_bl a_nil))) (a_cons (r_lst (a_cons d_int (a_cons d_int a_nil))).dE (a_cons (d_tup (a_cons (r_lst a_nil).dE (a_cons d_int a_nil))) (a_cons (d_tup (a_cons (r_lst (a_cons d_str a_nil)).dE (a_cons d_str a_nil))) (a_cons (d_tup (a_cons d_dict0 (a_cons d_int a_nil))) a_nil)))))))))))))))))))))))))), fun ds st Q hl h => ?_⟩
  obtain ⟨rfl, q⟩ := h
  walk_at "rd"
  exact ⟨by show 23 ≤ sizeLine; decide, q⟩
def tags5 : List Str := ["fact", "not", "all", "any", "least"]
theorem say_tup {facts : List Str} {n : Nat} {s : Say} (h : okY facts n s = true) : ∃ (t : Str) (r : List DL.D), sayD s = .tup (.str t :: r) ∧ t ∈ tags5 ∧ r ≠ [] ∧ r.length ≤ 2 ∧ ∀ x ∈ r, okV (2 * n) x = true := by
  have hv := okV_say h
  have key : ∀ (t : Str) (r : List DL.D), sayD s = .tup (.str t :: r) → ∀ x ∈ r, okV (2 * n) x = true := fun t r e x hx => by
    rw [e] at hv
    rcases okV_cases hv with h1 | ⟨b, h1⟩ | ⟨i, h1, hi⟩ | ⟨z, h1, hw, hl'⟩ | h1 | ⟨m, ds, e', h1, hl', hds⟩ | ⟨m, ds, e', h1, hl', hds⟩ <;> cases h1
    have := hds x (List.mem_cons_of_mem _ hx)
    rwa [show m = 2 * n by omega] at this
  rcases okY_cases h with ⟨w, rfl, hw, hi⟩ | ⟨k, e, ⟨t, rfl, ht⟩ | ⟨l, rfl, hl, hls⟩ | ⟨l, rfl, hl, hls⟩ | ⟨k, l, rfl, hk, hl, hls⟩⟩
  · have e : sayD (.fact w) = .tup (.str "fact" :: [.str w]) := by simp only [sayD]
    exact ⟨_, _, e, by simp [tags5], by simp, by simp, key _ _ e⟩
  · have e : sayD (.neg t) = .tup (.str "not" :: [sayD t]) := by simp only [sayD]
    exact ⟨_, _, e, by simp [tags5], by simp, by simp, key _ _ e⟩
  · have e : sayD (.all l) = .tup (.str "all" :: [.lst (sayDs l)]) := by simp only [sayD]
    exact ⟨_, _, e, by simp [tags5], by simp, by simp, key _ _ e⟩
  · have e : sayD (.any l) = .tup (.str "any" :: [.lst (sayDs l)]) := by simp only [sayD]
    exact ⟨_, _, e, by simp [tags5], by simp, by simp, key _ _ e⟩
  · have e : sayD (.least k l) = .tup (.str "least" :: [.int (k : Nat), .lst (sayDs l)]) := by simp only [sayD]
    exact ⟨_, _, e, by simp [tags5], by simp, by simp, key _ _ e⟩
theorem tags_up : ∀ t ∈ tags5, t.length ≤ 1000 ∧ PyData.strOk t = true ∧ (Txt.upper t).length ≤ 1000 ∧ PyData.strOk (Txt.upper t) = true := by decide +kernel
def bents9 : List DL.D := [.non, .int 5, .str "", .str "A", .bl true, .lst [.non], .lst [.lst []], .tup [], .int (-1)]
theorem bents9_ok : ∀ x ∈ bents9, okV 2 x = true := by decide +kernel
def bents4 : List DL.D := [.non, .bl true, .int (-1), .str "1"]
theorem bents4_ok : ∀ x ∈ bents4, okV 2 x = true := by decide +kernel
def phi__law_bent : Phi := fun ds st Q => ∃ (c : Nat) (s : Say) (facts : List Str) (ns : List Int) (b : Nat), ds = [.cel c, sayD s] ∧ okY facts 5 s = true ∧ st[c]? = some ns ∧ Purse b ns ∧ b < 2 ^ 28 ∧ ∀ (ev : EV) (ns' : List Int), okV 11 ev.d = true → Purse (b + 2) ns' → Q ev (st.set c ns')
theorem ok__law_bent (T : Tx K mg a d) : FnOk P w K mg base CX0 10 a._law_bent d._law_bent P__law_bent (spD K 2 phi__law_bent) := by
  have nd := sc__law_bent.nd
  refine def_ok T.f__law_bent sc__law_bent rfl fun cdv A outer s H E hr => ?_
  have hu := hr.units
  have hu5 := room65 hr
  refine ⟨_, (ss_cons (s_set 2 nd ((r_call (ok__law_draw T) T.x__law_draw (hr.mono (by first | decide | omega)) (a_cons (dv 0) (a_cons d_int a_nil)))).dE.rE)
        (ss_cons (s_if (t_eq hu (dv 2) d_int) (ss_one (s_ret (r_list T.b_list (dv 1)))) ss_nil)
        (ss_cons (s_if (t_eq hu (dv 2) d_int) (ss_one (s_ret ((d_catT0 (dv 1) (d_tup (a_cons d_non a_nil)))).rE)) ss_nil)
        (ss_cons (s_if (t_eq hu (dv 2) d_int) (ss_one (s_ret ((d_catT0 (d_tup (a_cons (d_upper (d_ix (dv 1) d_int)) a_nil)) (d_slT (dv 1) (o_some d_int) o_none))).rE)) ss_nil)
        (ss_cons (s_if (t_eq hu (dv 2) d_int) (ss_one (s_ret ((d_catT0 (d_tup (a_cons (d_ix (dv 1) d_int) (a_cons (r_call (ok__law_one_of T) T.x__law_one_of (hr.mono (by first | decide | omega)) (a_cons (dv 0) (a_cons (r_lst (a_cons d_non (a_cons d_int (a_cons d_str (a_cons d_str (a_cons d_bl (a_cons (r_lst (a_cons d_non a_nil)).dE (a_cons (r_lst (a_cons (r_lst a_nil).dE a_nil)).dE (a_cons (d_tup a_nil) (a_cons (d_neg d_int) a_nil)))))))))).dE a_nil))).dE a_nil))) (d_slT (dv 1) (o_some d_int) o_none))).rE)) ss_nil)
        (ss_cons (s_if (t_eq hu (dv 2) d_int) (ss_one (s_ret ((d_slT (dv 1) o_none (o_some d_int))).rE)) ss_nil)
        (ss_one (s_ret ((d_tup (a_cons d_str (a_cons (r_call (ok__law_one_of T) T.x__law_one_of (hr.mono (by first | decide | omega)) (a_cons (dv 0) (a_cons (r_lst (a_cons d_non (a_cons d_bl (a_cons (d_neg d_int) (a_cons d_str a_nil))))).dE a_nil))).dE (a_cons (r_lst a_nil).dE a_nil))))).rE)))))))), fun ds st Q hl h => ?_⟩
  obtain ⟨c, s, facts, ns, b, rfl, hs, hn, hp, hb, q⟩ := h
  have hlt : c < st.length := (List.getElem?_eq_some_iff.mp hn).1
  obtain ⟨t, r, er, ht, hr0, hr2, hrV⟩ := say_tup hs
  rw [er]
  obtain ⟨u1, u2, u3, u4⟩ := tags_up t ht
  have okT : okV 10 (.str t) = true := okV_str u2 u1 _
  have okU : okV 10 (.str (Txt.upper t)) = true := okV_str u4 u3 _
  have tupV : ∀ xs : List DL.D, xs.length ≤ 10 → (∀ x ∈ xs, okV 10 x = true) → okV 11 (.tup xs) = true := fun xs h1 h2 => okV_tup (by omega) h2
  refine seq_hide fun R e => ?_
  walk_at "rd"
  refine ⟨c, 6, ns, b, rfl, ⟨by decide, by decide⟩, hn, hp, by omega, fun k ns1 hk0 hk1 hp1 => ?_⟩
  rw [e]
  clear e R
  have q1 : ∀ ev : EV, okV 11 ev.d = true → Q ev (st.set c ns1) := fun ev h => q ev ns1 h (hp1.mono (by omega))
  have q2 : ∀ (ev : EV) (ns2 : List Int), okV 11 ev.d = true → Purse (b + 1 + 1) ns2 → Q ev ((st.set c ns1).set c ns2) := fun ev ns2 h hp2 => by
    rw [List.set_set]
    exact q ev ns2 h hp2
  clear q
  refine seq_hide fun R e => ?_
  walk_at "rd"
  by_cases k0 : k = 0
  · subst k0
    walk_at "rd"
    exact q1 _ (okV_lst (by simp; omega) fun x hx => by
      rcases List.mem_cons.mp hx with rfl | hx
      · exact okT
      · exact hrV x hx)
  rw [decide_eq_false k0]
  walk_at "rd"
  rw [e]
  refine seq_hide fun R e => ?_
  walk_at "rd"
  by_cases k1 : k = 1
  · subst k1
    walk_at "rd"
    refine ⟨⟨by simp, size_small (by simp; omega)⟩, ?_⟩
    exact q1 _ (tupV _ (by simp; omega) fun x hx => by
      simp only [List.mem_cons, List.mem_append, List.not_mem_nil, or_false] at hx
      rcases hx with rfl | hx | rfl
      · exact okT
      · exact hrV x hx
      · rfl)
  rw [decide_eq_false k1]
  walk_at "rd"
  rw [e]
  refine seq_hide fun R e => ?_
  walk_at "rd"
  by_cases k2 : k = 2
  · subst k2
    walk_at "rd"
    have hc : cutD (.str t :: r) (some 1) none = r := by
      match r, hr0, hr2 with
      | [x], _, _ => rfl
      | [x, y], _, _ => rfl
    rw [hc]
    refine ⟨u1, ⟨by simp, size_small (by omega)⟩, ?_⟩
    exact q1 _ (tupV _ (by simp; omega) fun x hx => by
      rcases List.mem_cons.mp hx with rfl | hx
      · exact okU
      · exact hrV x hx)
  rw [decide_eq_false k2]
  walk_at "rd"
  rw [e]
  refine seq_hide fun R e => ?_
  walk_at "rd"
  by_cases k3 : k = 3
  · subst k3
    walk_at "rd"
    refine ⟨by show 9 ≤ sizeLine; decide, c, bents9, ns1, _, rfl, by simp [bents9], by decide, List.getElem?_set_self hlt, hp1, by omega, fun x ns2 hx hp2 => ?_⟩
    walk_at "rd"
    have hc : ∀ x ∈ cutD (.str t :: r) (some 2) none, okV 10 x = true := by
      match r, hr0, hr2, hrV with
      | [x], _, _, _ => exact fun z hz => absurd (show z ∈ [] from hz) (by simp)
      | [x, y], _, _, hrV => exact fun z hz => hrV z (List.mem_cons_of_mem _ hz)
    have hcl : (cutD (.str t :: r) (some 2) none).length ≤ 1 := by
      match r, hr0, hr2 with
      | [x], _, _ => exact Nat.zero_le _
      | [x, y], _, _ => exact Nat.le_refl _
    generalize cutD (.str t :: r) (some 2) none = z at hc hcl
    refine ⟨⟨by simp, size_small (by omega)⟩, ?_⟩
    refine q2 _ ns2 (tupV _ (by simp; omega) fun y hy => ?_) hp2
    simp only [List.mem_append, List.mem_cons, List.not_mem_nil, or_false] at hy
    rcases hy with rfl | rfl | hy
    · exact okT
    · exact okV_le (bents9_ok _ hx) (by decide)
    · exact hc y hy
  rw [decide_eq_false k3]
  walk_at "rd"
  rw [e]
  refine seq_hide fun R e => ?_
  walk_at "rd"
  by_cases k4 : k = 4
  · subst k4
    walk_at "rd"
    have hc : cutD (.str t :: r) none (some 1) = [.str t] := by
      match r, hr0, hr2 with
      | [x], _, _ => rfl
      | [x, y], _, _ => rfl
    rw [hc]
    exact q1 _ (tupV _ (by simp) fun x hx => by rw [List.mem_singleton.mp hx]; exact okT)
  rw [decide_eq_false k4]
  walk_at "rd"
  rw [e]
  walk_at "rd"
  refine ⟨c, bents4, ns1, _, rfl, by simp [bents4], by decide, List.getElem?_set_self hlt, hp1, by omega, fun x ns2 hx hp2 => ?_⟩
  walk_at "rd"
  refine q2 _ ns2 (tupV _ (by simp) fun y hy => ?_) hp2
  simp only [List.mem_cons, List.not_mem_nil, or_false] at hy
  rcases hy with rfl | rfl | rfl
  · exact okV_tag "least" (n := _)
  · exact okV_le (bents4_ok _ hx) (by decide)
  · rfl
end
end K02

set_option Elab.async false
set_option linter.all false
set_option maxRecDepth 100000
set_option maxHeartbeats 4000000
namespace K02
open PySem PySem.Spec L2 DL K04
local macro_rules | `(tactic| walk_at "rd") => `(tactic| simp only [startE_cons, startE_none, startE_nil, wipe_cons, wipe_nil, sSeq, sNext, sRet, sRetN, sRetV, sIf, sSet, sDrop, sPar, sAsg, sAug, sApp, sFor, sFrz, sNever, sSpoil, dTupO, dLcO, sRetMove2, sRaise, sHeard, wUpper, wMulS, wCatT0, dSlT, dLcMove, sCatO, sSpoilE, dSlT, dIfR, dDat, dFreeze, dVar, dC, dOp, dOpR, dUn, dUnR, dTest, dAnd, dOr, dNot, dAndV, dOrV, dNotV, dBool, dIf, dChain, dTup, dLst, dLstO, dNil, dCons, oCons, dCall, dCallKw, dIxC, dSlL, dPart, dNoPart, dCell, dIsiT, dBorrow, dLc, dYes, diSeq, diZip3, dListRg, diRange1, diRange2, diZip, diEnum, diRev, diStr, gdName, gdTup, gdCons, gdNil, gdSub, gdSubC, EVd_dat, EVd_own, EVd_deep, EV.mine, pick,
  wI0, wI, wIx_t0, wIx_t1, wIx_t2, wIx_q0, wIx_q1, wIx_l0, wIsi_int, wIsi_bl, wIsi_str, wIsi_non, wIsi_lst, wIsi_tup, wIsi_q, wLen_scr, wLen_lst, wLen_tup, wLen_q, wEq_int, wNe_int, wEq_bl, wNe_bl, wEq_q, wNe_q, wIsN, wNotN, isN_non, isN_bl, isN_int, isN_str, isN_lst, isN_tup, isN_dK, isN_q, isN_say, isT_non, isT_bl, isT_int, isT_str, isT_lst, isT_tup, isT_dK, isT_q, isT_say, wGcd, wNeg, wAbs, wInt, wAll, wSum, wS, wB, wInL, wNotInL, sIns, dRevL, wCatL, wCatT, wRepL, wBits, wIsi_dK, dGetV, dGet2V, dInV, sPut, dDc, diKeys, sLock, unl_nil, unl_none, unl_cons, unl_dat, unl_own, unl_deep, unl_lkd, unl_nn, wListVals, wDget, sPar3, dkAt, dDisp, dPairs, dKeysV, diKeysR, dIndex, sAppO, sPar2, sAsOwn, isWholeD, isCountD, isListD, wIx_fr0, wIx_fr1, wq_fact_fact, wq_fact_not, wq_fact_all, wq_fact_any, wq_fact_least, wq_not_fact, wq_not_not, wq_not_all, wq_not_any, wq_not_least, wq_all_fact, wq_all_not, wq_all_all, wq_all_any, wq_all_least, wq_any_fact, wq_any_not, wq_any_all, wq_any_any, wq_any_least, wq_least_fact, wq_least_not, wq_least_all, wq_least_any, wq_least_least, wList, wTuple,
  List.getElem?_cons_zero, List.getElem?_cons_succ, List.getElem?_nil, List.set_cons_zero, List.set_cons_succ, List.cons_append, List.nil_append, List.append_nil, List.length_cons, List.length_nil, List.filterMap_cons, List.filterMap_nil, List.map_cons, List.map_nil, Nat.zero_add, Nat.reduceAdd, D.tyn, Option.some.injEq, exists_eq_left', beq_self_eq_true, bq_tf, bq_ft, Int.zero_add, sz_0, sz_1, sz_2, sz_3, sz_4, sz_5, sz_6, Bool.not_true, Bool.not_false, if_true, if_false, Bool.false_eq_true, true_and, and_true, decide_true, decide_false, List.any_cons, List.any_nil, Bool.or_true, Bool.true_or, Bool.or_false, Bool.false_or, tk_int, tk_bool, tk_str, tk_list, tk_tuple, tk_dict, isi_NoneType_int, isi_NoneType_bool, isi_NoneType_str, isi_NoneType_list, isi_NoneType_tuple, isi_NoneType_dict, isi_int_int, isi_int_bool, isi_int_str, isi_int_list, isi_int_tuple, isi_int_dict, isi_bool_int, isi_bool_bool, isi_bool_str, isi_bool_list, isi_bool_tuple, isi_bool_dict, isi_str_int, isi_str_bool, isi_str_str, isi_str_list, isi_str_tuple, isi_str_dict, isi_list_int, isi_list_bool, isi_list_str, isi_list_list, isi_list_tuple, isi_list_dict, isi_tuple_int, isi_tuple_bool, isi_tuple_str, isi_tuple_list, isi_tuple_tuple, isi_tuple_dict, isi_dict_int, isi_dict_bool, isi_dict_str, isi_dict_list, isi_dict_tuple, isi_dict_dict])
section
variable {P : Program} {w : World} {K : Frag} {mg : Str → Option Value} {base : Heap} {a : Ad} {d : Fd}

theorem said_short {t u : Str} : saidD (.tup [.str t]) u 2 = false := by simp [saidD]
theorem say_no {facts : Option (List Str)} {n : Nat} {d : DL.D} (h1 : saidD d "fact" 2 = false) (h2 : saidD d "not" 2 = false) (h3 : saidD d "all" 2 = false) (h4 : saidD d "any" 2 = false) (h5 : saidD d "least" 3 = false) : isSay facts (n + 1) d = false := by
  rw [isSay, h1, h2, h3, h4, h5]
  simp
theorem say_nontup {facts : Option (List Str)} {n : Nat} {d : DL.D} (h : ∀ (t : Str) (r : List DL.D), d ≠ .tup (.str t :: r)) : isSay facts (n + 1) d = false := by
  have key : ∀ (t : Str) (k : Int), saidD d t k = false := fun t k => by
    unfold saidD
    split
    · rename_i w r
      exact absurd rfl (h w r)
    · rfl
  exact say_no (key _ _) (key _ _) (key _ _) (key _ _) (key _ _)
theorem said_len {t u : Str} {r : List DL.D} {k : Int} (h : ((r.length + 1 : Nat) : Int) ≠ k) : saidD (.tup (.str t :: r)) u k = false := by rw [said_tag, decide_eq_false h, Bool.false_and]
theorem said_tag_ne {t u : Str} {r : List DL.D} {k : Int} (h : t ≠ u) : saidD (.tup (.str t :: r)) u k = false := by rw [said_tag, decide_eq_false h, Bool.and_false]
theorem said_yes {t : Str} {r : List DL.D} {k : Int} (h : ((r.length + 1 : Nat) : Int) = k) : saidD (.tup (.str t :: r)) t k = true := by rw [said_tag, decide_eq_true h, decide_eq_true rfl]; rfl
def phi__law_rightN : Nat → Phi
  | 0 => fun _ _ _ => False
  | n + 1 => fun ds st Q => ∃ (facts : List Str) (d : DL.D), ds = [strsD facts, d] ∧ (∀ w ∈ facts, wordOk w = true) ∧ okV n d = true ∧ Q (.dat (.bl (isSay (some facts) (n + 1) d))) st
theorem ok__law_right (T : Tx K mg a d) : ∀ n, FnOk P w K mg base CX0 n a._law_right d._law_right P__law_right (spD K 2 (phi__law_rightN n)) := by
  intro n
  induction n with
  | zero => exact fnok_false
  | succ n IH__law_right =>
  have nd := sc__law_right.nd
  refine def_ok T.f__law_right sc__law_right rfl fun cdv A outer s H E hr => ?_
  have hu := hr.units
  have hu5 := room65 hr
  refine ⟨_, (ss_cons (s_if (w_or (t_not (t_val (d_isi T.b_isinstance (dv 1) (d_type T.b_tuple boot_tuple)))) (w_or (t_lt (d_len T.b_len (dv 1)) d_int) (w_or1 (t_not (t_val (d_isi T.b_isinstance (d_ix (dv 1) d_int) (d_type T.b_str boot_str))))))).t (ss_one (s_ret (d_bl).rE)) ss_nil)
        (ss_cons (s_if (t_eq hu (d_ix (dv 1) d_int) d_str) (ss_one (s_ret ((d_and (d_eq hu (d_len T.b_len (dv 1)) d_int) (d_and (d_isi T.b_isinstance (d_ix (dv 1) d_int) (d_type T.b_str boot_str)) (d_one (d_in hu5 (d_ix (dv 1) d_int) (dv 0)))))).rE)) ss_nil)
        (ss_cons (s_if (t_eq hu (d_ix (dv 1) d_int) d_str) (ss_one (s_ret ((d_and (d_eq hu (d_len T.b_len (dv 1)) d_int) (d_one (r_call IH__law_right T.x__law_right hr (a_cons (dv 0) (a_cons (d_ix (dv 1) d_int) a_nil))).dE))).rE)) ss_nil)
        (ss_cons (s_if (t_eq hu (d_ix (dv 1) d_int) d_str) (ss_cons (s_set 2 nd ((d_and (d_eq hu (d_len T.b_len (dv 1)) d_int) (d_and (d_isi T.b_isinstance (d_ix (dv 1) d_int) (d_type T.b_int boot_int)) (d_and (d_not (d_isi T.b_isinstance (d_ix (dv 1) d_int) (d_type T.b_bool boot_bool))) (d_one (d_ge (d_ix (dv 1) d_int) d_int)))))).rE)
        (ss_one (s_ret ((d_and (dv 2) (d_and (d_isi T.b_isinstance (d_ix (dv 1) d_int) (d_type T.b_list boot_list)) (d_one (d_all T.b_all (r_lc (i := 3) [("late", 3)] nd (i_seq (d_ix (dv 1) d_int)) (fun _ _ _ _ _ => pg_name (i := 3) nd rfl (by first | exact Or.inl rfl | exact Or.inr rfl)) (fun _ _ _ _ _ => (r_call IH__law_right T.x__law_right hr (a_cons (dv 0) (a_cons (dv 3) a_nil))).dE) (blkOk_by (N := N__law_right) (sc := defScope s__law_right) (by decide +kernel)) (by decide)).dE))))).rE))) ss_nil)
        (ss_one (s_ret ((d_and (d_in hu5 (d_ix (dv 1) d_int) (r_lst (a_cons d_str (a_cons d_str a_nil))).dE) (d_and (d_eq hu (d_len T.b_len (dv 1)) d_int) (d_and (d_isi T.b_isinstance (d_ix (dv 1) d_int) (d_type T.b_list boot_list)) (d_one (d_all T.b_all (r_lc (i := 3) [("late", 3)] nd (i_seq (d_ix (dv 1) d_int)) (fun _ _ _ _ _ => pg_name (i := 3) nd rfl (by first | exact Or.inl rfl | exact Or.inr rfl)) (fun _ _ _ _ _ => (r_call IH__law_right T.x__law_right hr (a_cons (dv 0) (a_cons (dv 3) a_nil))).dE) (blkOk_by (N := N__law_right) (sc := defScope s__law_right) (by decide +kernel)) (by decide)).dE)))))).rE)))))), fun ds st Q hl h => ?_⟩
  obtain ⟨facts, v, rfl, hf, hv, q⟩ := h
  have hstr : ∀ w ∈ facts, PyData.strOk w = true := fun w hw => wordOk_str (hf w hw)
  rcases okV_cases hv with rfl | ⟨b, rfl⟩ | ⟨i, rfl, hi⟩ | ⟨z, rfl, hw, hl'⟩ | rfl | ⟨m, ds, e', rfl, hl', hds⟩ | ⟨m, ds, e', rfl, hl', hds⟩
  case inr.inr.inr.inr.inr.inr =>
    subst e'
    match ds, hl', hds with
    | [], _, _ =>
      rw [say_nontup (by simp)] at q
      walk_at "rd"
      exact q
    | [x], _, _ =>
      have : isSay (some facts) (m + 1 + 1) (.tup [x]) = false := by
        by_cases hx : ∃ t, x = .str t
        · obtain ⟨t, rfl⟩ := hx
          exact say_no said_short said_short said_short said_short (said_len (by simp))
        · exact say_nontup fun t r e => hx ⟨t, by cases e; rfl⟩
      rw [this] at q
      walk_at "rd"
      exact q
    | x :: y :: r, hl', hds =>
      rw [List.length_cons, List.length_cons] at hl'
      have hlen : ¬ (((r.length + 1 + 1 : Nat) : Int) < 2) := by omega
      refine seq_hide fun R e => ?_
      walk_at "rd"
      rw [decide_eq_false hlen]
      rw [if_neg Bool.false_ne_true]
      rcases okV_cases (hds x List.mem_cons_self) with rfl | ⟨b, rfl⟩ | ⟨i, rfl, hi⟩ | ⟨t, rfl, ht, hl2⟩ | rfl | ⟨m2, ds2, e2, rfl, hl2, hds2⟩ | ⟨m2, ds2, e2, rfl, hl2, hds2⟩
      case inr.inr.inr.inl =>
        have hy := hds y (by simp)
        walk_at "rd"
        rw [e]
        refine seq_hide fun R e => ?_
        walk_at "rd"
        rw [wEq_str ht (by decide +kernel)]
        walk_at "rd"
        by_cases t1 : t = "fact"
        · subst t1
          rw [decide_eq_true rfl]
          by_cases hr : r = []
          · subst hr
            have hq : isSay (some facts) (m + 1 + 1) (.tup [.str "fact", y]) = (isWordD y && inF (some facts) y) := by rw [isSay, if_pos (show saidD (.tup [.str "fact", y]) "fact" 2 = true from said_yes rfl)]; rfl
            rw [hq] at q
            walk_at "rd"
            rw [decide_eq_true (show ((2 : Nat) : Int) = 2 from rfl)]
            rcases okV_cases hy with rfl | ⟨b, rfl⟩ | ⟨i, rfl, hi⟩ | ⟨z, rfl, hz, hl2⟩ | rfl | ⟨m2, ds2, e2, rfl, hl2, hds2⟩ | ⟨m2, ds2, e2, rfl, hl2, hds2⟩
            case inr.inr.inr.inl =>
              simp only [strsD]
              walk_at "rd"
              refine ⟨⟨by simp only [D.py]; exact hz, pys_strs hstr⟩, ?_⟩
              rw [any_str]
              have : (isWordD (.str z) && inF (some facts) (.str z)) = decide (z ∈ facts) := by
                simp only [isWordD, inF]
                by_cases hzf : z ∈ facts
                · rw [hf z hzf, decide_eq_true hzf]; rfl
                · rw [decide_eq_false hzf, Bool.and_false]
              rw [this] at q
              exact q
            all_goals (walk_at "rd"; exact q)
          · have hr1 : 1 ≤ r.length := List.length_pos_iff.mpr hr
            have hno : isSay (some facts) (m + 1 + 1) (.tup (.str "fact" :: y :: r)) = false := say_no (said_len (by simp only [List.length_cons]; omega)) (said_tag_ne (by decide)) (said_tag_ne (by decide)) (said_tag_ne (by decide)) (said_tag_ne (by decide))
            rw [hno] at q
            walk_at "rd"
            rw [decide_eq_false (show ¬ ((r.length + 1 + 1 : Nat) : Int) = 2 by omega)]
            walk_at "rd"
            exact q
        rw [decide_eq_false t1]
        walk_at "rd"
        rw [e]
        refine seq_hide fun R e => ?_
        walk_at "rd"
        rw [wEq_str ht (by decide +kernel)]
        walk_at "rd"
        by_cases t2 : t = "not"
        · subst t2
          rw [decide_eq_true rfl]
          by_cases hr : r = []
          · subst hr
            have hq : isSay (some facts) (m + 1 + 1) (.tup [.str "not", y]) = isSay (some facts) (m + 1) y := by rw [isSay, if_neg (by rw [said_tag_ne (by decide)]; simp), if_pos (show saidD (.tup [.str "not", y]) "not" 2 = true from said_yes rfl)]; rfl
            rw [hq] at q
            walk_at "rd"
            rw [decide_eq_true (show ((2 : Nat) : Int) = 2 from rfl)]
            exact ⟨facts, y, rfl, hf, hy, q⟩
          · have hr1 : 1 ≤ r.length := List.length_pos_iff.mpr hr
            have hno : isSay (some facts) (m + 1 + 1) (.tup (.str "not" :: y :: r)) = false := say_no (said_tag_ne (by decide)) (said_len (by simp only [List.length_cons]; omega)) (said_tag_ne (by decide)) (said_tag_ne (by decide)) (said_tag_ne (by decide))
            rw [hno] at q
            walk_at "rd"
            rw [decide_eq_false (show ¬ ((r.length + 1 + 1 : Nat) : Int) = 2 by omega)]
            walk_at "rd"
            exact q
        rw [decide_eq_false t2]
        walk_at "rd"
        rw [e]
        refine seq_hide fun R e => ?_
        walk_at "rd"
        rw [wEq_str ht (by decide +kernel)]
        walk_at "rd"
        by_cases t3 : t = "least"
        · subst t3
          rw [decide_eq_true rfl]
          by_cases hr : r.length = 1
          · obtain ⟨z, rfl⟩ : ∃ z, r = [z] := by
              match r, hr with
              | [z], _ => exact ⟨z, rfl⟩
            have hz := hds z (by simp)
            have hq : isSay (some facts) (m + 1 + 1) (.tup [.str "least", y, z]) = (isCountD y 0 && (isListD z && (D.items' z).all (isSay (some facts) (m + 1)))) := by
              rw [isSay, if_neg (by rw [said_tag_ne (by decide)]; simp), if_neg (by rw [said_tag_ne (by decide)]; simp), if_neg (by rw [said_tag_ne (by decide), said_tag_ne (by decide)]; simp)]
              have hs : saidD (.tup [.str "least", y, z]) "least" 3 = true := said_yes rfl
              cases hc : isCountD y 0
              · rw [if_neg (by simp [D.at', hc]), Bool.false_and]
              · rw [if_pos ⟨hs, by simpa [D.at'] using hc⟩, Bool.true_and]; rfl
            rw [hq] at q
            walk_at "rd"
            rw [decide_eq_true (show ((3 : Nat) : Int) = 3 from rfl)]
            rcases okV_cases hy with rfl | ⟨b, rfl⟩ | ⟨i, rfl, hi⟩ | ⟨u, rfl, hu', hl2⟩ | rfl | ⟨m2, ds2, e2, rfl, hl2, hds2⟩ | ⟨m2, ds2, e2, rfl, hl2, hds2⟩
            case inr.inr.inl =>
              have hc : isCountD (.int i) 0 = decide (0 ≤ i) := by simp [isCountD]
              rw [hc] at q
              walk_at "rd"
              cases hc0 : decide (0 ≤ i)
              · rw [hc0, Bool.false_and] at q
                walk_at "rd"
                exact q
              rw [hc0, Bool.true_and] at q
              walk_at "rd"
              rcases okV_cases hz with rfl | ⟨b, rfl⟩ | ⟨i, rfl, hi⟩ | ⟨z, rfl, hz, hl2⟩ | rfl | ⟨m2, ds2, e2, rfl, hl2, hds2⟩ | ⟨m2, ds2, e2, rfl, hl2, hds2⟩
              case inr.inr.inr.inr.inr.inl =>
                subst e2
                walk_at "rd"
                refine dComp_map (fun t => .bl (isSay (some facts) (m2 + 1 + 1) t)) ds2 _ (fun t ht Q1 hq => ?_) (size_small (by rw [List.length_nil, Nat.zero_add]; omega)) ?_
                · walk_at "rd"
                  exact ⟨facts, t, rfl, hf, okV_mono (hds2 t ht), hq⟩
                · refine ⟨ds2.map fun t => isSay (some facts) (m2 + 1 + 1) t, by simp, ?_⟩
                  rw [List.all_map]
                  exact q
              all_goals (walk_at "rd"; exact q)
            all_goals
              walk_at "rd"
              exact q
          · have hno : isSay (some facts) (m + 1 + 1) (.tup (.str "least" :: y :: r)) = false := say_no (said_tag_ne (by decide)) (said_tag_ne (by decide)) (said_tag_ne (by decide)) (said_tag_ne (by decide)) (said_len (by simp only [List.length_cons]; omega))
            rw [hno] at q
            walk_at "rd"
            rw [decide_eq_false (show ¬ ((r.length + 1 + 1 : Nat) : Int) = 3 by omega)]
            walk_at "rd"
            exact q
        rw [decide_eq_false t3]
        walk_at "rd"
        rw [e]
        walk_at "rd"
        refine ⟨⟨by simp only [D.py]; exact ht, by decide +kernel⟩, ?_⟩
        have ht2 : ((DL.D.str "all").eqv (.str t) || (DL.D.str "any").eqv (.str t)) = decide (t = "all" ∨ t = "any") := by
          have := any_str t ["all", "any"]
          simp only [List.map_cons, List.map_nil, List.any_cons, List.any_nil, Bool.or_false, List.mem_cons, List.not_mem_nil, or_false] at this
          exact this
        rw [ht2]
        by_cases ta : t = "all" ∨ t = "any"
        case neg =>
          have hno : isSay (some facts) (m + 1 + 1) (.tup (.str t :: y :: r)) = false := say_no (said_tag_ne t1) (said_tag_ne t2) (said_tag_ne fun z => ta (.inl z)) (said_tag_ne fun z => ta (.inr z)) (said_tag_ne t3)
          rw [hno] at q
          rw [decide_eq_false ta]
          exact q
        rw [decide_eq_true ta]
        by_cases hr : r = []
        case neg =>
          have hr1 : 1 ≤ r.length := List.length_pos_iff.mpr hr
          have hno : isSay (some facts) (m + 1 + 1) (.tup (.str t :: y :: r)) = false := say_no (said_tag_ne t1) (said_tag_ne t2) (said_len (by simp only [List.length_cons]; omega)) (said_len (by simp only [List.length_cons]; omega)) (said_tag_ne t3)
          rw [hno] at q
          rw [decide_eq_false (show ¬ ((r.length + 1 + 1 : Nat) : Int) = 2 by omega)]
          exact q
        subst hr
        have hq : isSay (some facts) (m + 1 + 1) (.tup [.str t, y]) = (isListD y && (D.items' y).all (isSay (some facts) (m + 1))) := by
          rw [isSay, if_neg (by rw [said_tag_ne t1]; simp), if_neg (by rw [said_tag_ne t2]; simp), if_pos (by
            rcases ta with rfl | rfl
            · exact .inl (said_yes rfl)
            · exact .inr (said_yes rfl))]
          rfl
        rw [hq] at q
        rw [decide_eq_true (show (((([] : List DL.D).length + 1 + 1 : Nat) : Int) = 2) from rfl)]
        rcases okV_cases hy with rfl | ⟨b, rfl⟩ | ⟨i, rfl, hi⟩ | ⟨z, rfl, hz, hl2⟩ | rfl | ⟨m2, ds2, e2, rfl, hl2, hds2⟩ | ⟨m2, ds2, e2, rfl, hl2, hds2⟩
        case inr.inr.inr.inr.inr.inl =>
          subst e2
          walk_at "rd"
          refine dComp_map (fun t => .bl (isSay (some facts) (m2 + 1 + 1) t)) ds2 _ (fun t ht Q1 hq => ?_) (size_small (by rw [List.length_nil, Nat.zero_add]; omega)) ?_
          · walk_at "rd"
            exact ⟨facts, t, rfl, hf, okV_mono (hds2 t ht), hq⟩
          · refine ⟨ds2.map fun t => isSay (some facts) (m2 + 1 + 1) t, by simp, ?_⟩
            rw [List.all_map]
            exact q
        all_goals (walk_at "rd"; exact q)
      all_goals
        rw [say_nontup (by intro t r' e; cases e)] at q
        walk_at "rd"
        exact q
  all_goals
    rw [say_nontup (by intro t r e; cases e)] at q
    walk_at "rd"
    exact q
end
end K02

set_option Elab.async false
set_option linter.all false
set_option maxRecDepth 100000
set_option maxHeartbeats 4000000
namespace K02
open PySem PySem.Spec L2 DL K04
local macro_rules | `(tactic| walk_at "rd") => `(tactic| simp only [startE_cons, startE_none, startE_nil, wipe_cons, wipe_nil, sSeq, sNext, sRet, sRetN, sRetV, sIf, sSet, sDrop, sPar, sAsg, sAug, sApp, sFor, sFrz, sNever, sSpoil, dTupO, dLcO, sRetMove2, sRaise, sHeard, wUpper, wMulS, wCatT0, dSlT, dLcMove, sCatO, sSpoilE, dSlT, dIfR, dDat, dFreeze, dVar, dC, dOp, dOpR, dUn, dUnR, dTest, dAnd, dOr, dNot, dAndV, dOrV, dNotV, dBool, dIf, dChain, dTup, dLst, dLstO, dNil, dCons, oCons, dCall, dCallKw, dIxC, dSlL, dPart, dNoPart, dCell, dIsiT, dBorrow, dLc, dYes, diSeq, diZip3, dListRg, diRange1, diRange2, diZip, diEnum, diRev, diStr, gdName, gdTup, gdCons, gdNil, gdSub, gdSubC, EVd_dat, EVd_own, EVd_deep, EV.mine, pick,
  wI0, wI, wIx_t0, wIx_t1, wIx_t2, wIx_q0, wIx_q1, wIx_l0, wIsi_int, wIsi_bl, wIsi_str, wIsi_non, wIsi_lst, wIsi_tup, wIsi_q, wLen_scr, wLen_lst, wLen_tup, wLen_q, wEq_int, wNe_int, wEq_bl, wNe_bl, wEq_q, wNe_q, wIsN, wNotN, isN_non, isN_bl, isN_int, isN_str, isN_lst, isN_tup, isN_dK, isN_q, isN_say, isT_non, isT_bl, isT_int, isT_str, isT_lst, isT_tup, isT_dK, isT_q, isT_say, wGcd, wNeg, wAbs, wInt, wAll, wSum, wS, wB, wInL, wNotInL, sIns, dRevL, wCatL, wCatT, wRepL, wBits, wIsi_dK, dGetV, dGet2V, dInV, sPut, dDc, diKeys, sLock, unl_nil, unl_none, unl_cons, unl_dat, unl_own, unl_deep, unl_lkd, unl_nn, wListVals, wDget, sPar3, dkAt, dDisp, dPairs, dKeysV, diKeysR, dIndex, sAppO, sPar2, sAsOwn, isWholeD, isCountD, isListD, wIx_fr0, wIx_fr1, wq_fact_fact, wq_fact_not, wq_fact_all, wq_fact_any, wq_fact_least, wq_not_fact, wq_not_not, wq_not_all, wq_not_any, wq_not_least, wq_all_fact, wq_all_not, wq_all_all, wq_all_any, wq_all_least, wq_any_fact, wq_any_not, wq_any_all, wq_any_any, wq_any_least, wq_least_fact, wq_least_not, wq_least_all, wq_least_any, wq_least_least, wList, wTuple,
  List.getElem?_cons_zero, List.getElem?_cons_succ, List.getElem?_nil, List.set_cons_zero, List.set_cons_succ, List.cons_append, List.nil_append, List.append_nil, List.length_cons, List.length_nil, List.filterMap_cons, List.filterMap_nil, List.map_cons, List.map_nil, Nat.zero_add, Nat.reduceAdd, D.tyn, Option.some.injEq, exists_eq_left', beq_self_eq_true, bq_tf, bq_ft, Int.zero_add, sz_0, sz_1, sz_2, sz_3, sz_4, sz_5, sz_6, Bool.not_true, Bool.not_false, if_true, if_false, Bool.false_eq_true, true_and, and_true, decide_true, decide_false, List.any_cons, List.any_nil, Bool.or_true, Bool.true_or, Bool.or_false, Bool.false_or, tk_int, tk_bool, tk_str, tk_list, tk_tuple, tk_dict, isi_NoneType_int, isi_NoneType_bool, isi_NoneType_str, isi_NoneType_list, isi_NoneType_tuple, isi_NoneType_dict, isi_int_int, isi_int_bool, isi_int_str, isi_int_list, isi_int_tuple, isi_int_dict, isi_bool_int, isi_bool_bool, isi_bool_str, isi_bool_list, isi_bool_tuple, isi_bool_dict, isi_str_int, isi_str_bool, isi_str_str, isi_str_list, isi_str_tuple, isi_str_dict, isi_list_int, isi_list_bool, isi_list_str, isi_list_list, isi_list_tuple, isi_list_dict, isi_tuple_int, isi_tuple_bool, isi_tuple_str, isi_tuple_list, isi_tuple_tuple, isi_tuple_dict, isi_dict_int, isi_dict_bool, isi_dict_str, isi_dict_list, isi_dict_tuple, isi_dict_dict])
section
variable {P : Program} {w : World} {K : Frag} {mg : Str → Option Value} {base : Heap} {a : Ad} {d : Fd}

theorem cut_take {α : Type} (xs : List α) {r : Int} (h : 0 ≤ r) : cutD xs none (some r) = xs.take r.toNat := by
  unfold cutD
  have e0 : HT.sIx xs.length 0 none = 0 := rfl
  have e1 : HT.sIx xs.length xs.length (some r) = min r.toNat xs.length := by
    show (if r < 0 then _ else min r.toNat xs.length) = _
    rw [if_neg (by omega)]
  rw [e0, e1]
  simp
def words5 : List Str := ["a", "ab", "dry", "rain", "z"]
theorem words5_ok : (∀ w ∈ words5, wordOk w = true) ∧ words5.Nodup := by decide +kernel
def more2 : List Str := ["strange", "b"]
theorem more2_ok : (∀ w ∈ more2, wordOk w = true ∧ w ∉ words5) ∧ more2.Nodup := by decide +kernel
/-- what some of the words, sorted, are -/
theorem some_sorted {ys zs : List Str} (hp : zs.Perm ys) (hn : ys.Nodup) (hw : ∀ w ∈ ys, wordOk w = true) (k : Nat) : wordsOk ((zs.take k).mergeSort fun a b => !ltS b a) ∧ ((zs.take k).mergeSort fun a b => !ltS b a).length ≤ k ∧ ∀ w ∈ (zs.take k).mergeSort (fun a b => !ltS b a), w ∈ ys := by
  have hm : ∀ w ∈ (zs.take k).mergeSort (fun a b => !ltS b a), w ∈ ys := fun w h => hp.mem_iff.mp (List.mem_of_mem_take (List.mem_mergeSort.mp h))
  refine ⟨⟨fun w h => hw w (hm w h), sort_asc ((List.take_sublist _ _).nodup (hp.nodup_iff.mpr hn))⟩, ?_, hm⟩
  rw [List.length_mergeSort, List.length_take]
  omega
def isNilD : DL.D → Bool
  | .lst [] => true
  | _ => false
theorem nil_of {d : DL.D} (h : isNilD d = true) : d = .lst [] := by
  unfold isNilD at h
  split at h
  · rfl
  · cases h
theorem odds_ok : ∀ d ∈ oddsD, okV 15 d = true ∧ isSay none 16 d = false ∧ D.py1 49 d = true ∧ (isNilD d = true ∨ areWordsD d = false) := by decide +kernel
theorem say_some {facts : List Str} {m : Nat} {d : DL.D} (h : isSay none m d = false) : isSay (some facts) m d = false := by
  cases hs : isSay (some facts) m d
  · rfl
  · rw [isSay_none facts m d hs] at h; cases h
theorem eq0_plain {d : DL.D} {b : Bool} {Qd : DL.D → Prop} (h1 : d.py 60 = true := by decide +kernel) (h2 : d.eqv (.lst []) = b := by decide +kernel) (h : Qd (.bl b)) : wEq0 d (.lst []) Qd := .inr (.inr ⟨⟨h1, by decide +kernel⟩, by rw [h2]; exact h⟩)
theorem odds_eq {d : DL.D} (h : d ∈ oddsD) {Qd : DL.D → Prop} (q : Qd (.bl (isNilD d))) : wEq0 d (.lst []) Qd := by
  simp only [oddsD, List.mem_cons, List.not_mem_nil, or_false] at h
  rcases h with rfl | rfl | rfl | rfl | rfl | rfl | rfl | rfl | rfl | rfl | rfl | rfl | rfl | rfl | rfl | rfl | rfl | rfl | rfl | rfl | rfl | rfl | rfl
  all_goals
    first
      | exact .inl ⟨rfl, rfl, q⟩
      | exact .inr (.inl ⟨_, rfl, rfl, q⟩)
      | exact eq0_plain (b := false) (h := q)
      | exact eq0_plain (b := true) (h := q)
theorem py_heard {d : DL.D} {b1 b2 b3 : Bool} (h : D.py1 49 d = true) : D.py1 50 (.lst [.lst [.bl b1, .bl b2, .bl b3], d]) = true := by simp [D.py1, h]
def odds13 : List DL.D := [.lst [.str "b", .str "a"], .lst [.str "a", .str "a"], .lst [.str "A"], .lst [.str (repS "a" 13)], .lst [.str ""], .lst [.str "a1"], .lst [.str "a b"], .lst [.str "a_b"], .lst [.str "a\n"], .lst [.lst [.str "a"]], .tup [.str "a"], .lst [.bl true], .lst [.str "a", .int 5]]
theorem odds13_ok : ∀ d ∈ odds13, okV 15 d = true ∧ D.py1 49 d = true ∧ areWordsD d = false := by decide +kernel
theorem cells_set {P : List Int → Prop} {st : Store} {c : Nat} {ns : List Int} (h : ∀ x ∈ st, P x) (hn : P ns) : ∀ x ∈ st.set c ns, P x := fun x hx => by
  rcases List.mem_or_eq_of_mem_set hx with h1 | rfl
  · exact h x h1
  · exact hn
end
end K02

set_option Elab.async false
set_option linter.all false
set_option maxRecDepth 100000
set_option maxHeartbeats 4000000
namespace K02
open PySem PySem.Spec L2 DL K04
local macro_rules | `(tactic| walk_at "rd") => `(tactic| simp only [startE_cons, startE_none, startE_nil, wipe_cons, wipe_nil, sSeq, sNext, sRet, sRetN, sRetV, sIf, sSet, sDrop, sPar, sAsg, sAug, sApp, sFor, sFrz, sNever, sSpoil, dTupO, dLcO, sRetMove2, sRaise, sHeard, wUpper, wMulS, wCatT0, dSlT, dLcMove, sCatO, sSpoilE, dSlT, dIfR, dDat, dFreeze, dVar, dC, dOp, dOpR, dUn, dUnR, dTest, dAnd, dOr, dNot, dAndV, dOrV, dNotV, dBool, dIf, dChain, dTup, dLst, dLstO, dNil, dCons, oCons, dCall, dCallKw, dIxC, dSlL, dPart, dNoPart, dCell, dIsiT, dBorrow, dLc, dYes, diSeq, diZip3, dListRg, diRange1, diRange2, diZip, diEnum, diRev, diStr, gdName, gdTup, gdCons, gdNil, gdSub, gdSubC, EVd_dat, EVd_own, EVd_deep, EV.mine, pick,
  wI0, wI, wIx_t0, wIx_t1, wIx_t2, wIx_q0, wIx_q1, wIx_l0, wIsi_int, wIsi_bl, wIsi_str, wIsi_non, wIsi_lst, wIsi_tup, wIsi_q, wLen_scr, wLen_lst, wLen_tup, wLen_q, wEq_int, wNe_int, wEq_bl, wNe_bl, wEq_q, wNe_q, wIsN, wNotN, isN_non, isN_bl, isN_int, isN_str, isN_lst, isN_tup, isN_dK, isN_q, isN_say, isT_non, isT_bl, isT_int, isT_str, isT_lst, isT_tup, isT_dK, isT_q, isT_say, wGcd, wNeg, wAbs, wInt, wAll, wSum, wS, wB, wInL, wNotInL, sIns, dRevL, wCatL, wCatT, wRepL, wBits, wIsi_dK, dGetV, dGet2V, dInV, sPut, dDc, diKeys, sLock, unl_nil, unl_none, unl_cons, unl_dat, unl_own, unl_deep, unl_lkd, unl_nn, wListVals, wDget, sPar3, dkAt, dDisp, dPairs, dKeysV, diKeysR, dIndex, sAppO, sPar2, sAsOwn, isWholeD, isCountD, isListD, wIx_fr0, wIx_fr1, wq_fact_fact, wq_fact_not, wq_fact_all, wq_fact_any, wq_fact_least, wq_not_fact, wq_not_not, wq_not_all, wq_not_any, wq_not_least, wq_all_fact, wq_all_not, wq_all_all, wq_all_any, wq_all_least, wq_any_fact, wq_any_not, wq_any_all, wq_any_any, wq_any_least, wq_least_fact, wq_least_not, wq_least_all, wq_least_any, wq_least_least, wList, wTuple,
  List.getElem?_cons_zero, List.getElem?_cons_succ, List.getElem?_nil, List.set_cons_zero, List.set_cons_succ, List.cons_append, List.nil_append, List.append_nil, List.length_cons, List.length_nil, List.filterMap_cons, List.filterMap_nil, List.map_cons, List.map_nil, Nat.zero_add, Nat.reduceAdd, D.tyn, Option.some.injEq, exists_eq_left', beq_self_eq_true, bq_tf, bq_ft, Int.zero_add, sz_0, sz_1, sz_2, sz_3, sz_4, sz_5, sz_6, Bool.not_true, Bool.not_false, if_true, if_false, Bool.false_eq_true, true_and, and_true, decide_true, decide_false, List.any_cons, List.any_nil, Bool.or_true, Bool.true_or, Bool.or_false, Bool.false_or, tk_int, tk_bool, tk_str, tk_list, tk_tuple, tk_dict, isi_NoneType_int, isi_NoneType_bool, isi_NoneType_str, isi_NoneType_list, isi_NoneType_tuple, isi_NoneType_dict, isi_int_int, isi_int_bool, isi_int_str, isi_int_list, isi_int_tuple, isi_int_dict, isi_bool_int, isi_bool_bool, isi_bool_str, isi_bool_list, isi_bool_tuple, isi_bool_dict, isi_str_int, isi_str_bool, isi_str_str, isi_str_list, isi_str_tuple, isi_str_dict, isi_list_int, isi_list_bool, isi_list_str, isi_list_list, isi_list_tuple, isi_list_dict, isi_tuple_int, isi_tuple_bool, isi_tuple_str, isi_tuple_list, isi_tuple_tuple, isi_tuple_dict, isi_dict_int, isi_dict_bool, isi_dict_str, isi_dict_list, isi_dict_tuple, isi_dict_dict])
section
variable {P : Program} {w : World} {K : Frag} {mg : Str → Option Value} {base : Heap} {a : Ad} {d : Fd}

abbrev phi_law : Phi := phiLaw
theorem ok_law (T : Tx K mg a d) : FnOk P w K mg base CX0 30 a.law d.law P_law (spD K 1 phi_law) := by
  have nd := sc_law.nd
  refine def_ok T.f_law sc_law rfl fun cdv A outer s H E hr => ?_
  have hu := hr.units
  have hu5 := room65 hr
  refine ⟨_, (ss_cons (s_for PassesOwn.never (i_seq (r_call (ok__law_purses T) T.x__law_purses (hr.mono (by first | decide | omega)) (a_cons (dv 0) (a_cons d_int a_nil))).dE) (g_name (i := 1) nd) (ss_cons (s_set 2 nd (r_sorted hu T.b_sorted (r_slL (r_call (ok__law_shuffled T) T.x__law_shuffled (hr.mono (by first | decide | omega)) (a_cons (dv 1) (a_cons (r_lst (a_cons d_str (a_cons d_str (a_cons d_str (a_cons d_str (a_cons d_str a_nil)))))).dE a_nil))).dE o_none (o_some (d_add d_int (r_call (ok__law_draw T) T.x__law_draw (hr.mono (by first | decide | omega)) (a_cons (dv 1) (a_cons d_int a_nil))).dE))).dE))
        (ss_cons (DS.frz 2 (s_set 3 nd ((r_call (ok__law_saying T 5) T.x__law_saying (hr.mono (by first | decide | omega)) (a_cons (dv 1) (a_cons (dv 2) (a_cons d_int a_nil))))).dE.rE))
        (ss_cons (s_setLc (i := 5) 4 [("spin", 5)] nd (i_range1 T.b_range d_int) (fun _ _ _ _ _ => pg_name (i := 5) nd rfl (by first | exact Or.inl rfl | exact Or.inr rfl)) (fun _ _ _ _ _ => (r_sorted hu T.b_sorted (r_slL (r_call (ok__law_shuffled T) T.x__law_shuffled (hr.mono (by first | decide | omega)) (a_cons (dv 1) (a_cons (r_catL (dv 2) (r_lst (a_cons d_str (a_cons d_str a_nil))).dE).dE a_nil))).dE o_none (o_some (r_call (ok__law_draw T) T.x__law_draw (hr.mono (by first | decide | omega)) (a_cons (dv 1) (a_cons d_int a_nil))).dE)).dE).dE) (blkOk_by (N := N_law) (sc := defScope s_law) (by decide +kernel)) (by decide))
        (ss_cons (s_if (w_or (t_notB (r_call (ok_is_saying T) T.x_is_saying (hr.mono (by first | decide | omega)) (a_cons (dv 2) (a_cons (dv 3) a_nil))).dE d_bl) (w_or (t_notB (r_callK0 (ok_is_saying T) T.x_is_saying (hr.mono (by first | decide | omega)) T.kw_is_saying_0 (k_cons (dv 3) (k_cons (dv 2) k_nil))).dE d_bl) (w_or1 (t_notB (r_call (ok_is_saying T) T.x_is_saying (hr.mono (by first | decide | omega)) (a_cons (r_lst a_nil).dE (a_cons (d_tup (a_cons d_str (a_cons d_str a_nil))) a_nil))).dE d_bl)))).t (ss_one (s_ret (d_bl).rE)) ss_nil)
        (ss_cons (DS.frz 4 (s_if (t_not (t_val (d_all T.b_all (r_lc (i := 9) [("world", 9)] nd (i_seq (dv 4)) (fun _ _ _ _ _ => pg_name (i := 9) nd rfl (by first | exact Or.inl rfl | exact Or.inr rfl)) (fun _ _ _ _ _ => (d_and (r_call (ok__law_same T 8) T.x__law_same (hr.mono (by first | decide | omega)) (a_cons (r_call (ok_is_so T) T.x_is_so (hr.mono (by first | decide | omega)) (a_cons (dv 3) (a_cons (dv 9) a_nil))).dE (a_cons (r_call (ok__law_holds T 8) T.x__law_holds (hr.mono (by first | decide | omega)) (a_cons (dv 3) (a_cons (dv 9) a_nil))).dE a_nil))).dE (d_one (r_call (ok__law_same T 8) T.x__law_same (hr.mono (by first | decide | omega)) (a_cons (r_callK0 (ok_is_so T) T.x_is_so (hr.mono (by first | decide | omega)) T.kw_is_so_0 (k_cons (dv 9) (k_cons (dv 3) k_nil))).dE (a_cons (r_call (ok__law_holds T 8) T.x__law_holds (hr.mono (by first | decide | omega)) (a_cons (dv 3) (a_cons (dv 9) a_nil))).dE a_nil))).dE))) (blkOk_by (N := N_law) (sc := defScope s_law) (by decide +kernel)) (by decide)).dE))) (ss_one (s_ret (d_bl).rE)) ss_nil))
        (ss_cons (s_for PassesOwn.never (i_range1 T.b_range d_int) (g_name (i := 5) nd) (ss_cons (s_set 6 nd ((r_call (ok__law_bent T) T.x__law_bent (hr.mono (by first | decide | omega)) (a_cons (dv 1) (a_cons (dv 3) a_nil)))).dE.rE)
        (ss_cons (s_set 7 nd ((d_tup (a_cons (r_call (ok__law_one_of T) T.x__law_one_of (hr.mono (by first | decide | omega)) (a_cons (dv 1) (a_cons (r_lst (a_cons d_str (a_cons d_str a_nil))).dE a_nil))).dE (a_cons (r_call (ok__law_shuffled T) T.x__law_shuffled (hr.mono (by first | decide | omega)) (a_cons (dv 1) (a_cons (r_lst (a_cons (dv 3) (a_cons (dv 6) (a_cons (dv 3) a_nil)))).dE a_nil))).dE a_nil)))).rE)
        (ss_one (s_if (t_not (t_val (r_call (ok__law_same T 8) T.x__law_same (hr.mono (by first | decide | omega)) (a_cons (r_lst (a_cons (r_call (ok_is_saying T) T.x_is_saying (hr.mono (by first | decide | omega)) (a_cons (dv 2) (a_cons (dv 6) a_nil))).dE (a_cons (r_call (ok_is_saying T) T.x_is_saying (hr.mono (by first | decide | omega)) (a_cons (dv 2) (a_cons (dv 7) a_nil))).dE a_nil))).dE (a_cons (r_lst (a_cons (r_call (ok__law_right T 16) T.x__law_right (hr.mono (by first | decide | omega)) (a_cons (dv 2) (a_cons (dv 6) a_nil))).dE (a_cons (r_call (ok__law_right T 16) T.x__law_right (hr.mono (by first | decide | omega)) (a_cons (dv 2) (a_cons (dv 7) a_nil))).dE a_nil))).dE a_nil))).dE)) (ss_one (s_ret (d_bl).rE)) ss_nil)))))
        (ss_cons (s_for PassesOwn.never (i_seq (r_call0 (ok__law_odds T) T.x__law_odds (hr.mono (by first | decide | omega))).dE) (g_name (i := 8) nd) (ss_cons (s_if (w_or (t_ne0 hu (r_call (ok__law_heard T) T.x__law_heard (hr.mono (by first | decide | omega)) (a_cons d_int (a_cons (dv 8) (a_cons (dv 8) a_nil)))).dE (r_lst (a_cons (r_lst (a_cons d_bl (a_cons d_bl (a_cons d_bl a_nil)))).dE (a_cons (dv 8) a_nil))).dE) (w_or1 (t_notB (r_call (ok_is_saying T) T.x_is_saying (hr.mono (by first | decide | omega)) (a_cons (dv 2) (a_cons (dv 8) a_nil))).dE d_bl))).t (ss_one (s_ret (d_bl).rE)) ss_nil)
        (ss_one (s_if (w_and (t_not (w_and (t_eq0 hu (dv 8) (r_lst a_nil).dE) (w_and1 (t_val (d_isi T.b_isinstance (dv 8) (d_type T.b_list boot_list))))).t) (w_and1 (w_or (t_ne0 hu (r_call (ok__law_heard T) T.x__law_heard (hr.mono (by first | decide | omega)) (a_cons d_int (a_cons (dv 8) (a_cons (dv 8) a_nil)))).dE (r_lst (a_cons (r_lst (a_cons d_bl (a_cons d_bl (a_cons d_bl a_nil)))).dE (a_cons (dv 8) a_nil))).dE) (w_or1 (t_ne0 hu (r_call (ok__law_heard T) T.x__law_heard (hr.mono (by first | decide | omega)) (a_cons d_int (a_cons (dv 3) (a_cons (dv 8) a_nil)))).dE (r_lst (a_cons (r_lst (a_cons d_bl (a_cons d_bl (a_cons d_bl a_nil)))).dE (a_cons (dv 8) a_nil))).dE))).t)).t (ss_one (s_ret (d_bl).rE)) ss_nil))))
        (ss_one (s_for PassesOwn.never (i_seq (r_lst (a_cons (r_lst (a_cons d_str (a_cons d_str a_nil))).dE (a_cons (r_lst (a_cons d_str (a_cons d_str a_nil))).dE (a_cons (r_lst (a_cons d_str a_nil)).dE (a_cons (r_lst (a_cons (d_mulS d_str d_int) a_nil)).dE (a_cons (r_lst (a_cons d_str a_nil)).dE (a_cons (r_lst (a_cons d_str a_nil)).dE (a_cons (r_lst (a_cons d_str a_nil)).dE (a_cons (r_lst (a_cons d_str a_nil)).dE (a_cons (r_lst (a_cons d_str a_nil)).dE (a_cons (r_lst (a_cons (r_lst (a_cons d_str a_nil)).dE a_nil)).dE (a_cons (d_tup (a_cons d_str a_nil)) (a_cons (r_lst (a_cons d_bl a_nil)).dE (a_cons (r_lst (a_cons d_str (a_cons d_int a_nil))).dE a_nil)))))))))))))).dE) (g_name (i := 8) nd) (ss_one (s_if (w_or (t_ne0 hu (r_call (ok__law_heard T) T.x__law_heard (hr.mono (by first | decide | omega)) (a_cons d_int (a_cons (dv 8) (a_cons (dv 3) a_nil)))).dE (r_lst (a_cons (r_lst (a_cons d_bl (a_cons d_bl (a_cons d_bl a_nil)))).dE (a_cons (dv 8) a_nil))).dE) (w_or1 (t_ne0 hu (r_call (ok__law_heard T) T.x__law_heard (hr.mono (by first | decide | omega)) (a_cons d_int (a_cons (dv 3) (a_cons (dv 8) a_nil)))).dE (r_lst (a_cons (r_lst (a_cons d_bl (a_cons d_bl (a_cons d_bl a_nil)))).dE (a_cons (dv 8) a_nil))).dE))).t (ss_one (s_ret (d_bl).rE)) ss_nil))))))))))))
        (ss_one (s_ret (d_bl).rE))), fun ds st Q hl h => ?_⟩
  obtain ⟨ns, rfl, hl63, rfl, q⟩ := h
  refine seq_hide fun R e => ?_
  walk_at "rd"
  refine ⟨ns, 4, rfl, by decide, rfl, fun kc cs hk1 hk2 hcl hcs ev he => ?_⟩
  walk_at "rd"
  rw [he]
  dsimp only
  refine dLoop_inv (fun i env st' => st'.length = kc ∧ (∀ c ∈ st', Purse (3000 * i) c) ∧ ∃ x1 x2 x3 x4 x5 x6 x7 x8, env = [some (.dat (.scr ns)), x1, x2, x3, x4, x5, x6, x7, x8, none]) _ _ _ (fun i dd env st' nx hd hi k => ?_) ⟨hcl, fun c hc => (hcs c hc).mono (by omega), _, _, _, _, _, _, _, _, rfl⟩ fun env st' hi => ?_
  · obtain ⟨hstl, hcells, x1, x2, x3, x4, x5, x6, x7, x8, rfl⟩ := hi
    have hik : i < kc := by
      have := (List.getElem?_eq_some_iff.mp hd).1
      rwa [List.length_map, List.length_range] at this
    have ed : dd = .cel i := by
      rw [List.getElem?_map, List.getElem?_range hik] at hd
      exact (Option.some.inj hd).symm
    subst ed
    have hlt : i < st'.length := by omega
    have hn0 : st'[i]? = some st'[i] := List.getElem?_eq_getElem hlt
    have hp0 := hcells _ (List.getElem_mem hlt)
    generalize st'[i] = ns0 at hn0 hp0
    have hn' : ∀ c, (st'.set i c)[i]? = some c := fun c => List.getElem?_set_self hlt
    have hd4 : drawsN 4 = 1718 := rfl
    clear e
    refine seq_hide fun R e => ?_
    walk_at "rd"
    refine ⟨i, words5.map DL.D.str, ns0, _, rfl, by decide, hn0, hp0, by omega, fun ys ns1 hy hp1 => ?_⟩
    obtain ⟨zs, rfl, hz⟩ := perm_strs hy
    rw [show (words5.map DL.D.str).length = 5 from rfl] at hp1
    walk_at "rd"
    refine ⟨i, 5, ns1, _, rfl, ⟨by decide, by decide⟩, hn' _, hp1, by omega, fun r ns2 hr0 hr1 hp2 => ?_⟩
    walk_at "rd"
    rw [List.set_set, cut_take _ (by omega), ← List.map_take]
    have hzw : ∀ w ∈ zs, wordOk w = true := fun w hw => words5_ok.1 w (hz.mem_iff.mp hw)
    refine wSorted_strs (fun w hw => wordOk_str (hzw w (List.mem_of_mem_take hw))) (by rw [List.length_take, hz.length_eq]; have : words5.length = 5 := rfl; omega) ?_
    obtain ⟨hf, hfl, hfm⟩ := some_sorted hz words5_ok.2 words5_ok.1 (1 + r).toNat
    generalize ((zs.take (1 + r).toNat).mergeSort fun a b => !ltS b a) = facts at hf hfl hfm
    clear hz hzw hy
    clear zs
    rw [e]
    refine seq_hide fun R e => ?_
    walk_at "rd"
    refine ⟨i, 4, facts, ns2, _, rfl, by decide, hf.1, by omega, hn' _, hp2, by omega, fun s ns3 hs hp3 => ?_⟩
    rw [hd4] at hp3
    rw [List.set_set, e]
    refine seq_hide fun R e => ?_
    walk_at "rd"
    refine ⟨⟨by decide, by decide⟩, ?_⟩
    have hfw : ∀ w ∈ facts ++ more2, wordOk w = true := fun w hw => by
      rcases List.mem_append.mp hw with h | h
      · exact hf.1 w h
      · exact (more2_ok.1 w h).1
    have hfn : (facts ++ more2).Nodup := List.nodup_append.mpr ⟨(hf.2.imp fun h => fun z => by subst z; exact absurd h (by simp [ltS])), more2_ok.2, fun a ha b hb z => by subst z; exact (more2_ok.1 a hb).2 (hfm a ha)⟩
    have hl2 : (facts ++ more2).length ≤ 8 := by rw [List.length_append]; have : more2.length = 2 := rfl; omega
    refine dComp_inv (fun l acc st3 => ∃ ns' wss, st3 = st'.set i ns' ∧ Purse (3000 * i + 5 + 1 + 1718 + 9 * l) ns' ∧ acc = (wss : List (List Str)).map strsD ∧ wss.length = l ∧ ∀ ws ∈ wss, wordsOk ws ∧ ws.length ≤ 6) _ _ _ (fun l dd acc st3 Q1 Q2 hd3 hi3 k3 k4 => ?_) ⟨ns3, [], rfl, hp3, rfl, rfl, fun _ h => by simp at h⟩ (size_small (by rw [rangeD_length, List.length_nil]; omega)) fun acc st3 hi3 => ?_
    · obtain ⟨ns4, wss, rfl, hp4, rfl, hwl, hws⟩ := hi3
      obtain ⟨hl3, rfl⟩ := rangeD_get hd3
      walk_at "rd"
      refine ⟨by simp only [List.length_map, List.length_cons, List.length_nil]; exact size_small (by omega), i, (facts ++ more2).map DL.D.str, ns4, _, by rw [List.map_append]; rfl, by rw [List.length_map]; omega, hn' _, hp4, by omega, fun ys ns5 hy hp5 => ?_⟩
      obtain ⟨zs, rfl, hz⟩ := perm_strs hy
      rw [List.length_map] at hp5
      rw [List.set_set]
      walk_at "rd"
      refine ⟨i, 6, ns5, _, rfl, ⟨by decide, by decide⟩, hn' _, hp5, by omega, fun r ns6 hr0 hr1 hp6 => ?_⟩
      walk_at "rd"
      rw [List.set_set, cut_take _ hr0, ← List.map_take]
      refine wSorted_strs (fun w hw => wordOk_str (hfw w (hz.mem_iff.mp (List.mem_of_mem_take hw)))) (by rw [List.length_take, hz.length_eq]; omega) ?_
      obtain ⟨g, gl, gm⟩ := some_sorted hz hfn hfw r.toNat
      generalize ((zs.take r.toNat).mergeSort fun a b => !ltS b a) = world at g gl gm
      refine k3 _ _ ⟨ns6, wss ++ [world], rfl, hp6.mono (by omega), by rw [List.map_append]; rfl, by rw [List.length_append, hwl]; rfl, fun ws hw => ?_⟩
      rcases List.mem_append.mp hw with h | h
      · exact hws ws h
      · rw [List.mem_singleton.mp h]; exact ⟨g, by omega⟩
    obtain ⟨ns4, wss, rfl, hp4, rfl, hwl, hws⟩ := hi3
    rw [rangeD_length] at hp4 hwl
    rw [e]
    refine seq_hide fun R e => ?_
    walk_at "rd"
    have hsV : okV 15 (sayD s) = true := okV_say' hs (by decide)
    have hsS : isSay (some facts) 16 (sayD s) = true := isSay_ok hs 16 (by decide)
    have hfl100 : facts.length ≤ 100 := by omega
    refine ⟨facts, _, rfl, hf, hfl100, hsV, ?_⟩
    rw [hsS]
    walk_at "rd"
    refine ⟨facts, _, rfl, hf, hfl100, hsV, ?_⟩
    rw [hsS]
    walk_at "rd"
    refine ⟨[], _, rfl, ⟨fun _ h => by simp at h, .nil⟩, by simp, by decide +kernel, ?_⟩
    rw [show isSay (some []) 16 (.tup [.str "fact", .str "a"]) = false from by decide +kernel]
    walk_at "rd"
    rw [e]
    refine seq_hide fun R e => ?_
    walk_at "rd"
    have hfs : ∀ w ∈ facts, PyData.strOk w = true := fun w hw => wordOk_str (hf.1 w hw)
    refine dComp_mapOf strsD (fun _ => .bl true) wss _ (fun ws hw Q1 hq => ?_) (size_small (by rw [List.length_nil]; omega)) ?_
    · obtain ⟨g, gl⟩ := hws ws hw
      have gn : ws.Nodup := g.2.imp fun h => fun z => by subst z; exact absurd h (by simp [ltS])
      walk_at "rd"
      refine ⟨facts, ws, s, rfl, hfs, g, by omega, okY_le hs (by decide), ?_⟩
      refine ⟨facts, ws, s, rfl, hfs, fun w h => wordOk_str (g.1 w h), gn, by omega, okY_le hs (by decide), ?_⟩
      refine ⟨_, rfl, .inl ⟨_, rfl⟩, ?_⟩
      walk_at "rd"
      refine ⟨facts, ws, s, rfl, hfs, g, by omega, okY_le hs (by decide), ?_⟩
      refine ⟨facts, ws, s, rfl, hfs, fun w h => wordOk_str (g.1 w h), gn, by omega, okY_le hs (by decide), ?_⟩
      exact ⟨_, rfl, .inl ⟨_, rfl⟩, hq⟩
    refine ⟨wss.map fun _ => true, by simp, ?_⟩
    rw [all_const]
    walk_at "rd"
    rw [e]
    refine seq_hide fun R e => ?_
    walk_at "rd"
    refine ⟨⟨by decide, by decide⟩, ?_⟩
    refine dLoop_inv (fun j env st2 => ∃ ns5, st2 = st'.set i ns5 ∧ Purse (3000 * i + 1800 + 10 * j) ns5 ∧ ∃ x5 x6 x7, env = [some (.dat (.scr ns)), some (.dat (.cel i)), some (.dat (.lst (facts.map DL.D.str))), some (.dat (sayD s)), some (.dat (.lst (wss.map strsD))), x5, x6, x7, x8, none]) _ _ _ (fun j dd env st2 nx2 hd2 hi2 k2 => ?_) ⟨ns4, rfl, hp4.mono (by omega), _, _, _, rfl⟩ fun env st2 hi2 => ?_
    · clear x5 x6 x7
      obtain ⟨ns5, rfl, hp5, x5, x6, x7, rfl⟩ := hi2
      obtain ⟨hj2, rfl⟩ := rangeD_get hd2
      refine seq_hide fun R e => ?_
      walk_at "rd"
      refine ⟨i, s, facts, ns5, _, rfl, hs, hn' _, hp5, by omega, fun ev ns6 hev hp6 => ?_⟩
      rw [List.set_set]
      rw [e]
      refine seq_hide fun R e => ?_
      walk_at "rd"
      refine ⟨i, [.str "all", .str "any"], ns6, _, rfl, by simp, by decide, hn' _, hp6, by omega, fun tg ns7 htg hp7 => ?_⟩
      rw [List.set_set]
      walk_at "rd"
      refine ⟨i, [sayD s, ev.d, sayD s], ns7, _, rfl, by simp, hn' _, hp7, by omega, fun ys ns8 hy hp8 => ?_⟩
      rw [List.set_set]
      have hyl : ys.length = 3 := hy.length_eq
      have hyV : ∀ y ∈ ys, okV 11 y = true := fun y hm => by
        have := hy.mem_iff.mp hm
        simp only [List.mem_cons, List.not_mem_nil, or_false] at this
        rcases this with rfl | rfl | rfl
        · exact okV_say' hs (by decide)
        · exact hev
        · exact okV_say' hs (by decide)
      have hdV : okV 13 (.tup [tg, .lst ys]) = true := okV_tup (by simp) fun y hm => by
        simp only [List.mem_cons, List.not_mem_nil, or_false] at hm htg
        rcases hm with rfl | rfl
        · rcases htg with rfl | rfl
          · exact okV_tag "all" (n := _)
          · exact okV_tag "any" (n := _)
        · exact okV_lst (by omega) hyV
      walk_at "rd"
      generalize DL.D.tup [tg, .lst ys] = deep at hdV
      rw [e]
      walk_at "rd"
      refine ⟨facts, ev.d, rfl, hf, hfl100, okV_le hev (by decide), ?_⟩
      refine ⟨facts, deep, rfl, hf, hfl100, okV_le hdV (by decide), ?_⟩
      walk_at "rd"
      refine ⟨facts, ev.d, rfl, hf.1, okV_le hev (by decide), ?_⟩
      refine ⟨facts, deep, rfl, hf.1, okV_le hdV (by decide), ?_⟩
      walk_at "rd"
      refine ⟨_, rfl, .inr ⟨by decide, [isSay (some facts) 16 ev.d, isSay (some facts) 16 deep], rfl, by simp⟩, ?_⟩
      walk_at "rd"
      exact k2 _ _ ⟨ns8, rfl, hp8.mono (by simp only [List.length_cons, List.length_nil]; omega), _, _, _, rfl⟩
    clear x5 x6 x7
    obtain ⟨ns5, rfl, hp5, x5, x6, x7, rfl⟩ := hi2
    rw [rangeD_length] at hp5
    dsimp only
    rw [e]
    refine seq_hide fun R e => ?_
    walk_at "rd"
    refine ⟨rfl, ?_⟩
    dsimp only
    refine dLoop_inv (fun j env st2 => st2 = st'.set i ns5 ∧ ∃ x8, env = [some (.dat (.scr ns)), some (.dat (.cel i)), some (.dat (.lst (facts.map DL.D.str))), some (.dat (sayD s)), some (.dat (.lst (wss.map strsD))), x5, x6, x7, x8, none]) _ _ _ (fun j d env st2 nx2 hd2 hi2 k2 => ?_) ⟨rfl, _, rfl⟩ fun env st2 hi2 => ?_
    · clear x8
      obtain ⟨rfl, x8, rfl⟩ := hi2
      have hmem : d ∈ oddsD := List.mem_of_getElem? hd2
      obtain ⟨hV, hS, hP, hN⟩ := odds_ok d hmem
      refine seq_hide fun R e => ?_
      walk_at "rd"
      refine ⟨1, d, d, rfl, .inr ⟨rfl, hV, .inl ⟨hS, fun ev he => ?_⟩⟩⟩
      dsimp only
      rw [he]
      clear he ev
      try walk_at "rd"
      refine .inr (.inl ⟨_, rfl, rfl, py_heard hP, ?_⟩)
      walk_at "rd"
      refine ⟨facts, d, rfl, hf, hfl100, hV, ?_⟩
      rw [say_some hS]
      walk_at "rd"
      rw [e]
      walk_at "rd"
      refine odds_eq hmem ?_
      rcases hN with hN | hW
      · rw [hN]
        obtain rfl := nil_of hN
        walk_at "rd"
        exact k2 _ _ ⟨rfl, _, rfl⟩
      cases hN : isNilD d
      case true =>
        obtain rfl := nil_of hN
        cases hW
      walk_at "rd"
      refine ⟨0, d, d, rfl, .inl ⟨rfl, ⟨15, hV, hW⟩, fun ev he => ?_⟩⟩
      dsimp only
      rw [he]
      clear he ev
      try walk_at "rd"
      refine .inr (.inl ⟨_, rfl, rfl, py_heard hP, ?_⟩)
      walk_at "rd"
      refine ⟨1, sayD s, d, rfl, .inr ⟨rfl, hsV, .inr ⟨15, hV, isSay_none facts _ _ hsS, hW, fun ev he => ?_⟩⟩⟩
      dsimp only
      rw [he]
      clear he ev
      try walk_at "rd"
      refine .inr (.inl ⟨_, rfl, rfl, py_heard hP, ?_⟩)
      walk_at "rd"
      exact k2 _ _ ⟨rfl, _, rfl⟩
    clear x8
    obtain ⟨rfl, x8, rfl⟩ := hi2
    dsimp only
    rw [e]
    walk_at "rd"
    refine ⟨⟨by decide, by decide, by decide, by decide, by decide +kernel⟩, by show 13 ≤ sizeLine; decide, ?_⟩
    refine dLoop_inv (fun j env st2 => st2 = st'.set i ns5 ∧ ∃ x8, env = [some (.dat (.scr ns)), some (.dat (.cel i)), some (.dat (.lst (facts.map DL.D.str))), some (.dat (sayD s)), some (.dat (.lst (wss.map strsD))), x5, x6, x7, x8, none]) odds13 _ _ (fun j d env st2 nx2 hd2 hi2 k2 => ?_) ⟨rfl, _, rfl⟩ fun env st2 hi2 => ?_
    · clear x8
      obtain ⟨rfl, x8, rfl⟩ := hi2
      obtain ⟨hV, hP, hW⟩ := odds13_ok d (List.mem_of_getElem? hd2)
      walk_at "rd"
      refine ⟨0, d, sayD s, rfl, .inl ⟨rfl, ⟨15, hV, hW⟩, fun ev he => ?_⟩⟩
      dsimp only
      rw [he]
      clear he ev
      try walk_at "rd"
      refine .inr (.inl ⟨_, rfl, rfl, py_heard hP, ?_⟩)
      walk_at "rd"
      refine ⟨1, sayD s, d, rfl, .inr ⟨rfl, hsV, .inr ⟨15, hV, isSay_none facts _ _ hsS, hW, fun ev he => ?_⟩⟩⟩
      dsimp only
      rw [he]
      clear he ev
      try walk_at "rd"
      refine .inr (.inl ⟨_, rfl, rfl, py_heard hP, ?_⟩)
      walk_at "rd"
      exact k2 _ _ ⟨rfl, _, rfl⟩
    · clear x8
      obtain ⟨rfl, x8, rfl⟩ := hi2
      exact k _ _ ⟨by rw [List.length_set]; exact hstl, cells_set (fun x hx => (hcells x hx).mono (by omega)) (hp5.mono (by omega)), _, _, _, _, _, _, _, _, rfl⟩
  · obtain ⟨hstl, hcells, x1, x2, x3, x4, x5, x6, x7, x8, rfl⟩ := hi
    dsimp only
    rw [e]
    walk_at "rd"
    exact q _
end
end K02

set_option Elab.async false
set_option linter.all false
set_option maxRecDepth 100000
set_option maxHeartbeats 4000000
namespace K02
open PySem PySem.Spec L2 DL
/-- what the top has left -/
theorem all_mk {K : Frag} {h : Heap} {mg : Str → Option Value} (X : K.In h) (G : h.Ns mainGlobals mg) {CB : Addr}
    {f0 : Addr} {od0 an0 : Option Addr} {sl0 : Array (Option Value)} {oc0 kV0 dc0 pm0 cd0 ct0 : Value}
    (n0 : PySem.W.nsIn K mainGlobals "is_whole" = some (some (.ref f0))) (l0 : K.lookup f0 = some ⟨oc0, od0, .func (PySem.W.fnOf "is_whole" "is_whole" (defArgs s_is_whole) (defBody s_is_whole) (defScope s_is_whole) .none kV0 dc0 pm0 an0 cd0 ct0), sl0⟩) (c0 : PySem.W.codeIn K cd0 "is_whole" = true) (k0 : PySem.W.keepIn K (.ref f0) = true)
    {f1 : Addr} {od1 an1 : Option Addr} {sl1 : Array (Option Value)} {oc1 kV1 dc1 pm1 cd1 ct1 : Value} {T1 : Addr} {oT1 : Value} {dT1 : Option Addr} {nT1 : Nat} {sT1 : Array (Option Value)} {tk1_0 : Tok}
    (n1 : PySem.W.nsIn K mainGlobals "is_count" = some (some (.ref f1))) (l1 : K.lookup f1 = some ⟨oc1, od1, .func (PySem.W.fnOf "is_count" "is_count" (defArgs s_is_count) (defBody s_is_count) (defScope s_is_count) (.ref T1) kV1 dc1 pm1 an1 cd1 ct1), sl1⟩) (c1 : PySem.W.codeIn K cd1 "is_count" = true) (k1 : PySem.W.keepIn K (.ref f1) = true)
    (t1 : K.lookup T1 = some ⟨oT1, dT1, .seq #[.int 0 tk1_0] nT1, sT1⟩)
    {f2 : Addr} {od2 an2 : Option Addr} {sl2 : Array (Option Value)} {oc2 kV2 dc2 pm2 cd2 ct2 : Value}
    (n2 : PySem.W.nsIn K mainGlobals "is_word" = some (some (.ref f2))) (l2 : K.lookup f2 = some ⟨oc2, od2, .func (PySem.W.fnOf "is_word" "is_word" (defArgs s_is_word) (defBody s_is_word) (defScope s_is_word) .none kV2 dc2 pm2 an2 cd2 ct2), sl2⟩) (c2 : PySem.W.codeIn K cd2 "is_word" = true) (k2 : PySem.W.keepIn K (.ref f2) = true)
    {f3 : Addr} {od3 an3 : Option Addr} {sl3 : Array (Option Value)} {oc3 kV3 dc3 pm3 cd3 ct3 : Value}
    (n3 : PySem.W.nsIn K mainGlobals "is_tuple_of" = some (some (.ref f3))) (l3 : K.lookup f3 = some ⟨oc3, od3, .func (PySem.W.fnOf "is_tuple_of" "is_tuple_of" (defArgs s_is_tuple_of) (defBody s_is_tuple_of) (defScope s_is_tuple_of) .none kV3 dc3 pm3 an3 cd3 ct3), sl3⟩) (c3 : PySem.W.codeIn K cd3 "is_tuple_of" = true) (k3 : PySem.W.keepIn K (.ref f3) = true)
    {f4 : Addr} {od4 an4 : Option Addr} {sl4 : Array (Option Value)} {oc4 kV4 dc4 pm4 cd4 ct4 : Value}
    (n4 : PySem.W.nsIn K mainGlobals "is_said" = some (some (.ref f4))) (l4 : K.lookup f4 = some ⟨oc4, od4, .func (PySem.W.fnOf "is_said" "is_said" (defArgs s_is_said) (defBody s_is_said) (defScope s_is_said) .none kV4 dc4 pm4 an4 cd4 ct4), sl4⟩) (c4 : PySem.W.codeIn K cd4 "is_said" = true) (k4 : PySem.W.keepIn K (.ref f4) = true)
    {f5 : Addr} {od5 an5 : Option Addr} {sl5 : Array (Option Value)} {oc5 kV5 dc5 pm5 cd5 ct5 : Value}
    (n5 : PySem.W.nsIn K mainGlobals "are_words" = some (some (.ref f5))) (l5 : K.lookup f5 = some ⟨oc5, od5, .func (PySem.W.fnOf "are_words" "are_words" (defArgs s_are_words) (defBody s_are_words) (defScope s_are_words) .none kV5 dc5 pm5 an5 cd5 ct5), sl5⟩) (c5 : PySem.W.codeIn K cd5 "are_words" = true) (k5 : PySem.W.keepIn K (.ref f5) = true)
    {f6 : Addr} {od6 an6 : Option Addr} {sl6 : Array (Option Value)} {oc6 kV6 dc6 pm6 cd6 ct6 : Value}
    (n6 : PySem.W.nsIn K mainGlobals "is_saying_of" = some (some (.ref f6))) (l6 : K.lookup f6 = some ⟨oc6, od6, .func (PySem.W.fnOf "is_saying_of" "is_saying_of" (defArgs s_is_saying_of) (defBody s_is_saying_of) (defScope s_is_saying_of) .none kV6 dc6 pm6 an6 cd6 ct6), sl6⟩) (c6 : PySem.W.codeIn K cd6 "is_saying_of" = true) (k6 : PySem.W.keepIn K (.ref f6) = true)
    {f7 : Addr} {od7 an7 : Option Addr} {sl7 : Array (Option Value)} {oc7 kV7 dc7 pm7 cd7 ct7 : Value}
    (n7 : PySem.W.nsIn K mainGlobals "is_saying" = some (some (.ref f7))) (l7 : K.lookup f7 = some ⟨oc7, od7, .func (PySem.W.fnOf "is_saying" "is_saying" (defArgs s_is_saying) (defBody s_is_saying) (defScope s_is_saying) .none kV7 dc7 pm7 an7 cd7 ct7), sl7⟩) (c7 : PySem.W.codeIn K cd7 "is_saying" = true) (k7 : PySem.W.keepIn K (.ref f7) = true)
    {f8 : Addr} {od8 an8 : Option Addr} {sl8 : Array (Option Value)} {oc8 kV8 dc8 pm8 cd8 ct8 : Value}
    (n8 : PySem.W.nsIn K mainGlobals "holds" = some (some (.ref f8))) (l8 : K.lookup f8 = some ⟨oc8, od8, .func (PySem.W.fnOf "holds" "holds" (defArgs s_holds) (defBody s_holds) (defScope s_holds) .none kV8 dc8 pm8 an8 cd8 ct8), sl8⟩) (c8 : PySem.W.codeIn K cd8 "holds" = true) (k8 : PySem.W.keepIn K (.ref f8) = true)
    {f9 : Addr} {od9 an9 : Option Addr} {sl9 : Array (Option Value)} {oc9 kV9 dc9 pm9 cd9 ct9 : Value}
    (n9 : PySem.W.nsIn K mainGlobals "is_so" = some (some (.ref f9))) (l9 : K.lookup f9 = some ⟨oc9, od9, .func (PySem.W.fnOf "is_so" "is_so" (defArgs s_is_so) (defBody s_is_so) (defScope s_is_so) .none kV9 dc9 pm9 an9 cd9 ct9), sl9⟩) (c9 : PySem.W.codeIn K cd9 "is_so" = true) (k9 : PySem.W.keepIn K (.ref f9) = true)
    {f10 : Addr} {od10 an10 : Option Addr} {sl10 : Array (Option Value)} {oc10 kV10 dc10 pm10 cd10 ct10 : Value}
    (n10 : PySem.W.nsIn K mainGlobals "_law_purse" = some (some (.ref f10))) (l10 : K.lookup f10 = some ⟨oc10, od10, .func (PySem.W.fnOf "_law_purse" "_law_purse" (defArgs s__law_purse) (defBody s__law_purse) (defScope s__law_purse) .none kV10 dc10 pm10 an10 cd10 ct10), sl10⟩) (c10 : PySem.W.codeIn K cd10 "_law_purse" = true) (k10 : PySem.W.keepIn K (.ref f10) = true)
    {f11 : Addr} {od11 an11 : Option Addr} {sl11 : Array (Option Value)} {oc11 kV11 dc11 pm11 cd11 ct11 : Value}
    (n11 : PySem.W.nsIn K mainGlobals "_law_mixed" = some (some (.ref f11))) (l11 : K.lookup f11 = some ⟨oc11, od11, .func (PySem.W.fnOf "_law_mixed" "_law_mixed" (defArgs s__law_mixed) (defBody s__law_mixed) (defScope s__law_mixed) .none kV11 dc11 pm11 an11 cd11 ct11), sl11⟩) (c11 : PySem.W.codeIn K cd11 "_law_mixed" = true) (k11 : PySem.W.keepIn K (.ref f11) = true)
    {f12 : Addr} {od12 an12 : Option Addr} {sl12 : Array (Option Value)} {oc12 kV12 dc12 pm12 cd12 ct12 : Value}
    (n12 : PySem.W.nsIn K mainGlobals "_law_draw" = some (some (.ref f12))) (l12 : K.lookup f12 = some ⟨oc12, od12, .func (PySem.W.fnOf "_law_draw" "_law_draw" (defArgs s__law_draw) (defBody s__law_draw) (defScope s__law_draw) .none kV12 dc12 pm12 an12 cd12 ct12), sl12⟩) (c12 : PySem.W.codeIn K cd12 "_law_draw" = true) (k12 : PySem.W.keepIn K (.ref f12) = true)
    {f13 : Addr} {od13 an13 : Option Addr} {sl13 : Array (Option Value)} {oc13 kV13 dc13 pm13 cd13 ct13 : Value}
    (n13 : PySem.W.nsIn K mainGlobals "_law_one_of" = some (some (.ref f13))) (l13 : K.lookup f13 = some ⟨oc13, od13, .func (PySem.W.fnOf "_law_one_of" "_law_one_of" (defArgs s__law_one_of) (defBody s__law_one_of) (defScope s__law_one_of) .none kV13 dc13 pm13 an13 cd13 ct13), sl13⟩) (c13 : PySem.W.codeIn K cd13 "_law_one_of" = true) (k13 : PySem.W.keepIn K (.ref f13) = true)
    {f14 : Addr} {od14 an14 : Option Addr} {sl14 : Array (Option Value)} {oc14 kV14 dc14 pm14 cd14 ct14 : Value}
    (n14 : PySem.W.nsIn K mainGlobals "_law_shuffled" = some (some (.ref f14))) (l14 : K.lookup f14 = some ⟨oc14, od14, .func (PySem.W.fnOf "_law_shuffled" "_law_shuffled" (defArgs s__law_shuffled) (defBody s__law_shuffled) (defScope s__law_shuffled) .none kV14 dc14 pm14 an14 cd14 ct14), sl14⟩) (c14 : PySem.W.codeIn K cd14 "_law_shuffled" = true) (k14 : PySem.W.keepIn K (.ref f14) = true)
    {f15 : Addr} {od15 an15 : Option Addr} {sl15 : Array (Option Value)} {oc15 kV15 dc15 pm15 cd15 ct15 : Value}
    (n15 : PySem.W.nsIn K mainGlobals "_law_same" = some (some (.ref f15))) (l15 : K.lookup f15 = some ⟨oc15, od15, .func (PySem.W.fnOf "_law_same" "_law_same" (defArgs s__law_same) (defBody s__law_same) (defScope s__law_same) .none kV15 dc15 pm15 an15 cd15 ct15), sl15⟩) (c15 : PySem.W.codeIn K cd15 "_law_same" = true) (k15 : PySem.W.keepIn K (.ref f15) = true)
    {f16 : Addr} {od16 an16 : Option Addr} {sl16 : Array (Option Value)} {oc16 kV16 dc16 pm16 cd16 ct16 : Value}
    (n16 : PySem.W.nsIn K mainGlobals "_law_purses" = some (some (.ref f16))) (l16 : K.lookup f16 = some ⟨oc16, od16, .func (PySem.W.fnOf "_law_purses" "_law_purses" (defArgs s__law_purses) (defBody s__law_purses) (defScope s__law_purses) .none kV16 dc16 pm16 an16 cd16 ct16), sl16⟩) (c16 : PySem.W.codeIn K cd16 "_law_purses" = true) (k16 : PySem.W.keepIn K (.ref f16) = true)
    {f17 : Addr} {od17 an17 : Option Addr} {sl17 : Array (Option Value)} {oc17 kV17 dc17 pm17 cd17 ct17 : Value}
    (n17 : PySem.W.nsIn K mainGlobals "_law_saying" = some (some (.ref f17))) (l17 : K.lookup f17 = some ⟨oc17, od17, .func (PySem.W.fnOf "_law_saying" "_law_saying" (defArgs s__law_saying) (defBody s__law_saying) (defScope s__law_saying) .none kV17 dc17 pm17 an17 cd17 ct17), sl17⟩) (c17 : PySem.W.codeIn K cd17 "_law_saying" = true) (k17 : PySem.W.keepIn K (.ref f17) = true)
    {f18 : Addr} {od18 an18 : Option Addr} {sl18 : Array (Option Value)} {oc18 kV18 dc18 pm18 cd18 ct18 : Value}
    (n18 : PySem.W.nsIn K mainGlobals "_law_holds" = some (some (.ref f18))) (l18 : K.lookup f18 = some ⟨oc18, od18, .func (PySem.W.fnOf "_law_holds" "_law_holds" (defArgs s__law_holds) (defBody s__law_holds) (defScope s__law_holds) .none kV18 dc18 pm18 an18 cd18 ct18), sl18⟩) (c18 : PySem.W.codeIn K cd18 "_law_holds" = true) (k18 : PySem.W.keepIn K (.ref f18) = true)
    {f19 : Addr} {od19 an19 : Option Addr} {sl19 : Array (Option Value)} {oc19 kV19 dc19 pm19 cd19 ct19 : Value}
    (n19 : PySem.W.nsIn K mainGlobals "_law_odds" = some (some (.ref f19))) (l19 : K.lookup f19 = some ⟨oc19, od19, .func (PySem.W.fnOf "_law_odds" "_law_odds" (defArgs s__law_odds) (defBody s__law_odds) (defScope s__law_odds) .none kV19 dc19 pm19 an19 cd19 ct19), sl19⟩) (c19 : PySem.W.codeIn K cd19 "_law_odds" = true) (k19 : PySem.W.keepIn K (.ref f19) = true)
    {f20 : Addr} {od20 an20 : Option Addr} {sl20 : Array (Option Value)} {oc20 kV20 dc20 pm20 cd20 ct20 : Value}
    (n20 : PySem.W.nsIn K mainGlobals "_law_bent" = some (some (.ref f20))) (l20 : K.lookup f20 = some ⟨oc20, od20, .func (PySem.W.fnOf "_law_bent" "_law_bent" (defArgs s__law_bent) (defBody s__law_bent) (defScope s__law_bent) .none kV20 dc20 pm20 an20 cd20 ct20), sl20⟩) (c20 : PySem.W.codeIn K cd20 "_law_bent" = true) (k20 : PySem.W.keepIn K (.ref f20) = true)
    {f21 : Addr} {od21 an21 : Option Addr} {sl21 : Array (Option Value)} {oc21 kV21 dc21 pm21 cd21 ct21 : Value}
    (n21 : PySem.W.nsIn K mainGlobals "_law_right" = some (some (.ref f21))) (l21 : K.lookup f21 = some ⟨oc21, od21, .func (PySem.W.fnOf "_law_right" "_law_right" (defArgs s__law_right) (defBody s__law_right) (defScope s__law_right) .none kV21 dc21 pm21 an21 cd21 ct21), sl21⟩) (c21 : PySem.W.codeIn K cd21 "_law_right" = true) (k21 : PySem.W.keepIn K (.ref f21) = true)
    {f22 : Addr} {od22 an22 : Option Addr} {sl22 : Array (Option Value)} {oc22 kV22 dc22 pm22 cd22 ct22 : Value}
    (n22 : PySem.W.nsIn K mainGlobals "_law_heard" = some (some (.ref f22))) (l22 : K.lookup f22 = some ⟨oc22, od22, .func (PySem.W.fnOf "_law_heard" "_law_heard" (defArgs s__law_heard) (defBody s__law_heard) (defScope s__law_heard) .none kV22 dc22 pm22 an22 cd22 ct22), sl22⟩) (c22 : PySem.W.codeIn K cd22 "_law_heard" = true) (k22 : PySem.W.keepIn K (.ref f22) = true)
    {f23 : Addr} {od23 an23 : Option Addr} {sl23 : Array (Option Value)} {oc23 kV23 dc23 pm23 cd23 ct23 : Value}
    (n23 : PySem.W.nsIn K mainGlobals "law" = some (some (.ref f23))) (l23 : K.lookup f23 = some ⟨oc23, od23, .func (PySem.W.fnOf "law" "law" (defArgs s_law) (defBody s_law) (defScope s_law) .none kV23 dc23 pm23 an23 cd23 ct23), sl23⟩) (c23 : PySem.W.codeIn K cd23 "law" = true) (k23 : PySem.W.keepIn K (.ref f23) = true)
    (z_isinstance : PySem.W.nsIn K mainGlobals "isinstance" = some none)
    (z_int : PySem.W.nsIn K mainGlobals "int" = some none)
    (z_bool : PySem.W.nsIn K mainGlobals "bool" = some none)
    (z_tuple : PySem.W.nsIn K mainGlobals "tuple" = some none)
    (z_list : PySem.W.nsIn K mainGlobals "list" = some none)
    (z_dict : PySem.W.nsIn K mainGlobals "dict" = some none)
    (z_str : PySem.W.nsIn K mainGlobals "str" = some none)
    (z_len : PySem.W.nsIn K mainGlobals "len" = some none)
    (z_abs : PySem.W.nsIn K mainGlobals "abs" = some none)
    (z_max : PySem.W.nsIn K mainGlobals "max" = some none)
    (z_min : PySem.W.nsIn K mainGlobals "min" = some none)
    (z_sum : PySem.W.nsIn K mainGlobals "sum" = some none)
    (z_all : PySem.W.nsIn K mainGlobals "all" = some none)
    (z_any : PySem.W.nsIn K mainGlobals "any" = some none)
    (z_range : PySem.W.nsIn K mainGlobals "range" = some none)
    (z_zip : PySem.W.nsIn K mainGlobals "zip" = some none)
    (z_sorted : PySem.W.nsIn K mainGlobals "sorted" = some none)
    (z_reversed : PySem.W.nsIn K mainGlobals "reversed" = some none)
    {CE0 fiE0 ttE0 : Addr} {nmE0 qE0 : Str} {NE0 : Addr} {bsE0 bmE0 : List Value} {snE0 : List Str} {subE0 : List Value} {abE0 : Bool} {colE0 : Option Bool} {ddE0 : Option Addr} {m0E0 m1E0 m2E0 m3E0 m5E0 : Option Value} {odE0 anE0 : Option Addr} {slE0 : Array (Option Value)} {ocE0 kVE0 dcE0 pmE0 cdE0 ctE0 : Value} {toE0 : Value} {tdE0 : Option Addr} {tnE0 : Nat} {tsE0 : Array (Option Value)}
    (ac0 : PySem.W.nsIn K mainGlobals "InvalidFacts" = some (some (.ref CE0)))
    (xl0 : K.lookup CE0 = some (PySem.excClassObj nmE0 qE0 CE0 NE0 bsE0 bmE0 true snE0 subE0 abE0 colE0 ddE0 m0E0 m1E0 m2E0 m3E0 m5E0 "ValueError.__new__")) (rv0 : PySem.HandSPX.refsVE bmE0 = true)
    (sa0 : PySem.W.findIn K (.ref CE0) "__setattr__" = some (some (.builtin "object.__setattr__")))
    (ga0 : PySem.W.findIn K (.ref CE0) "__getattribute__" = some (some (.builtin "BaseException.__getattribute__")))
    (gg0 : PySem.W.findIn K (.ref CE0) "__getattr__" = some none)
    (nb0 : PySem.W.findIn K (.ref CE0) "value" = some none)
    (kc0 : PySem.W.keepIn K (.ref CE0) = true)
    (ex0 : PySem.W.subIn K (.ref CE0) (.type "BaseException") = some true)
    (ty0 : PySem.W.typeIn K (.ref CE0) = some (.type "type"))
    (hd0 : PySem.W.hasDictIn K CE0 = true)
    (ca0 : PySem.W.findIn K (.ref CE0) "__class__" = some (some (.builtin "object.__class__")))
    (cm0 : PySem.W.mroIn K CE0 (.type "object") = some true)
    (ai0 : PySem.W.findIn K (.ref CE0) "__init__" = some (some (.ref fiE0)))
    (ti0 : PySem.W.typeIn K (.ref fiE0) = some (.type "function"))
    (sb0 : PySem.W.subIn K (.ref CE0) (.ref CB) = some true)
    (li0 : K.lookup fiE0 = some ⟨ocE0, odE0, .func (PySem.W.fnOf "__init__" "InvalidFacts.__init__" (PySem.ErrX.iA ⟨6, 17, 6, 21⟩ ⟨6, 23, 6, 28⟩ ⟨6, 29, 6, 33⟩) (PySem.ErrX.iB ⟨7, 8, 7, 12⟩ ⟨7, 8, 7, 18⟩ ⟨7, 21, 7, 26⟩ ⟨7, 8, 7, 26⟩) PySem.ErrX.iS (.ref ttE0) kVE0 dcE0 pmE0 anE0 cdE0 ctE0), slE0⟩) (ci0 : PySem.W.codeIn K cdE0 "InvalidFacts.__init__" = true) (dt0 : K.lookup ttE0 = some ⟨toE0, tdE0, .seq #[.none] tnE0, tsE0⟩)
    {CE1 fiE1 ttE1 : Addr} {nmE1 qE1 : Str} {NE1 : Addr} {bsE1 bmE1 : List Value} {snE1 : List Str} {subE1 : List Value} {abE1 : Bool} {colE1 : Option Bool} {ddE1 : Option Addr} {m0E1 m1E1 m2E1 m3E1 m5E1 : Option Value} {odE1 anE1 : Option Addr} {slE1 : Array (Option Value)} {ocE1 kVE1 dcE1 pmE1 cdE1 ctE1 : Value} {toE1 : Value} {tdE1 : Option Addr} {tnE1 : Nat} {tsE1 : Array (Option Value)}
    (ac1 : PySem.W.nsIn K mainGlobals "InvalidSaying" = some (some (.ref CE1)))
    (xl1 : K.lookup CE1 = some (PySem.excClassObj nmE1 qE1 CE1 NE1 bsE1 bmE1 true snE1 subE1 abE1 colE1 ddE1 m0E1 m1E1 m2E1 m3E1 m5E1 "ValueError.__new__")) (rv1 : PySem.HandSPX.refsVE bmE1 = true)
    (sa1 : PySem.W.findIn K (.ref CE1) "__setattr__" = some (some (.builtin "object.__setattr__")))
    (ga1 : PySem.W.findIn K (.ref CE1) "__getattribute__" = some (some (.builtin "BaseException.__getattribute__")))
    (gg1 : PySem.W.findIn K (.ref CE1) "__getattr__" = some none)
    (nb1 : PySem.W.findIn K (.ref CE1) "value" = some none)
    (kc1 : PySem.W.keepIn K (.ref CE1) = true)
    (ex1 : PySem.W.subIn K (.ref CE1) (.type "BaseException") = some true)
    (ty1 : PySem.W.typeIn K (.ref CE1) = some (.type "type"))
    (hd1 : PySem.W.hasDictIn K CE1 = true)
    (ca1 : PySem.W.findIn K (.ref CE1) "__class__" = some (some (.builtin "object.__class__")))
    (cm1 : PySem.W.mroIn K CE1 (.type "object") = some true)
    (ai1 : PySem.W.findIn K (.ref CE1) "__init__" = some (some (.ref fiE1)))
    (ti1 : PySem.W.typeIn K (.ref fiE1) = some (.type "function"))
    (sb1 : PySem.W.subIn K (.ref CE1) (.ref CB) = some true)
    (li1 : K.lookup fiE1 = some ⟨ocE1, odE1, .func (PySem.W.fnOf "__init__" "InvalidSaying.__init__" (PySem.ErrX.iA ⟨10, 17, 10, 21⟩ ⟨10, 23, 10, 28⟩ ⟨10, 29, 10, 33⟩) (PySem.ErrX.iB ⟨11, 8, 11, 12⟩ ⟨11, 8, 11, 18⟩ ⟨11, 21, 11, 26⟩ ⟨11, 8, 11, 26⟩) PySem.ErrX.iS (.ref ttE1) kVE1 dcE1 pmE1 anE1 cdE1 ctE1), slE1⟩) (ci1 : PySem.W.codeIn K cdE1 "InvalidSaying.__init__" = true) (dt1 : K.lookup ttE1 = some ⟨toE1, tdE1, .seq #[.none] tnE1, tsE1⟩)
    {CE2 fiE2 ttE2 : Addr} {nmE2 qE2 : Str} {NE2 : Addr} {bsE2 bmE2 : List Value} {snE2 : List Str} {subE2 : List Value} {abE2 : Bool} {colE2 : Option Bool} {ddE2 : Option Addr} {m0E2 m1E2 m2E2 m3E2 m5E2 : Option Value} {odE2 anE2 : Option Addr} {slE2 : Array (Option Value)} {ocE2 kVE2 dcE2 pmE2 cdE2 ctE2 : Value} {toE2 : Value} {tdE2 : Option Addr} {tnE2 : Nat} {tsE2 : Array (Option Value)}
    (ac2 : PySem.W.nsIn K mainGlobals "InvalidWorld" = some (some (.ref CE2)))
    (xl2 : K.lookup CE2 = some (PySem.excClassObj nmE2 qE2 CE2 NE2 bsE2 bmE2 true snE2 subE2 abE2 colE2 ddE2 m0E2 m1E2 m2E2 m3E2 m5E2 "ValueError.__new__")) (rv2 : PySem.HandSPX.refsVE bmE2 = true)
    (sa2 : PySem.W.findIn K (.ref CE2) "__setattr__" = some (some (.builtin "object.__setattr__")))
    (ga2 : PySem.W.findIn K (.ref CE2) "__getattribute__" = some (some (.builtin "BaseException.__getattribute__")))
    (gg2 : PySem.W.findIn K (.ref CE2) "__getattr__" = some none)
    (nb2 : PySem.W.findIn K (.ref CE2) "value" = some none)
    (kc2 : PySem.W.keepIn K (.ref CE2) = true)
    (ex2 : PySem.W.subIn K (.ref CE2) (.type "BaseException") = some true)
    (ty2 : PySem.W.typeIn K (.ref CE2) = some (.type "type"))
    (hd2 : PySem.W.hasDictIn K CE2 = true)
    (ca2 : PySem.W.findIn K (.ref CE2) "__class__" = some (some (.builtin "object.__class__")))
    (cm2 : PySem.W.mroIn K CE2 (.type "object") = some true)
    (ai2 : PySem.W.findIn K (.ref CE2) "__init__" = some (some (.ref fiE2)))
    (ti2 : PySem.W.typeIn K (.ref fiE2) = some (.type "function"))
    (sb2 : PySem.W.subIn K (.ref CE2) (.ref CB) = some true)
    (li2 : K.lookup fiE2 = some ⟨ocE2, odE2, .func (PySem.W.fnOf "__init__" "InvalidWorld.__init__" (PySem.ErrX.iA ⟨14, 17, 14, 21⟩ ⟨14, 23, 14, 28⟩ ⟨14, 29, 14, 33⟩) (PySem.ErrX.iB ⟨15, 8, 15, 12⟩ ⟨15, 8, 15, 18⟩ ⟨15, 21, 15, 26⟩ ⟨15, 8, 15, 26⟩) PySem.ErrX.iS (.ref ttE2) kVE2 dcE2 pmE2 anE2 cdE2 ctE2), slE2⟩) (ci2 : PySem.W.codeIn K cdE2 "InvalidWorld.__init__" = true) (dt2 : K.lookup ttE2 = some ⟨toE2, tdE2, .seq #[.none] tnE2, tsE2⟩)
    (acB : PySem.W.nsIn K mainGlobals "BookError" = some (some (.ref CB))) (exB : PySem.W.subIn K (.ref CB) (.type "BaseException") = some true) (hdB : PySem.W.hasDictIn K CB = true) (tyB : PySem.W.typeIn K (.ref CB) = some (.type "type"))
    (scn : PySem.W.specialIn K (.builtin "object.__class__") "__get__" = some (some (.builtin "getset_descriptor.__get__"))) (sct : PySem.W.takesIn K (.builtin "object.__class__") = some true)
    (kt0_0 : PySem.W.kitOne K (.ref CE0) (.ref CE0) = some true)
    (kt0_1 : PySem.W.kitOne K (.ref CE0) (.ref CE1) = some false)
    (kt0_2 : PySem.W.kitOne K (.ref CE0) (.ref CE2) = some false)
    (kt1_0 : PySem.W.kitOne K (.ref CE1) (.ref CE0) = some false)
    (kt1_1 : PySem.W.kitOne K (.ref CE1) (.ref CE1) = some true)
    (kt1_2 : PySem.W.kitOne K (.ref CE1) (.ref CE2) = some false)
    (kt2_0 : PySem.W.kitOne K (.ref CE2) (.ref CE0) = some false)
    (kt2_1 : PySem.W.kitOne K (.ref CE2) (.ref CE1) = some false)
    (kt2_2 : PySem.W.kitOne K (.ref CE2) (.ref CE2) = some true)
    : ∃ (a : Ad) (d : Fd), Tx K mg a d := by
  refine ⟨⟨f0, f1, f2, f3, f4, f5, f6, f7, f8, f9, f10, f11, f12, f13, f14, f15, f16, f17, f18, f19, f20, f21, f22, f23, CE0, CE1, CE2, CB⟩, ⟨PySem.W.fnOf "is_whole" "is_whole" (defArgs s_is_whole) (defBody s_is_whole) (defScope s_is_whole) .none kV0 dc0 pm0 an0 cd0 ct0, PySem.W.fnOf "is_count" "is_count" (defArgs s_is_count) (defBody s_is_count) (defScope s_is_count) (.ref T1) kV1 dc1 pm1 an1 cd1 ct1, PySem.W.fnOf "is_word" "is_word" (defArgs s_is_word) (defBody s_is_word) (defScope s_is_word) .none kV2 dc2 pm2 an2 cd2 ct2, PySem.W.fnOf "is_tuple_of" "is_tuple_of" (defArgs s_is_tuple_of) (defBody s_is_tuple_of) (defScope s_is_tuple_of) .none kV3 dc3 pm3 an3 cd3 ct3, PySem.W.fnOf "is_said" "is_said" (defArgs s_is_said) (defBody s_is_said) (defScope s_is_said) .none kV4 dc4 pm4 an4 cd4 ct4, PySem.W.fnOf "are_words" "are_words" (defArgs s_are_words) (defBody s_are_words) (defScope s_are_words) .none kV5 dc5 pm5 an5 cd5 ct5, PySem.W.fnOf "is_saying_of" "is_saying_of" (defArgs s_is_saying_of) (defBody s_is_saying_of) (defScope s_is_saying_of) .none kV6 dc6 pm6 an6 cd6 ct6, PySem.W.fnOf "is_saying" "is_saying" (defArgs s_is_saying) (defBody s_is_saying) (defScope s_is_saying) .none kV7 dc7 pm7 an7 cd7 ct7, PySem.W.fnOf "holds" "holds" (defArgs s_holds) (defBody s_holds) (defScope s_holds) .none kV8 dc8 pm8 an8 cd8 ct8, PySem.W.fnOf "is_so" "is_so" (defArgs s_is_so) (defBody s_is_so) (defScope s_is_so) .none kV9 dc9 pm9 an9 cd9 ct9, PySem.W.fnOf "_law_purse" "_law_purse" (defArgs s__law_purse) (defBody s__law_purse) (defScope s__law_purse) .none kV10 dc10 pm10 an10 cd10 ct10, PySem.W.fnOf "_law_mixed" "_law_mixed" (defArgs s__law_mixed) (defBody s__law_mixed) (defScope s__law_mixed) .none kV11 dc11 pm11 an11 cd11 ct11, PySem.W.fnOf "_law_draw" "_law_draw" (defArgs s__law_draw) (defBody s__law_draw) (defScope s__law_draw) .none kV12 dc12 pm12 an12 cd12 ct12, PySem.W.fnOf "_law_one_of" "_law_one_of" (defArgs s__law_one_of) (defBody s__law_one_of) (defScope s__law_one_of) .none kV13 dc13 pm13 an13 cd13 ct13, PySem.W.fnOf "_law_shuffled" "_law_shuffled" (defArgs s__law_shuffled) (defBody s__law_shuffled) (defScope s__law_shuffled) .none kV14 dc14 pm14 an14 cd14 ct14, PySem.W.fnOf "_law_same" "_law_same" (defArgs s__law_same) (defBody s__law_same) (defScope s__law_same) .none kV15 dc15 pm15 an15 cd15 ct15, PySem.W.fnOf "_law_purses" "_law_purses" (defArgs s__law_purses) (defBody s__law_purses) (defScope s__law_purses) .none kV16 dc16 pm16 an16 cd16 ct16, PySem.W.fnOf "_law_saying" "_law_saying" (defArgs s__law_saying) (defBody s__law_saying) (defScope s__law_saying) .none kV17 dc17 pm17 an17 cd17 ct17, PySem.W.fnOf "_law_holds" "_law_holds" (defArgs s__law_holds) (defBody s__law_holds) (defScope s__law_holds) .none kV18 dc18 pm18 an18 cd18 ct18, PySem.W.fnOf "_law_odds" "_law_odds" (defArgs s__law_odds) (defBody s__law_odds) (defScope s__law_odds) .none kV19 dc19 pm19 an19 cd19 ct19, PySem.W.fnOf "_law_bent" "_law_bent" (defArgs s__law_bent) (defBody s__law_bent) (defScope s__law_bent) .none kV20 dc20 pm20 an20 cd20 ct20, PySem.W.fnOf "_law_right" "_law_right" (defArgs s__law_right) (defBody s__law_right) (defScope s__law_right) .none kV21 dc21 pm21 an21 cd21 ct21, PySem.W.fnOf "_law_heard" "_law_heard" (defArgs s__law_heard) (defBody s__law_heard) (defScope s__law_heard) .none kV22 dc22 pm22 an22 cd22 ct22, PySem.W.fnOf "law" "law" (defArgs s_law) (defBody s_law) (defScope s_law) .none kV23 dc23 pm23 an23 cd23 ct23⟩, {
    f_is_whole := ⟨⟨_, _, _, _, _, _, _, _, _, _, rfl, l0, c0, .inl ⟨rfl, rfl⟩, .inl rfl⟩, k0⟩
    g_is_whole := PySem.W.mg_of X G n0
    f_is_count := ⟨⟨_, _, _, _, _, _, _, _, _, _, rfl, l1, c1, .inr ⟨by simp, T1, _, _, _, rfl, t1, rfl, (.cons ⟨_, rfl⟩ .nil)⟩, .inl rfl⟩, k1⟩
    g_is_count := PySem.W.mg_of X G n1
    f_is_word := ⟨⟨_, _, _, _, _, _, _, _, _, _, rfl, l2, c2, .inl ⟨rfl, rfl⟩, .inl rfl⟩, k2⟩
    g_is_word := PySem.W.mg_of X G n2
    f_is_tuple_of := ⟨⟨_, _, _, _, _, _, _, _, _, _, rfl, l3, c3, .inl ⟨rfl, rfl⟩, .inl rfl⟩, k3⟩
    g_is_tuple_of := PySem.W.mg_of X G n3
    f_is_said := ⟨⟨_, _, _, _, _, _, _, _, _, _, rfl, l4, c4, .inl ⟨rfl, rfl⟩, .inl rfl⟩, k4⟩
    g_is_said := PySem.W.mg_of X G n4
    f_are_words := ⟨⟨_, _, _, _, _, _, _, _, _, _, rfl, l5, c5, .inl ⟨rfl, rfl⟩, .inl rfl⟩, k5⟩
    g_are_words := PySem.W.mg_of X G n5
    f_is_saying_of := ⟨⟨_, _, _, _, _, _, _, _, _, _, rfl, l6, c6, .inl ⟨rfl, rfl⟩, .inl rfl⟩, k6⟩
    g_is_saying_of := PySem.W.mg_of X G n6
    f_is_saying := ⟨⟨_, _, _, _, _, _, _, _, _, _, rfl, l7, c7, .inl ⟨rfl, rfl⟩, .inl rfl⟩, k7⟩
    g_is_saying := PySem.W.mg_of X G n7
    f_holds := ⟨⟨_, _, _, _, _, _, _, _, _, _, rfl, l8, c8, .inl ⟨rfl, rfl⟩, .inl rfl⟩, k8⟩
    g_holds := PySem.W.mg_of X G n8
    f_is_so := ⟨⟨_, _, _, _, _, _, _, _, _, _, rfl, l9, c9, .inl ⟨rfl, rfl⟩, .inl rfl⟩, k9⟩
    g_is_so := PySem.W.mg_of X G n9
    f__law_purse := ⟨⟨_, _, _, _, _, _, _, _, _, _, rfl, l10, c10, .inl ⟨rfl, rfl⟩, .inl rfl⟩, k10⟩
    g__law_purse := PySem.W.mg_of X G n10
    f__law_mixed := ⟨⟨_, _, _, _, _, _, _, _, _, _, rfl, l11, c11, .inl ⟨rfl, rfl⟩, .inl rfl⟩, k11⟩
    g__law_mixed := PySem.W.mg_of X G n11
    f__law_draw := ⟨⟨_, _, _, _, _, _, _, _, _, _, rfl, l12, c12, .inl ⟨rfl, rfl⟩, .inl rfl⟩, k12⟩
    g__law_draw := PySem.W.mg_of X G n12
    f__law_one_of := ⟨⟨_, _, _, _, _, _, _, _, _, _, rfl, l13, c13, .inl ⟨rfl, rfl⟩, .inl rfl⟩, k13⟩
    g__law_one_of := PySem.W.mg_of X G n13
    f__law_shuffled := ⟨⟨_, _, _, _, _, _, _, _, _, _, rfl, l14, c14, .inl ⟨rfl, rfl⟩, .inl rfl⟩, k14⟩
    g__law_shuffled := PySem.W.mg_of X G n14
    f__law_same := ⟨⟨_, _, _, _, _, _, _, _, _, _, rfl, l15, c15, .inl ⟨rfl, rfl⟩, .inl rfl⟩, k15⟩
    g__law_same := PySem.W.mg_of X G n15
    f__law_purses := ⟨⟨_, _, _, _, _, _, _, _, _, _, rfl, l16, c16, .inl ⟨rfl, rfl⟩, .inl rfl⟩, k16⟩
    g__law_purses := PySem.W.mg_of X G n16
    f__law_saying := ⟨⟨_, _, _, _, _, _, _, _, _, _, rfl, l17, c17, .inl ⟨rfl, rfl⟩, .inl rfl⟩, k17⟩
    g__law_saying := PySem.W.mg_of X G n17
    f__law_holds := ⟨⟨_, _, _, _, _, _, _, _, _, _, rfl, l18, c18, .inl ⟨rfl, rfl⟩, .inl rfl⟩, k18⟩
    g__law_holds := PySem.W.mg_of X G n18
    f__law_odds := ⟨⟨_, _, _, _, _, _, _, _, _, _, rfl, l19, c19, .inl ⟨rfl, rfl⟩, .inl rfl⟩, k19⟩
    g__law_odds := PySem.W.mg_of X G n19
    f__law_bent := ⟨⟨_, _, _, _, _, _, _, _, _, _, rfl, l20, c20, .inl ⟨rfl, rfl⟩, .inl rfl⟩, k20⟩
    g__law_bent := PySem.W.mg_of X G n20
    f__law_right := ⟨⟨_, _, _, _, _, _, _, _, _, _, rfl, l21, c21, .inl ⟨rfl, rfl⟩, .inl rfl⟩, k21⟩
    g__law_right := PySem.W.mg_of X G n21
    f__law_heard := ⟨⟨_, _, _, _, _, _, _, _, _, _, rfl, l22, c22, .inl ⟨rfl, rfl⟩, .inl rfl⟩, k22⟩
    g__law_heard := PySem.W.mg_of X G n22
    f_law := ⟨⟨_, _, _, _, _, _, _, _, _, _, rfl, l23, c23, .inl ⟨rfl, rfl⟩, .inl rfl⟩, k23⟩
    g_law := PySem.W.mg_of X G n23
    b_isinstance := PySem.W.mg_none_of X G z_isinstance
    b_int := PySem.W.mg_none_of X G z_int
    b_bool := PySem.W.mg_none_of X G z_bool
    b_tuple := PySem.W.mg_none_of X G z_tuple
    b_list := PySem.W.mg_none_of X G z_list
    b_dict := PySem.W.mg_none_of X G z_dict
    b_str := PySem.W.mg_none_of X G z_str
    b_len := PySem.W.mg_none_of X G z_len
    b_abs := PySem.W.mg_none_of X G z_abs
    b_max := PySem.W.mg_none_of X G z_max
    b_min := PySem.W.mg_none_of X G z_min
    b_sum := PySem.W.mg_none_of X G z_sum
    b_all := PySem.W.mg_none_of X G z_all
    b_any := PySem.W.mg_none_of X G z_any
    b_range := PySem.W.mg_none_of X G z_range
    b_zip := PySem.W.mg_none_of X G z_zip
    b_sorted := PySem.W.mg_none_of X G z_sorted
    b_reversed := PySem.W.mg_none_of X G z_reversed
    e_InvalidFacts := { gC := PySem.W.mg_of X G ac0, cls := ⟨_, _, _, _, _, _, _, _, _, _, _, _, _, _, _, xl0, rv0⟩, sa := sa0, ga := ga0, gg := gg0, noN := nb0, kC := kc0, exC := ex0, tyC := ty0, hdC := hd0, ca := ca0, cn_ := scn, ct_ := sct, cm := cm0, init := ⟨_, ai0, ti0, _, _, _, _, _, _, _, _, _, _, _, _, _, _, _, _, _, _, _, _, li0, ci0, dt0, rfl, rfl⟩ }
    xm_InvalidFacts := PySem.W.exm_ref exB hdB tyB sb0
    kt_InvalidFacts_InvalidFacts := kt0_0
    kt_InvalidFacts_InvalidSaying := kt0_1
    kt_InvalidFacts_InvalidWorld := kt0_2
    e_InvalidSaying := { gC := PySem.W.mg_of X G ac1, cls := ⟨_, _, _, _, _, _, _, _, _, _, _, _, _, _, _, xl1, rv1⟩, sa := sa1, ga := ga1, gg := gg1, noN := nb1, kC := kc1, exC := ex1, tyC := ty1, hdC := hd1, ca := ca1, cn_ := scn, ct_ := sct, cm := cm1, init := ⟨_, ai1, ti1, _, _, _, _, _, _, _, _, _, _, _, _, _, _, _, _, _, _, _, _, li1, ci1, dt1, rfl, rfl⟩ }
    xm_InvalidSaying := PySem.W.exm_ref exB hdB tyB sb1
    kt_InvalidSaying_InvalidFacts := kt1_0
    kt_InvalidSaying_InvalidSaying := kt1_1
    kt_InvalidSaying_InvalidWorld := kt1_2
    e_InvalidWorld := { gC := PySem.W.mg_of X G ac2, cls := ⟨_, _, _, _, _, _, _, _, _, _, _, _, _, _, _, xl2, rv2⟩, sa := sa2, ga := ga2, gg := gg2, noN := nb2, kC := kc2, exC := ex2, tyC := ty2, hdC := hd2, ca := ca2, cn_ := scn, ct_ := sct, cm := cm2, init := ⟨_, ai2, ti2, _, _, _, _, _, _, _, _, _, _, _, _, _, _, _, _, _, _, _, _, li2, ci2, dt2, rfl, rfl⟩ }
    xm_InvalidWorld := PySem.W.exm_ref exB hdB tyB sb2
    kt_InvalidWorld_InvalidFacts := kt2_0
    kt_InvalidWorld_InvalidSaying := kt2_1
    kt_InvalidWorld_InvalidWorld := kt2_2
    gb := PySem.W.mg_of X G acB
  }⟩
theorem bind_law {K : Frag} {mg : Str → Option Value} {a : Ad} {d : Fd} (T : Tx K mg a d) (s : Shared) (u : Value) : BindsTo s d.law ⟨[u], []⟩ [("script", u)] := by
  obtain ⟨oc, od, dV, kV, doc, pm, an, cdv, ct, osl, e, lk, hcd, hD, hK⟩ := T.f_law.ex
  rw [e]
  rcases hD with ⟨_, rfl⟩ | ⟨z, _⟩
  · exact .of_eq rfl
  · exact absurd rfl z
theorem fin {P : Program} {w : World} {K : Frag} {mg : Str → Option Value} {fa : Addr} (hmg : mg "law" = some (.ref fa)) (hT : ∃ (a : Ad) (d : Fd), Tx K mg a d) :
    ∃ fd : FuncData, (∀ (s : Shared) (u : Value), BindsTo s fd ⟨[u], []⟩ [("script", u)]) ∧ ∀ base : Heap, K.In base → base.Ns mainGlobals mg → FnOk P w K mg base CX0 30 fa fd ["script"] (spD K 1 phiLaw) := by
  obtain ⟨a, d, T⟩ := hT
  have e : fa = a.law := by
    have := hmg.symm.trans T.g_law
    cases this; rfl
  subst e
  exact ⟨d.law, bind_law T, fun base _ _ => ok_law T⟩
end K02
open PySem PySem.W PyProof.Rows
set_option maxHeartbeats 0 in
theorem PySem.Challenge.cw_neversurewin_k02_sayings_judged_holds : PySem.Challenge.rw_neversurewin_k02_sayings_judged.Holds := by
  w_on; o_law; k_head; (case hw => w_witness2)
  k_fill
  refine L2.walk_ofK (l := PySem.Challenge.rw_neversurewin_k02_sayings_judged) (n := 63) (k := 30) (x := "script") (CX := L2.CX0) (sp := fun K => DL.spD K 1 DL.phiLaw) rfl (by decide) rfl ⟨rfl, by decide, by decide⟩ (fun w h Y => PySem.W.kIn_of Y) ?F (fun K H a ns h1 h2 h3 => DL.law_entry H a ns h1 h2 h3) (fun _ _ _ _ h => h)
  case F =>
    intro w mg fa h KX G hmg
    refine K02.fin hmg ?T
    case T =>
      refine' K02.all_mk KX G ?n0 ?l0 ?c0 ?k0 ?n1 ?l1 ?c1 ?k1 ?t1 ?n2 ?l2 ?c2 ?k2 ?n3 ?l3 ?c3 ?k3 ?n4 ?l4 ?c4 ?k4 ?n5 ?l5 ?c5 ?k5 ?n6 ?l6 ?c6 ?k6 ?n7 ?l7 ?c7 ?k7 ?n8 ?l8 ?c8 ?k8 ?n9 ?l9 ?c9 ?k9 ?n10 ?l10 ?c10 ?k10 ?n11 ?l11 ?c11 ?k11 ?n12 ?l12 ?c12 ?k12 ?n13 ?l13 ?c13 ?k13 ?n14 ?l14 ?c14 ?k14 ?n15 ?l15 ?c15 ?k15 ?n16 ?l16 ?c16 ?k16 ?n17 ?l17 ?c17 ?k17 ?n18 ?l18 ?c18 ?k18 ?n19 ?l19 ?c19 ?k19 ?n20 ?l20 ?c20 ?k20 ?n21 ?l21 ?c21 ?k21 ?n22 ?l22 ?c22 ?k22 ?n23 ?l23 ?c23 ?k23 ?z_isinstance ?z_int ?z_bool ?z_tuple ?z_list ?z_dict ?z_str ?z_len ?z_abs ?z_max ?z_min ?z_sum ?z_all ?z_any ?z_range ?z_zip ?z_sorted ?z_reversed ?ac0 ?xl0 ?rv0 ?sa0 ?ga0 ?gg0 ?nb0 ?kc0 ?ex0 ?ty0 ?hd0 ?ca0 ?cm0 ?ai0 ?ti0 ?sb0 ?li0 ?ci0 ?dt0 ?ac1 ?xl1 ?rv1 ?sa1 ?ga1 ?gg1 ?nb1 ?kc1 ?ex1 ?ty1 ?hd1 ?ca1 ?cm1 ?ai1 ?ti1 ?sb1 ?li1 ?ci1 ?dt1 ?ac2 ?xl2 ?rv2 ?sa2 ?ga2 ?gg2 ?nb2 ?kc2 ?ex2 ?ty2 ?hd2 ?ca2 ?cm2 ?ai2 ?ti2 ?sb2 ?li2 ?ci2 ?dt2 ?acB ?exB ?hdB ?tyB ?scn ?sct ?kt0_0 ?kt0_1 ?kt0_2 ?kt1_0 ?kt1_1 ?kt1_2 ?kt2_0 ?kt2_1 ?kt2_2
      (case n0 => k_is); (case l0 => k_is); (case c0 => k_is); (case k0 => k_is); (case n1 => k_is); (case l1 => k_is); (case c1 => k_is); (case k1 => k_is); (case t1 => k_is); (case n2 => k_is); (case l2 => k_is); (case c2 => k_is); (case k2 => k_is); (case n3 => k_is); (case l3 => k_is); (case c3 => k_is); (case k3 => k_is); (case n4 => k_is); (case l4 => k_is); (case c4 => k_is); (case k4 => k_is); (case n5 => k_is); (case l5 => k_is); (case c5 => k_is); (case k5 => k_is); (case n6 => k_is); (case l6 => k_is); (case c6 => k_is); (case k6 => k_is); (case n7 => k_is); (case l7 => k_is); (case c7 => k_is); (case k7 => k_is); (case n8 => k_is); (case l8 => k_is); (case c8 => k_is); (case k8 => k_is); (case n9 => k_is); (case l9 => k_is); (case c9 => k_is); (case k9 => k_is); (case n10 => k_is); (case l10 => k_is); (case c10 => k_is); (case k10 => k_is); (case n11 => k_is); (case l11 => k_is); (case c11 => k_is); (case k11 => k_is); (case n12 => k_is); (case l12 => k_is); (case c12 => k_is); (case k12 => k_is); (case n13 => k_is); (case l13 => k_is); (case c13 => k_is); (case k13 => k_is); (case n14 => k_is); (case l14 => k_is); (case c14 => k_is); (case k14 => k_is); (case n15 => k_is); (case l15 => k_is); (case c15 => k_is); (case k15 => k_is); (case n16 => k_is); (case l16 => k_is); (case c16 => k_is); (case k16 => k_is); (case n17 => k_is); (case l17 => k_is); (case c17 => k_is); (case k17 => k_is); (case n18 => k_is); (case l18 => k_is); (case c18 => k_is); (case k18 => k_is); (case n19 => k_is); (case l19 => k_is); (case c19 => k_is); (case k19 => k_is); (case n20 => k_is); (case l20 => k_is); (case c20 => k_is); (case k20 => k_is); (case n21 => k_is); (case l21 => k_is); (case c21 => k_is); (case k21 => k_is); (case n22 => k_is); (case l22 => k_is); (case c22 => k_is); (case k22 => k_is); (case n23 => k_is); (case l23 => k_is); (case c23 => k_is); (case k23 => k_is); (case z_isinstance => k_is); (case z_int => k_is); (case z_bool => k_is); (case z_tuple => k_is); (case z_list => k_is); (case z_dict => k_is); (case z_str => k_is); (case z_len => k_is); (case z_abs => k_is); (case z_max => k_is); (case z_min => k_is); (case z_sum => k_is); (case z_all => k_is); (case z_any => k_is); (case z_range => k_is); (case z_zip => k_is); (case z_sorted => k_is); (case z_reversed => k_is); (case acB => k_is); (case ac0 => k_is); (case xl0 => k_is); (case rv0 => first | rfl | k_is); (case sa0 => k_is); (case ga0 => k_is); (case gg0 => k_is); (case nb0 => k_is); (case kc0 => k_is); (case ex0 => k_is); (case ty0 => k_is); (case hd0 => k_is); (case ca0 => k_is); (case cm0 => k_is); (case ai0 => k_is); (case ti0 => k_is); (case sb0 => first | rfl | k_is); (case li0 => k_is); (case ci0 => k_is); (case dt0 => k_is); (case ac1 => k_is); (case xl1 => k_is); (case rv1 => first | rfl | k_is); (case sa1 => k_is); (case ga1 => k_is); (case gg1 => k_is); (case nb1 => k_is); (case kc1 => k_is); (case ex1 => k_is); (case ty1 => k_is); (case hd1 => k_is); (case ca1 => k_is); (case cm1 => k_is); (case ai1 => k_is); (case ti1 => k_is); (case sb1 => first | rfl | k_is); (case li1 => k_is); (case ci1 => k_is); (case dt1 => k_is); (case ac2 => k_is); (case xl2 => k_is); (case rv2 => first | rfl | k_is); (case sa2 => k_is); (case ga2 => k_is); (case gg2 => k_is); (case nb2 => k_is); (case kc2 => k_is); (case ex2 => k_is); (case ty2 => k_is); (case hd2 => k_is); (case ca2 => k_is); (case cm2 => k_is); (case ai2 => k_is); (case ti2 => k_is); (case sb2 => first | rfl | k_is); (case li2 => k_is); (case ci2 => k_is); (case dt2 => k_is); (case exB => k_is); (case hdB => k_is); (case tyB => k_is); (case scn => k_is); (case sct => k_is); (case kt0_0 => first | rfl | k_is); (case kt0_1 => first | rfl | k_is); (case kt0_2 => first | rfl | k_is); (case kt1_0 => first | rfl | k_is); (case kt1_1 => first | rfl | k_is); (case kt1_2 => first | rfl | k_is); (case kt2_0 => first | rfl | k_is); (case kt2_1 => first | rfl | k_is); (case kt2_2 => first | rfl | k_is)
