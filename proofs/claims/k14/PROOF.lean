import PyProof.Rows.All
import Wide.All
import OpenK.AllK
import Wide.FinOn
import PySem.Challenge.RW_anywaybuilt_k14_errors_of_rows
import HandS.ForMost
import HandS.ForExc
import HandS.TryMany
import HandS.Flow
import HandS.Wide
import HandS.WideBits
import HandS.ExcSuper
import HandS.CallSlots
import HandS.Lambda
import HandS.Walk
import HandS.TupAny
import HandS.TupMul
import HandS.Style
import HandS.Conv
import HandS.Deep
import HandS.IsInst
import HandS.RaiseMore
import HandS.Small
import KE.DataAny
import KE.SortData
import KE.DataMinMax
import PyProof.ReprRoads
import HandS.Zip
import KE.GoesNew
import HandS.SetFor
import HandS.Strs
import HandS.SortKw
import KE.SortKeyHeap
import HandS.Ends
import HandS.Dict
import HandS.DictComp
import HandS.Iter
import HandS.ListItems
import HandS.Star
import KE.KExcSuper
import KE.KExcInit
import KE.KExcMake
import KE.KSuper
import PyProof.FString
import PyProof.FString4
import HandS.ExcOwn
import HandS.ExcInit
import HandS.ExcField
import HandS.EndTab
import KE.KNestM
import PyProof.ExcBaseAll.ValueError
import PyProof.ExcBaseAll.IndexError
set_option Elab.async false
set_option linter.all false
set_option maxRecDepth 100000
set_option maxHeartbeats 4000000
namespace DL
open PySem PySem.Spec PyProof.Rows L2
abbrev Sg := L2.St
/-- what one run of a law knows: the tables of code objects that grow, each with the name of the one lambda made there; the module's names -/
class DLX where
  T : List (Addr × Str)
  mg : Str → Option Value
variable [DLX]
/-! ### 1. Data, states, results -/
/-- a value as plain data: trees; ref n: the n-th shared cell; own i: the thing that slot i owns; adr a: a written thing -/
inductive D where
  | non | bl (b : Bool) | int (i : Int) | str (x : Str) | adr (a : Addr) | fn (x : Str) | ty (n : String) | ref (n : Nat) | own (i : Nat)
  | tup (xs : List D) | lst (xs : List D) | dct (kvs : List (D × D)) | obj (C : Addr) (fs : List (Str × D))
/-- a thing that may change -/
inductive Cell where
  | lst (xs : List D) | dct (kvs : List (D × D)) | ins (C : Addr) (fs : List (Str × D)) | tab (n : Nat) | dead
inductive Slot where
  | no | val (d : D) | own (c : Cell)
structure S where
  δ : List Slot
  μ : List Cell
/-- an exception: its class's name, its fields (where it has a dict of its own) -/
structure EX where
  cls : Str
  fs : Option (List (Str × D))
inductive Res (α : Type) where
  | ok (a : α) (s : S) | exc (e : EX) (s : S) | bad
inductive SR where
  | nx (s : S) | rt (d : D) (s : S) | rtc (c : Cell) (s : S) | bk (s : S) | ct (s : S) | exc (e : EX) (s : S) | bad
inductive CR where
  | ok (d : D) (μ : List Cell) | okc (c : Cell) (μ : List Cell) | exc (e : EX) (μ : List Cell) | bad
@[inline] def Res.bind {α β : Type} (r : Res α) (f : α → S → Res β) : Res β := match r with
  | .ok a s => f a s
  | .exc e s => .exc e s
  | .bad => .bad
abbrev FE := S → Res D
abbrev FT := S → Res Bool
abbrev FC := S → Res Cell
abbrev FA := S → Res (List D)
abbrev FS := S → SR
abbrev FF := List D → List Cell → CR
def Cell.toD : Cell → D
  | .lst xs => .lst xs
  | .dct kvs => .dct kvs
  | .ins C fs => .obj C fs
  | .tab _ => .non
  | .dead => .non
def keyD : D → Option Key
  | .int i => some (.inl i)
  | .str x => some (.inr x)
  | _ => none
def keyT : D → Option (List Key)
  | .tup ds => ds.mapM keyD
  | _ => none

/-! ### 2. Data in the abstract heap -/
def Fixed : HO → Prop
  | .tup _ => True
  | .frz _ _ => True
  | .ext _ => True
  | _ => False
/-- a list that stands still -/
def SqF (K : PySem.W.Frag) (H : Hp) (a : Addr) (xs : List V) : Prop :=
  (∃ o, H a = some (.frz o (.lst xs))) ∨
    ∃ (o : Obj) (its : Array Value) (n : Nat), K.lookup a = some o ∧ o.cls = .type "list" ∧ o.dict = none ∧ o.data = .seq its n ∧ its.size ≤ sizeLine ∧ Vals xs its.toList
theorem SqF.sq {K : PySem.W.Frag} {H : Hp} {a : Addr} {xs : List V} (h : SqF K H a xs) : SqL K H a xs := h.elim (fun ⟨o, q⟩ => .inl (.inr ⟨o, q⟩)) .inr
section
variable (K : PySem.W.Frag) (H : Hp) (α : List Addr)
mutual
def Rv : D → V → Prop
  | .non, v => v = .non
  | .bl b, v => v = .bl b
  | .int i, v => v = .int i
  | .str x, v => v = .str x
  | .adr a, v => v = .ref a
  | .fn x, v => ∃ a, DLX.mg x = some (.ref a) ∧ v = .ref a
  | .ty n, v => v = .ty n
  | .ref n, v => ∃ a, α[n]? = some a ∧ v = .ref a
  | .own _, _ => False
  | .tup ds, v => ∃ a vs, v = .ref a ∧ SqT K H a vs ∧ Rvs ds vs
  | .lst ds, v => ∃ a vs, v = .ref a ∧ SqF K H a vs ∧ Rvs ds vs
  | .dct kvs, v => ∃ a o, v = .ref a ∧ ((∃ kv, H a = some (.frz o (.dK kv)) ∧ Rkv kvs kv) ∨ ∃ kv, kvs ≠ [] ∧ H a = some (.frz o (.dT kv)) ∧ RkT kvs kv)
  | .obj C fs, v => ∃ a o dx vs, v = .ref a ∧ H a = some (.frz o (.ins C dx vs)) ∧ Rfs fs vs
def Rvs : List D → List V → Prop
  | [], l => l = []
  | d :: ds, l => ∃ v r, l = v :: r ∧ Rv d v ∧ Rvs ds r
def Rkv : List (D × D) → List (Key × V) → Prop
  | [], l => l = []
  | (k, d) :: ds, l => ∃ q v r, l = (q, v) :: r ∧ keyD k = some q ∧ Rv d v ∧ Rkv ds r
def RkT : List (D × D) → List (List Key × V) → Prop
  | [], l => l = []
  | (k, d) :: ds, l => ∃ q v r, l = (q, v) :: r ∧ keyT k = some q ∧ Rv d v ∧ RkT ds r
def Rfs : List (Str × D) → List (Str × V) → Prop
  | [], l => l = []
  | (k, d) :: ds, l => ∃ v r, l = (k, v) :: r ∧ Rv d v ∧ Rfs ds r
end
def CellOk (a : Addr) : Cell → Prop
  | .lst xs => ∃ vs, H a = some (.lst vs) ∧ Rvs K H α xs vs
  | .dct kvs => (∃ kv, H a = some (.dK kv) ∧ Rkv K H α kvs kv) ∨ ∃ kv, kvs ≠ [] ∧ H a = some (.dT kv) ∧ RkT K H α kvs kv
  | .ins C fs => ∃ dx vs, H a = some (.ins C dx vs) ∧ Rfs K H α fs vs
  | .tab n => ∃ q, DLX.T[n]? = some (a, q) ∧ LamX.TabS H a q
  | .dead => ∃ o, H a = some o
/-- the shared cells -/
structure RelC (μ : List Cell) : Prop where
  len : α.length = μ.length
  nd : α.Nodup
  at_ : ∀ (n : Nat) (a : Addr) (c : Cell), α[n]? = some a → μ[n]? = some c → CellOk K H α a c
/-- the slots; H0: the heap at the def's entry -/
structure RelS (H0 : Hp) (σ : Sg) (δ : List Slot) : Prop where
  len : σ.length = δ.length
  val : ∀ (i : Nat) (d : D), δ[i]? = some (.val d) → ∃ v, σ[i]? = some (some v) ∧ Rv K H α d v
  own : ∀ (i : Nat) (c : Cell), δ[i]? = some (.own c) → ∃ a, σ[i]? = some (some (.ref a)) ∧ a ∉ α ∧ H0 a = none ∧ CellOk K H α a c
  inj : ∀ (i j : Nat) (c c' : Cell) (a : Addr), δ[i]? = some (.own c) → δ[j]? = some (.own c') → σ[i]? = some (some (.ref a)) → σ[j]? = some (some (.ref a)) → i = j
end
structure Stay (H : Hp) (α : List Addr) (H' : Hp) (α' : List Addr) : Prop where
  im : ∀ a o, H a = some o → Fixed o → H' a = some o
  pre : α <+: α'
  dom : ∀ a, H' a = none → H a = none
theorem Stay.refl (H : Hp) (α : List Addr) : Stay H α H α := ⟨fun _ _ h _ => h, List.prefix_rfl, fun _ h => h⟩
theorem Stay.trans {H H1 H2 : Hp} {α α1 α2 : List Addr} (a : Stay H α H1 α1) (b : Stay H1 α1 H2 α2) : Stay H α H2 α2 :=
  ⟨fun c o h f => b.im c o (a.im c o h f) f, a.pre.trans b.pre, fun c h => a.dom c (b.dom c h)⟩
theorem pre_get {α α' : List Addr} (p : α <+: α') {n : Nat} {a : Addr} (h : α[n]? = some a) : α'[n]? = some a := by
  obtain ⟨t, rfl⟩ := p
  rw [List.getElem?_append_left (List.getElem?_eq_some_iff.mp h).1]
  exact h
section
variable {K : PySem.W.Frag} {H H' : Hp} {α α' : List Addr}
theorem Stay.rd {a : Addr} {u : HO} (s : Stay H α H' α') (hu : Fixed u) (h : Rd H a u) : Rd H' a u := by
  rcases h with h | ⟨o, h⟩
  · exact .inl (s.im _ _ h hu)
  · exact .inr ⟨o, s.im _ _ h trivial⟩
theorem Stay.sqT {a : Addr} {xs : List V} (s : Stay H α H' α') (h : SqT K H a xs) : SqT K H' a xs := h.elim (fun q => .inl (s.rd trivial q)) .inr
theorem Stay.sqF {a : Addr} {xs : List V} (s : Stay H α H' α') (h : SqF K H a xs) : SqF K H' a xs := h.elim (fun ⟨o, q⟩ => .inl ⟨o, s.im _ _ q trivial⟩) .inr
mutual
theorem Rv.stay (s : Stay H α H' α') : ∀ (d : D) (v : V), Rv K H α d v → Rv K H' α' d v
  | .non, _, h => by simpa only [Rv] using h
  | .bl _, _, h => by simpa only [Rv] using h
  | .int _, _, h => by simpa only [Rv] using h
  | .str _, _, h => by simpa only [Rv] using h
  | .adr _, _, h => by simpa only [Rv] using h
  | .fn _, _, h => by simpa only [Rv] using h
  | .ty _, _, h => by simpa only [Rv] using h
  | .own _, _, h => by simp only [Rv] at h
  | .ref n, v, h => by
    simp only [Rv] at h ⊢
    obtain ⟨a, e, q⟩ := h
    exact ⟨a, pre_get s.pre e, q⟩
  | .tup ds, v, h => by
    simp only [Rv] at h ⊢
    obtain ⟨a, vs, e, q, r⟩ := h
    exact ⟨a, vs, e, s.sqT q, Rvs.stay s ds vs r⟩
  | .lst ds, v, h => by
    simp only [Rv] at h ⊢
    obtain ⟨a, vs, e, q, r⟩ := h
    exact ⟨a, vs, e, s.sqF q, Rvs.stay s ds vs r⟩
  | .dct kvs, v, h => by
    simp only [Rv] at h ⊢
    obtain ⟨a, o, e, ⟨kv, q, r⟩ | ⟨kv, n, q, r⟩⟩ := h
    · exact ⟨a, o, e, .inl ⟨kv, s.im _ _ q trivial, Rkv.stay s kvs kv r⟩⟩
    · exact ⟨a, o, e, .inr ⟨kv, n, s.im _ _ q trivial, RkT.stay s kvs kv r⟩⟩
  | .obj C fs, v, h => by
    simp only [Rv] at h ⊢
    obtain ⟨a, o, dx, vs, e, q, r⟩ := h
    exact ⟨a, o, dx, vs, e, s.im _ _ q trivial, Rfs.stay s fs vs r⟩
theorem Rvs.stay (s : Stay H α H' α') : ∀ (ds : List D) (vs : List V), Rvs K H α ds vs → Rvs K H' α' ds vs
  | [], _, h => by simpa only [Rvs] using h
  | d :: ds, l, h => by
    simp only [Rvs] at h ⊢
    obtain ⟨v, r, e, h1, h2⟩ := h
    exact ⟨v, r, e, Rv.stay s d v h1, Rvs.stay s ds r h2⟩
theorem Rkv.stay (s : Stay H α H' α') : ∀ (ds : List (D × D)) (vs : List (Key × V)), Rkv K H α ds vs → Rkv K H' α' ds vs
  | [], _, h => by simpa only [Rkv] using h
  | (k, d) :: ds, l, h => by
    simp only [Rkv] at h ⊢
    obtain ⟨q, v, r, e, h0, h1, h2⟩ := h
    exact ⟨q, v, r, e, h0, Rv.stay s d v h1, Rkv.stay s ds r h2⟩
theorem RkT.stay (s : Stay H α H' α') : ∀ (ds : List (D × D)) (vs : List (List Key × V)), RkT K H α ds vs → RkT K H' α' ds vs
  | [], _, h => by simpa only [RkT] using h
  | (k, d) :: ds, l, h => by
    simp only [RkT] at h ⊢
    obtain ⟨q, v, r, e, h0, h1, h2⟩ := h
    exact ⟨q, v, r, e, h0, Rv.stay s d v h1, RkT.stay s ds r h2⟩
theorem Rfs.stay (s : Stay H α H' α') : ∀ (ds : List (Str × D)) (vs : List (Str × V)), Rfs K H α ds vs → Rfs K H' α' ds vs
  | [], _, h => by simpa only [Rfs] using h
  | (k, d) :: ds, l, h => by
    simp only [Rfs] at h ⊢
    obtain ⟨v, r, e, h1, h2⟩ := h
    exact ⟨v, r, e, Rv.stay s d v h1, Rfs.stay s ds r h2⟩
end
/-- a cell whose object stands as it was -/
theorem CellOk.stay {a : Addr} (s : Stay H α H' α') (e : ∀ o, H a = some o → ¬ Fixed o → H' a = some o) : ∀ c : Cell, CellOk K H α a c → CellOk K H' α' a c
  | .lst xs, ⟨vs, h, r⟩ => ⟨vs, e _ h (fun z => z), Rvs.stay s xs vs r⟩
  | .dct kvs, h => by
    rcases h with ⟨kv, h, r⟩ | ⟨kv, n, h, r⟩
    · exact .inl ⟨kv, e _ h (fun z => z), Rkv.stay s kvs kv r⟩
    · exact .inr ⟨kv, n, e _ h (fun z => z), RkT.stay s kvs kv r⟩
  | .ins C fs, ⟨dx, vs, h, r⟩ => ⟨dx, vs, e _ h (fun z => z), Rfs.stay s fs vs r⟩
  | .tab n, ⟨q, t, ps, h, k, z⟩ => ⟨q, t, ps, e _ h (fun z => z), k, fun pos cv hc => by
    obtain ⟨c, e1, e2⟩ := z pos cv hc
    exact ⟨c, e1, s.im _ _ e2 trivial⟩⟩
  | .dead, ⟨o, h⟩ => by
    cases q : H' a with
    | none => rw [s.dom a q] at h; cases h
    | some u => exact ⟨u, q⟩
theorem Rvs.length : ∀ {ds : List D} {vs : List V}, Rvs K H α ds vs → vs.length = ds.length
  | [], _, h => by simp only [Rvs] at h; rw [h]; rfl
  | d :: ds, l, h => by
    simp only [Rvs] at h
    obtain ⟨v, r, rfl, h1, h2⟩ := h
    simp only [List.length_cons, Rvs.length h2]
theorem Rvs.at_ : ∀ {ds : List D} {vs : List V} {i : Nat} {d : D}, Rvs K H α ds vs → ds[i]? = some d → ∃ v, vs[i]? = some v ∧ Rv K H α d v
  | [], _, _, _, _, e => by simp at e
  | d :: ds, l, i, x, h, e => by
    simp only [Rvs] at h
    obtain ⟨v, r, rfl, h1, h2⟩ := h
    cases i with
    | zero => simp at e; subst e; exact ⟨v, rfl, h1⟩
    | succ i =>
      obtain ⟨w, q, z⟩ := Rvs.at_ (i := i) (d := x) h2 (by simpa using e)
      exact ⟨w, by simpa using q, z⟩
theorem Rvs.at' : ∀ {ds : List D} {vs : List V} {i : Nat} {v : V}, Rvs K H α ds vs → vs[i]? = some v → ∃ d, ds[i]? = some d ∧ Rv K H α d v
  | [], _, _, _, h, e => by simp only [Rvs] at h; subst h; simp at e
  | d :: ds, l, i, x, h, e => by
    simp only [Rvs] at h
    obtain ⟨v, r, rfl, h1, h2⟩ := h
    cases i with
    | zero => simp at e; subst e; exact ⟨d, rfl, h1⟩
    | succ i =>
      obtain ⟨w, q, z⟩ := Rvs.at' (i := i) (v := x) h2 (by simpa using e)
      exact ⟨w, by simpa using q, z⟩
theorem Rvs.append : ∀ {ds es : List D} {vs us : List V}, Rvs K H α ds vs → Rvs K H α es us → Rvs K H α (ds ++ es) (vs ++ us)
  | [], es, _, us, h, q => by simp only [Rvs] at h; subst h; exact q
  | d :: ds, es, l, us, h, q => by
    simp only [Rvs] at h
    obtain ⟨v, r, rfl, h1, h2⟩ := h
    simp only [List.cons_append, Rvs]
    exact ⟨v, r ++ us, rfl, h1, Rvs.append h2 q⟩
theorem Rvs.single {d : D} {v : V} (h : Rv K H α d v) : Rvs K H α [d] [v] := by
  simp only [Rvs]
  exact ⟨v, [], rfl, h, rfl⟩
theorem Rvs.cons {d : D} {v : V} {ds : List D} {vs : List V} (h : Rv K H α d v) (q : Rvs K H α ds vs) : Rvs K H α (d :: ds) (v :: vs) := by
  simp only [Rvs]
  exact ⟨v, vs, rfl, h, q⟩
theorem Rvs.nil : Rvs K H α [] [] := by simp only [Rvs]
theorem Rvs.set {d : D} {v : V} (h : Rv K H α d v) : ∀ {ds : List D} {vs : List V} (i : Nat), Rvs K H α ds vs → Rvs K H α (ds.set i d) (vs.set i v)
  | [], _, _, q => by simp only [Rvs] at q; subst q; exact Rvs.nil
  | e :: ds, l, i, q => by
    simp only [Rvs] at q
    obtain ⟨w, r, rfl, h1, h2⟩ := q
    cases i with
    | zero => exact Rvs.cons h h2
    | succ i => exact Rvs.cons h1 (Rvs.set h i h2)
theorem Rvs.take : ∀ {ds : List D} {vs : List V} (n : Nat), Rvs K H α ds vs → Rvs K H α (ds.take n) (vs.take n)
  | [], _, _, q => by simp only [Rvs] at q; subst q; simp [Rvs]
  | e :: ds, l, n, q => by
    simp only [Rvs] at q
    obtain ⟨w, r, rfl, h1, h2⟩ := q
    cases n with
    | zero => exact Rvs.nil
    | succ n => exact Rvs.cons h1 (Rvs.take n h2)
theorem Rvs.drop : ∀ {ds : List D} {vs : List V} (n : Nat), Rvs K H α ds vs → Rvs K H α (ds.drop n) (vs.drop n)
  | [], _, _, q => by simp only [Rvs] at q; subst q; simp [Rvs]
  | e :: ds, l, n, q => by
    simp only [Rvs] at q
    obtain ⟨w, r, rfl, h1, h2⟩ := q
    cases n with
    | zero => exact Rvs.cons h1 h2
    | succ n => exact Rvs.drop n h2
end
end DL

namespace DL
open PySem PySem.Spec PyProof.Rows L2
variable [DLX]
/-! ### 3. The relation of a state to the machine -/
structure Rel (K : PySem.W.Frag) (H0 : Hp) (α0 : List Addr) (H : Hp) (α : List Addr) (σ : Sg) (s : S) : Prop where
  cells : RelC K H α s.μ
  slots : RelS K H α H0 σ s.δ
  ot : ∀ a o, H0 a = some o → a ∉ α0 → H a = some o
  nw : ∀ a ∈ α, a ∈ α0 ∨ H0 a = none
  st : Stay H0 α0 H α
def ExR (K : PySem.W.Frag) (H : Hp) (α : List Addr) (e : EX) (cls : Value) (dd : Option Addr) : Prop :=
  DLX.mg e.cls = some cls ∧ ∀ fs, e.fs = some fs → ∃ a vs, dd = some a ∧ H a = some (.xd vs) ∧ Rfs K H α fs vs
/-- a value on the way: data, or the thing of a slot -/
def Rx (K : PySem.W.Frag) (H : Hp) (α : List Addr) (σ : Sg) (d : D) (v : V) : Prop :=
  match d with
  | .own i => σ[i]? = some (some v)
  | d => Rv K H α d v
def Rxs (K : PySem.W.Frag) (H : Hp) (α : List Addr) (σ : Sg) (ds : List D) (vs : List V) : Prop := Paired (Rx K H α σ) ds vs
section
variable {K : PySem.W.Frag} {H0 H H' : Hp} {α0 α α' : List Addr} {σ : Sg} {s s' : S}
theorem Rv.x {d : D} {v : V} (h : Rv K H α d v) : Rx K H α σ d v := by
  cases d <;> first | exact h | (simp only [Rv] at h)
theorem Rx.stay (t : Stay H α H' α') {d : D} {v : V} (h : Rx K H α σ d v) : Rx K H' α' σ d v := by
  cases d <;> first | exact h | exact Rv.stay t _ _ h
theorem Rx.rv {d : D} {v : V} (h : Rx K H α σ d v) (n : ∀ i, d ≠ .own i) : Rv K H α d v := by
  cases d <;> first | exact h | exact absurd rfl (n _)
end
/-! ### 4. What is wanted of a result -/
def PostE (K : PySem.W.Frag) (H0 : Hp) (α0 : List Addr) (σ : Sg) (W : WX) (H : Hp) (α : List Addr) (Q : VK) : Res D → Prop
  | .ok d s' => ∀ v H' α', Rel K H0 α0 H' α' σ s' → Stay H α H' α' → Rx K H' α' σ d v → Q v H'
  | .exc e s' => ∀ cls dd H' α', Rel K H0 α0 H' α' σ s' → ExR K H' α' e cls dd → W cls dd σ H'
  | .bad => False
def PostT (K : PySem.W.Frag) (H0 : Hp) (α0 : List Addr) (σ : Sg) (W : WX) (H : Hp) (α : List Addr) (Q : Bool → Hp → Prop) : Res Bool → Prop
  | .ok b s' => ∀ H' α', Rel K H0 α0 H' α' σ s' → Stay H α H' α' → Q b H'
  | .exc e s' => ∀ cls dd H' α', Rel K H0 α0 H' α' σ s' → ExR K H' α' e cls dd → W cls dd σ H'
  | .bad => False
def PostA (K : PySem.W.Frag) (H0 : Hp) (α0 : List Addr) (σ : Sg) (W : WX) (H : Hp) (α : List Addr) (Q : List V → Hp → Prop) : Res (List D) → Prop
  | .ok ds s' => ∀ vs H' α', Rel K H0 α0 H' α' σ s' → Stay H α H' α' → Rxs K H' α' σ ds vs → Q vs H'
  | .exc e s' => ∀ cls dd H' α', Rel K H0 α0 H' α' σ s' → ExR K H' α' e cls dd → W cls dd σ H'
  | .bad => False
/-- a fresh thing at a: nobody else knows it -/
def RF (K : PySem.W.Frag) (H0 : Hp) (H : Hp) (α : List Addr) (σ : Sg) (s : S) (a : Addr) (c : Cell) : Prop :=
  CellOk K H α a c ∧ a ∉ α ∧ H0 a = none ∧ ∀ (i : Nat) (c' : Cell), s.δ[i]? = some (.own c') → σ[i]? ≠ some (some (.ref a))
def PostF (K : PySem.W.Frag) (H0 : Hp) (α0 : List Addr) (σ : Sg) (W : WX) (H : Hp) (α : List Addr) (Q : VK) : Res Cell → Prop
  | .ok c s' => ∀ a H' α', Rel K H0 α0 H' α' σ s' → Stay H α H' α' → RF K H0 H' α' σ s' a c → Q (.ref a) H'
  | .exc e s' => ∀ cls dd H' α', Rel K H0 α0 H' α' σ s' → ExR K H' α' e cls dd → W cls dd σ H'
  | .bad => False
def PostS (K : PySem.W.Frag) (H0 : Hp) (α0 : List Addr) (W : WX) (H : Hp) (α : List Addr) (D : Ends) : SR → Prop
  | .nx s' => ∀ σ' H' α', Rel K H0 α0 H' α' σ' s' → Stay H α H' α' → D.nx σ' H'
  | .bk s' => ∀ σ' H' α', Rel K H0 α0 H' α' σ' s' → Stay H α H' α' → D.bk σ' H'
  | .ct s' => ∀ σ' H' α', Rel K H0 α0 H' α' σ' s' → Stay H α H' α' → D.ct σ' H'
  | .rt d s' => ∀ v σ' H' α', Rel K H0 α0 H' α' σ' s' → Rv K H' α' d v → D.rt v H'
  | .rtc c s' => ∀ a σ' H' α', Rel K H0 α0 H' α' σ' s' → RF K H0 H' α' σ' s' a c → D.rt (.ref a) H'
  | .exc e s' => ∀ cls dd σ' H' α', Rel K H0 α0 H' α' σ' s' → ExR K H' α' e cls dd → W cls dd σ' H'
  | .bad => False
/-! ### 5. The judgements -/
structure PED (X : Cx) (e : Expr) (f : FE) : Prop where
  run : ∀ W, Takes X W → ∃ t, PE X e t ∧ ∀ H0 α0 σ H α s Q, Rel X.K H0 α0 H α σ s → PostE X.K H0 α0 σ W H α Q (f s) → t σ H Q
structure PTD (X : Cx) (e : Expr) (f : FT) : Prop where
  run : ∀ W, Takes X W → ∃ t, PT X e t ∧ ∀ H0 α0 σ H α s Q, Rel X.K H0 α0 H α σ s → PostT X.K H0 α0 σ W H α Q (f s) → t σ H Q
structure PAD (X : Cx) (es : List Expr) (f : FA) : Prop where
  run : ∀ W, Takes X W → ∃ t, PA X es t ∧ ∀ H0 α0 σ H α s Q, Rel X.K H0 α0 H α σ s → PostA X.K H0 α0 σ W H α Q (f s) → t σ H Q
structure PFD (X : Cx) (e : Expr) (f : FC) : Prop where
  run : ∀ W, Takes X W → ∃ t, PE X e t ∧ ∀ H0 α0 σ H α s Q, Rel X.K H0 α0 H α σ s → PostF X.K H0 α0 σ W H α Q (f s) → t σ H Q
structure PSD (X : Cx) (st : Stmt) (f : FS) : Prop where
  run : ∀ W, Takes X W → ∃ t, PS X st t ∧ ∀ H0 α0 σ H α s D, Rel X.K H0 α0 H α σ s → PostS X.K H0 α0 W H α D (f s) → t D σ H
structure PSsD (X : Cx) (st : List Stmt) (f : FS) : Prop where
  run : ∀ W, Takes X W → ∃ t, PSs X st t ∧ ∀ H0 α0 σ H α s D, Rel X.K H0 α0 H α σ s → PostS X.K H0 α0 W H α D (f s) → t D σ H

/-! ### 6. Steps of the heap -/
section
variable {K : PySem.W.Frag} {H0 H H' : Hp} {α0 α α' : List Addr} {σ : Sg} {s : S}
theorem CellOk.some {a : Addr} : ∀ {c : Cell}, CellOk K H α a c → ∃ o, H a = some o
  | .lst _, ⟨_, h, _⟩ => ⟨_, h⟩
  | .dct _, h => h.elim (fun ⟨_, q, _⟩ => ⟨_, q⟩) (fun ⟨_, _, q, _⟩ => ⟨_, q⟩)
  | .tab _, ⟨_, _, _, q, _⟩ => ⟨_, q⟩
  | .ins _ _, ⟨_, _, h, _⟩ => ⟨_, h⟩
  | .dead, h => h
theorem RelC.some {μ : List Cell} (r : RelC K H α μ) {a : Addr} (h : a ∈ α) : ∃ o, H a = some o := by
  obtain ⟨n, e⟩ := List.mem_iff_getElem?.mp h
  have hn := (List.getElem?_eq_some_iff.mp e).1
  rw [r.len] at hn
  exact (r.at_ n a _ e (List.getElem?_eq_getElem hn)).some
theorem Stay.upd_new {p : Addr} {o : HO} (h : H p = none) : Stay H α (upd H p o) α :=
  ⟨fun a u e _ => by rw [upd_ne (ne_of_none e h)]; exact e, List.prefix_rfl, fun a e => by
    by_cases q : a = p
    · subst q; exact h
    · rw [upd_ne q] at e; exact e⟩
/-- an untracked place is fresh to all -/
theorem Rel.free0 (r : Rel K H0 α0 H α σ s) {p : Addr} (h : H p = none) : H0 p = none := r.st.dom p h
theorem Rel.nota (r : Rel K H0 α0 H α σ s) {p : Addr} (h : H p = none) : p ∉ α := fun z => by
  obtain ⟨o, e⟩ := r.cells.some z
  rw [h] at e; cases e
/-- any step that leaves what is shared, what is owned and the callers' things as they were -/
theorem Rel.step (r : Rel K H0 α0 H α σ s) (t : Stay H α H' α)
    (k : ∀ a o, H a = some o → ¬ Fixed o → (a ∈ α ∨ ∃ (i : Nat) (c : Cell), s.δ[i]? = some (.own c) ∧ σ[i]? = some (some (.ref a))) → H' a = some o) (k0 : ∀ a o, H0 a = some o → a ∉ α0 → H a = some o → H' a = some o) : Rel K H0 α0 H' α σ s := by
  refine ⟨⟨r.cells.len, r.cells.nd, fun n a c h1 h2 => ?_⟩, ⟨r.slots.len, fun i d h => ?_, fun i c h => ?_, r.slots.inj⟩, fun a o h1 h2 => k0 a o h1 h2 (r.ot a o h1 h2), r.nw, r.st.trans t⟩
  · exact (r.cells.at_ n a c h1 h2).stay t (fun o e nf => k a o e nf (.inl (List.mem_of_getElem? h1)))
  · obtain ⟨v, e, q⟩ := r.slots.val i d h
    exact ⟨v, e, Rv.stay t d v q⟩
  · obtain ⟨a, e, na, n0, q⟩ := r.slots.own i c h
    exact ⟨a, e, na, n0, q.stay t (fun o e' nf => k a o e' nf (.inr ⟨i, c, h, e⟩))⟩
/-- a new thing -/
theorem Rel.new (r : Rel K H0 α0 H α σ s) {p : Addr} {o : HO} (h : H p = none) : Rel K H0 α0 (upd H p o) α σ s :=
  r.step (Stay.upd_new h) (fun a u e _ _ => by rw [upd_ne (ne_of_none e h)]; exact e) (fun a u _ _ e => by rw [upd_ne (ne_of_none e h)]; exact e)
end
theorem Takes.none {X : Cx} : Takes X (fun _ _ _ _ => False) := takes0
end DL

namespace DL
open PySem PySem.Spec PyProof.Rows L2
variable [DLX]
/-! ### 7. The ghost step: a thing is locked for good -/
def Gh (H : Hp) (Q : Hp → Prop) : Prop := Q H ∨ ∃ a u, H a = some u ∧ Mut (some u) ∧ ∀ o, Q (upd H a (.frz o u))
theorem Inv.gh {X : Cx} {pins : List (Addr × Obj)} {σ : Sg} {H : Hp} {s : Shared} {Q : Hp → Prop} (I : Inv X pins σ H s) (g : Gh H Q) : ∃ H', Inv X pins σ H' s ∧ Q H' := by
  rcases g with q | ⟨a, u, h, m, q⟩
  · exact ⟨H, I, q⟩
  · obtain ⟨o, J⟩ := I.lock h m
    exact ⟨_, J, q o⟩
theorem EP.gh {X : Cx} {pins : List (Addr × Obj)} {σ : Sg} {Q : VK} {u : Value} {s : Shared} (h : EP X pins σ (fun v H1 => Gh H1 (Q v)) u s) : EP X pins σ Q u s := by
  obtain ⟨v, H, I, r, g⟩ := h
  obtain ⟨H', J, q⟩ := DL.Inv.gh I g
  exact ⟨v, H', J, r, q⟩
theorem opGh {X : Cx} {f : Value → Value → Sem Value} {r : R2} (h : OpR X f r) : OpR X f (fun x y H Q => r x y H fun v H1 => Gh H1 (Q v)) :=
  fun pins s σ H x y v u Q I rx ry q => thn (h pins s σ H x y v u _ I rx ry q) fun _ _ e => EP.gh e
theorem peGh {X : Cx} {e : Expr} {t : TE} (h : PE X e t) : PE X e (fun σ H Q => t σ H fun v H1 => Gh H1 (Q v)) :=
  ⟨fun pins s σ H Q I q => thn (h.run pins s σ H _ I q) fun _ _ e => EP.gh e⟩
theorem callGh {X : Cx} {f : Value} {r : List V → Hp → VK → Prop} (h : CallR X f r) : CallR X f (fun xs H Q => r xs H fun v H1 => Gh H1 (Q v)) :=
  fun pins s σ H xs us Q I rx q => thn (h pins s σ H xs us _ I rx q) fun _ _ e => EP.gh e

/-! ### 8. Reading things -/
def cellAt (s : S) (d : D) : Option Cell := match d with
  | .own i => (match s.δ[i]? with | some (.own c) => some c | _ => none)
  | .ref n => s.μ[n]?
  | .lst xs => some (.lst xs)
  | .dct kvs => some (.dct kvs)
  | .obj C fs => some (.ins C fs)
  | _ => none
def asL (s : S) (d : D) : Option (List D) := match cellAt s d with | some (.lst xs) => some xs | _ => none
def asSeq (s : S) (d : D) : Option (List D) := match d with | .tup xs => some xs | d => asL s d
section
variable {K : PySem.W.Frag} {H0 H H' : Hp} {α0 α α' : List Addr} {σ : Sg} {s : S}
theorem asL_ok {d : D} {v : V} {xs : List D} (r : Rel K H0 α0 H α σ s) (h : Rx K H α σ d v) (e : asL s d = some xs) : ∃ a vs, v = .ref a ∧ SqL K H a vs ∧ Rvs K H α xs vs := by
  unfold asL cellAt at e
  cases d <;> simp only [reduceCtorEq] at e
  case ref n =>
    cases hc : s.μ[n]? with
    | none => rw [hc] at e; cases e
    | some c =>
      rw [hc] at e
      cases c <;> simp only [reduceCtorEq, Option.some.injEq] at e
      subst e
      have h' : Rv K H α (.ref n) v := h
      simp only [Rv] at h'
      obtain ⟨a, ha, rfl⟩ := h'
      obtain ⟨vs, q, rr⟩ := r.cells.at_ n a _ ha hc
      exact ⟨a, vs, rfl, .of q, rr⟩
  case own i =>
    cases hc : s.δ[i]? with
    | none => rw [hc] at e; simp at e
    | some c =>
      rw [hc] at e
      cases c with
      | no => simp at e
      | val _ => simp at e
      | own c =>
        cases c <;> simp only [reduceCtorEq, Option.some.injEq] at e
        subst e
        have h' : σ[i]? = some (some v) := h
        obtain ⟨a, ha, _, _, vs, q, rr⟩ := r.slots.own i _ hc
        rw [h'] at ha
        cases ha
        exact ⟨a, vs, rfl, .of q, rr⟩
  case lst ys =>
    simp only [Option.some.injEq] at e
    subst e
    have h' : Rv K H α (.lst ys) v := h
    simp only [Rv] at h'
    obtain ⟨a, vs, rfl, q, rr⟩ := h'
    exact ⟨a, vs, rfl, q.sq, rr⟩
theorem asT_ok {v : V} {xs : List D} (h : Rx K H α σ (.tup xs) v) : ∃ a vs, v = .ref a ∧ SqT K H a vs ∧ Rvs K H α xs vs := by
  have h' : Rv K H α (.tup xs) v := h
  simpa only [Rv] using h'
theorem asSeq_ok {d : D} {v : V} {xs : List D} (r : Rel K H0 α0 H α σ s) (h : Rx K H α σ d v) (e : asSeq s d = some xs) : ∃ a vs, v = .ref a ∧ (SqL K H a vs ∨ SqT K H a vs) ∧ Rvs K H α xs vs := by
  unfold asSeq at e
  split at e
  · cases e
    obtain ⟨a, vs, e1, q, rr⟩ := asT_ok h
    exact ⟨a, vs, e1, .inr q, rr⟩
  · obtain ⟨a, vs, e1, q, rr⟩ := asL_ok r h e
    exact ⟨a, vs, e1, .inl q, rr⟩
/-- a new list is locked at once -/
theorem gh_list {p : Addr} {xs : List D} {vs : List V} {Q : VK} (r : Rel K H0 α0 H α σ s) (h : H p = none) (rr : Rvs K H α xs vs)
    (q : ∀ v H' α', Rel K H0 α0 H' α' σ s → Stay H α H' α' → Rx K H' α' σ (.lst xs) v → Q v H') : Gh (upd H p (.lst vs)) (Q (.ref p)) := by
  refine .inr ⟨p, .lst vs, upd_same, trivial, fun o => ?_⟩
  rw [upd_upd]
  have t : Stay H α (upd H p (.frz o (.lst vs))) α := Stay.upd_new h
  refine q _ _ α (r.new h) t (Rv.x ?_)
  simp only [Rv]
  exact ⟨p, vs, rfl, .inl ⟨o, upd_same⟩, Rvs.stay t _ _ rr⟩
theorem new_tup {p : Addr} {xs : List D} {vs : List V} {Q : VK} (r : Rel K H0 α0 H α σ s) (h : H p = none) (rr : Rvs K H α xs vs)
    (q : ∀ v H' α', Rel K H0 α0 H' α' σ s → Stay H α H' α' → Rx K H' α' σ (.tup xs) v → Q v H') : Q (.ref p) (upd H p (.tup vs)) := by
  have t : Stay H α (upd H p (.tup vs)) α := Stay.upd_new h
  refine q _ _ α (r.new h) t (Rv.x ?_)
  simp only [Rv]
  exact ⟨p, vs, rfl, .inl (.inl upd_same), Rvs.stay t _ _ rr⟩
end

/-! ### 9. Names, constants -/
def dVar (i : Nat) : FE := fun s => match s.δ[i]? with
  | some (.val d) => .ok d s
  | some (.own _) => .ok (.own i) s
  | _ => .bad
def dC (d : D) : FE := fun s => .ok d s
section
variable {X : Cx}
theorem pd_var (i : Nat) {e : Expr} (h : PE X e (tVar i)) : PED X e (dVar i) := ⟨fun W _ => ⟨_, h, fun H0 α0 σ H α s Q r q => by
  unfold dVar at q
  cases e : s.δ[i]? with
  | none => rw [e] at q; exact q.elim
  | some sl =>
    rw [e] at q
    cases sl with
    | no => exact q.elim
    | val d =>
      obtain ⟨v, h1, h2⟩ := r.slots.val i d e
      exact ⟨v, h1, q v H α r (Stay.refl _ _) (Rv.x h2)⟩
    | own c =>
      obtain ⟨a, h1, _⟩ := r.slots.own i c e
      exact ⟨_, h1, q _ H α r (Stay.refl _ _) h1⟩⟩⟩
theorem pd_c {e : Expr} {d : D} {v : V} (h : PE X e (tC v)) (hv : ∀ H α, Rv X.K H α d v) : PED X e (dC d) := ⟨fun W _ => ⟨_, h, fun H0 α0 σ H α s Q r q => q v H α r (Stay.refl _ _) (Rv.x (hv H α))⟩⟩
theorem pd_int {i j pos} : PED X (.Constant (.int i) j pos) (dC (.int i)) := pd_c pe_int fun _ _ => by simp only [Rv]
theorem pd_bl {b j pos} : PED X (.Constant (.bool b) j pos) (dC (.bl b)) := pd_c pe_bl fun _ _ => by simp only [Rv]
theorem pd_non {j pos} : PED X (.Constant .none j pos) (dC .non) := pd_c pe_non fun _ _ => by simp only [Rv]
theorem pd_str {x j pos} : PED X (.Constant (.str x) j pos) (dC (.str x)) := pd_c pe_str fun _ _ => by simp only [Rv]
/-- a global that holds a written thing, an int, a text -/
theorem pd_globA {x : Str} {a : Addr} {pos : Pos} (hg : Gl X x) (hm : X.mg x = some (.ref a)) (hd : (x == ("__debug__" : Str)) = false := by decide) : PED X (.Name x pos) (dC (.adr a)) :=
  pd_c (pe_glob (v := .ref a) hg hm rfl hd) fun _ _ => by simp only [Rv]
theorem pd_globI {x : Str} {i : Int} {t : Tok} {pos : Pos} (hg : Gl X x) (hm : X.mg x = some (.int i t)) (hd : (x == ("__debug__" : Str)) = false := by decide) : PED X (.Name x pos) (dC (.int i)) :=
  pd_c (pe_glob (v := .int i) hg hm ⟨t, rfl⟩ hd) fun _ _ => by simp only [Rv]
theorem pd_globS {x y : Str} {t : Tok} {pos : Pos} (hg : Gl X x) (hm : X.mg x = some (.str y t)) (hd : (x == ("__debug__" : Str)) = false := by decide) : PED X (.Name x pos) (dC (.str y)) :=
  pd_c (pe_glob (v := .str y) hg hm ⟨t, rfl⟩ hd) fun _ _ => by simp only [Rv]
theorem pd_bltT {x : Str} {n : String} {pos : Pos} (hg : Gl X x) (hm : X.mg x = none) (hv : bootBuiltins x = some (.type n)) (hn : x ≠ "__name__" := by decide) (hd : (x == ("__debug__" : Str)) = false := by decide) : PED X (.Name x pos) (dC (.ty n)) :=
  pd_c (pe_bltn (v := .ty n) hg hm hv rfl hn hd) fun _ _ => by simp only [Rv]
end

/-! ### 10. Operators -/
def dOp (g : S → D → D → Option D) (fa fb : FE) : FE := fun s => (fa s).bind fun a s1 => (fb s1).bind fun b s2 => match g s2 a b with | some d => .ok d s2 | none => .bad
def OpS (X : Cx) (r : R2) (g : S → D → D → Option D) : Prop :=
  ∀ (H0 : Hp) (α0 : List Addr) (σ : Sg) (H : Hp) (α : List Addr) (s : S) (x y : V) (a b d : D) (Q : VK), Rel X.K H0 α0 H α σ s → Rx X.K H α σ a x → Rx X.K H α σ b y → g s a b = some d →
    (∀ v H' α', Rel X.K H0 α0 H' α' σ s → Stay H α H' α' → Rx X.K H' α' σ d v → Q v H') → r x y H fun v H1 => Gh H1 (Q v)
section
variable {X : Cx}
/-- two expressions, then k -/
theorem two_run {a b : Expr} {fa fb : FE} {W : WX} {ta tb : TE} (ha : ∀ H0 α0 σ H α s Q, Rel X.K H0 α0 H α σ s → PostE X.K H0 α0 σ W H α Q (fa s) → ta σ H Q)
    (hb : ∀ H0 α0 σ H α s Q, Rel X.K H0 α0 H α σ s → PostE X.K H0 α0 σ W H α Q (fb s) → tb σ H Q) {H0 : Hp} {α0 : List Addr} {σ : Sg} {H : Hp} {α : List Addr} {s : S} {Q : VK} {k : D → D → S → Res D} {R : V → V → Hp → Prop} (r : Rel X.K H0 α0 H α σ s)
    (q : PostE X.K H0 α0 σ W H α Q ((fa s).bind fun a s1 => (fb s1).bind fun b s2 => k a b s2))
    (hk : ∀ a b x y s2 H2 α2, Rel X.K H0 α0 H2 α2 σ s2 → Stay H α H2 α2 → Rx X.K H2 α2 σ a x → Rx X.K H2 α2 σ b y → PostE X.K H0 α0 σ W H α Q (k a b s2) → R x y H2) : ta σ H fun x H1 => tb σ H1 fun y H2 => R x y H2 := by
  refine ha H0 α0 σ H α s _ r ?_
  cases ea : fa s with
  | bad => rw [ea] at q; exact q.elim
  | exc e s1 => rw [ea] at q; exact q
  | ok a s1 =>
    rw [ea] at q
    intro x H1 α1 r1 t1 rx
    refine hb H0 α0 σ H1 α1 s1 _ r1 ?_
    have q' : PostE X.K H0 α0 σ W H α Q ((fb s1).bind fun b s2 => k a b s2) := q
    cases eb : fb s1 with
    | bad => rw [eb] at q'; exact q'.elim
    | exc e s2 => rw [eb] at q'; exact q'
    | ok b s2 =>
      rw [eb] at q'
      intro y H2 α2 r2 t2 ry
      exact hk a b x y s2 H2 α2 r2 (t1.trans t2) (rx.stay t2) ry q'
theorem PostE.mono {K : PySem.W.Frag} {H0 : Hp} {α0 : List Addr} {σ : Sg} {W : WX} {H H1 : Hp} {α α1 : List Addr} {Q : VK} (t : Stay H α H1 α1) {x : Res D} (q : PostE K H0 α0 σ W H α Q x) : PostE K H0 α0 σ W H1 α1 Q x := by
  cases x with
  | ok d s' => exact fun v H' α' r t' rx => q v H' α' r (t.trans t') rx
  | exc e s' => exact q
  | bad => exact q
theorem pd_opG {e a b : Expr} {r : R2} {g : S → D → D → Option D} {fa fb : FE} (hp : ∀ ta tb, PE X a ta → PE X b tb → PE X e (tOp (fun x y H Q => r x y H fun v H1 => Gh H1 (Q v)) ta tb)) (hs : OpS X r g) (ha : PED X a fa) (hb : PED X b fb) : PED X e (dOp g fa fb) := by
  refine ⟨fun W tk => ?_⟩
  obtain ⟨ta, pa, qa⟩ := ha.run W tk
  obtain ⟨tb, pb, qb⟩ := hb.run W tk
  refine ⟨_, hp ta tb pa pb, fun H0 α0 σ H α s Q rl q => ?_⟩
  refine two_run (a := a) (b := b) (W := W) qa qb rl q fun u w x y s2 H2 α2 r2 t2 rx ry q2 => ?_
  cases eg : g s2 u w with
  | none => rw [eg] at q2; exact q2.elim
  | some d =>
    rw [eg] at q2
    exact hs H0 α0 σ H2 α2 s2 x y u w d Q r2 rx ry eg fun v H' α' r' t' rv => q2 v H' α' r' (t2.trans t') rv
theorem pd_op {op : Operator} {a b : Expr} {pos : Pos} {r : R2} {g : S → D → D → Option D} {fa fb : FE} (ho : OpR X (binaryOp op) r) (hs : OpS X r g) (ha : PED X a fa) (hb : PED X b fb) : PED X (.BinOp a op b pos) (dOp g fa fb) :=
  pd_opG (fun _ _ pa pb => pe_op (opGh ho) pa pb) hs ha hb
theorem pd_cmp {op : CmpOp} {a b : Expr} {pos : Pos} {r : R2} {g : S → D → D → Option D} {fa fb : FE} (ho : OpR X (compareOp op) r) (hs : OpS X r g) (ha : PED X a fa) (hb : PED X b fb) (hm : behindInMarks op b = false) : PED X (.Compare a [op] [b] pos) (dOp g fa fb) :=
  pd_opG (fun _ _ pa pb => pe_cmpR (opGh ho) pa pb hm) hs ha hb
theorem OpS.or {r r' : R2} {g g' : S → D → D → Option D} (h : OpS X r g) (h' : OpS X r' g') : OpS X (fun x y H Q => r x y H Q ∨ r' x y H Q) (fun s a b => (g s a b).or (g' s a b)) := fun H0 α0 σ H α s x y a b d Q rl rx ry e q => by
  dsimp only at e
  cases eg : g s a b with
  | some d' =>
    rw [eg] at e
    obtain rfl : d' = d := Option.some.inj e
    exact .inl (h H0 α0 σ H α s x y a b d' Q rl rx ry eg q)
  | none =>
    rw [eg] at e
    have e : g' s a b = some d := e
    exact .inr (h' H0 α0 σ H α s x y a b d Q rl rx ry e q)
end
end DL

namespace DL
open PySem PySem.Spec PyProof.Rows L2
variable [DLX]
/-! ### 11. Ints -/
def gI (c : Int → Int → Bool) (f : Int → Int → D) : S → D → D → Option D := fun _ a b => match a, b with | .int i, .int j => if c i j then some (f i j) else none | _, _ => none
section
variable {X : Cx}
theorem rx_int {K : PySem.W.Frag} {H : Hp} {α : List Addr} {σ : Sg} {i : Int} {x : V} (h : Rx K H α σ (.int i) x) : x = .int i := by
  have h' : Rv K H α (.int i) x := h
  simpa only [Rv] using h'
theorem rx_str {K : PySem.W.Frag} {H : Hp} {α : List Addr} {σ : Sg} {i : Str} {x : V} (h : Rx K H α σ (.str i) x) : x = .str i := by
  have h' : Rv K H α (.str i) x := h
  simpa only [Rv] using h'
theorem rx_bl {K : PySem.W.Frag} {H : Hp} {α : List Addr} {σ : Sg} {i : Bool} {x : V} (h : Rx K H α σ (.bl i) x) : x = .bl i := by
  have h' : Rv K H α (.bl i) x := h
  simpa only [Rv] using h'
theorem rx_non {K : PySem.W.Frag} {H : Hp} {α : List Addr} {σ : Sg} {x : V} (h : Rx K H α σ .non x) : x = .non := by
  have h' : Rv K H α .non x := h
  simpa only [Rv] using h'
theorem ox_int {K : PySem.W.Frag} {H : Hp} {α : List Addr} {σ : Sg} {i : Int} : Rx K H α σ (.int i) (.int i) := by
  show Rv K H α (.int i) _
  simp only [Rv]
theorem ox_bl {K : PySem.W.Frag} {H : Hp} {α : List Addr} {σ : Sg} {i : Bool} : Rx K H α σ (.bl i) (.bl i) := by
  show Rv K H α (.bl i) _
  simp only [Rv]
theorem ox_str {K : PySem.W.Frag} {H : Hp} {α : List Addr} {σ : Sg} {i : Str} : Rx K H α σ (.str i) (.str i) := by
  show Rv K H α (.str i) _
  simp only [Rv]
theorem ox_non {K : PySem.W.Frag} {H : Hp} {α : List Addr} {σ : Sg} : Rx K H α σ .non .non := by
  show Rv K H α .non _
  simp only [Rv]
theorem os_I {C : Int → Int → Prop} {c : Int → Int → Bool} {f : Int → Int → Int} (h : ∀ i j, c i j = true → C i j) : OpS X (rI C fun i j => .int (f i j)) (gI c fun i j => .int (f i j)) := fun H0 α0 σ H α s x y a b d Q r rx ry e q => by
  unfold gI at e
  split at e
  · rename_i i j
    split at e
    · rename_i hc
      cases e
      rw [rx_int rx, rx_int ry]
      exact ⟨i, j, rfl, rfl, h i j hc, .inl (q _ _ _ r (Stay.refl _ _) ox_int)⟩
    · cases e
  · cases e
theorem os_I0 {f : Int → Int → Int} : OpS X (rI0 fun i j => .int (f i j)) (gI (fun _ _ => true) fun i j => .int (f i j)) := fun H0 α0 σ H α s x y a b d Q r rx ry e q => by
  unfold gI at e
  split at e
  · rename_i i j
    simp only [if_true, Option.some.injEq] at e
    subst e
    rw [rx_int rx, rx_int ry]
    exact ⟨i, j, rfl, rfl, .inl (q _ _ _ r (Stay.refl _ _) ox_int)⟩
  · cases e
theorem os_B0 {f : Int → Int → Bool} : OpS X (rI0 fun i j => .bl (f i j)) (gI (fun _ _ => true) fun i j => .bl (f i j)) := fun H0 α0 σ H α s x y a b d Q r rx ry e q => by
  unfold gI at e
  split at e
  · rename_i i j
    simp only [if_true, Option.some.injEq] at e
    subst e
    rw [rx_int rx, rx_int ry]
    exact ⟨i, j, rfl, rfl, .inl (q _ _ _ r (Stay.refl _ _) ox_bl)⟩
  · cases e
/-! the sizes that the machine takes -/
def fdivOk (i j : Int) : Bool := j != 0 && !Builtin.divisionGoesByPylong i j
def powOk (i j : Int) : Bool := decide (0 ≤ j) && !Builtin.Int.intTooBig (((Builtin.Int.intBits i : Nat) : Int) * j)
def mulOk (i j : Int) : Bool := decide (i.natAbs.log2 + j.natAbs.log2 < 100000000)
theorem mulOk_ok {i j : Int} (h : mulOk i j = true) : IntMulOk i j := by
  have h := of_decide_eq_true h
  have b : ∀ x : Int, Builtin.Int.intBits x ≤ x.natAbs.log2 + 1 := fun x => by
    unfold Builtin.Int.intBits
    split <;> omega
  have h1 := b i
  have h2 := b j
  have e : bitsLine = 134217728 := by decide
  unfold IntMulOk
  intro z
  rw [Bool.and_eq_true] at z
  have z2 := z.2
  unfold Builtin.Int.intTooBig at z2
  have z3 := of_decide_eq_true z2
  rw [e] at z3
  omega
theorem op_fdivX : OpR X (binaryOp .FloorDiv) (rI (fun i j => fdivOk i j = true) fun i j => .int (i.fdiv j)) := opI fun i j _ _ _ _ _ hc q => by
  unfold fdivOk at hc
  rw [Bool.and_eq_true] at hc
  exact floordiv_int (by simpa using hc.1) q (.inl (by simpa using hc.2))
theorem op_mulY : OpR X (binaryOp .Mult) (rI (fun i j => mulOk i j = true) fun i j => .int (i * j)) := opI fun _ _ _ _ _ _ _ hc q => mul_int q (mulOk_ok hc)
theorem op_powX : OpR X (binaryOp .Pow) (rI (fun i j => powOk i j = true) fun i j => .int (i ^ j.toNat)) := opI fun i j _ _ s Q E hc q => by
  unfold powOk at hc
  rw [Bool.and_eq_true] at hc
  have h0 : 0 ≤ j := of_decide_eq_true hc.1
  have hb : Builtin.Int.intTooBig (((Builtin.Int.intBits i : Nat) : Int) * j) = false := by simpa using hc.2
  refine AutoIntOpsIf.pow ?_
  rw [if_pos h0]
  by_cases e0 : (j == 0) = true
  · rw [if_pos e0]
    have e : j = 0 := by simpa using e0
    subst e
    simpa [Made.post] using q
  · rw [if_neg e0]
    by_cases e1 : (i == 0 || i == 1) = true
    · rw [if_pos e1]
      have hj : j.toNat ≠ 0 := by
        have : j ≠ 0 := by simpa using e0
        omega
      have e : i ^ j.toNat = i := by
        rcases (by simpa using e1 : i = 0 ∨ i = 1) with rfl | rfl
        · exact Int.zero_pow hj
        · exact Int.one_pow
      rw [e] at q
      simpa [Made.post] using q
    · rw [if_neg e1]
      by_cases e2 : (i == -1) = true
      · rw [if_pos e2]
        have ei : i = -1 := by simpa using e2
        subst ei
        have e : (-1 : Int) ^ j.toNat = if (j % 2 == 0) = true then 1 else -1 := by
          have key : ∀ n : Nat, (-1 : Int) ^ n = if n % 2 = 0 then 1 else -1 := by
            intro n
            induction n with
            | zero => rfl
            | succ n ih =>
              rw [Int.pow_succ, ih]
              split <;> split <;> omega
          rw [key]
          by_cases hj : j % 2 = 0
          · rw [if_pos (by omega), if_pos (by simp [hj])]
          · rw [if_neg (by omega), if_neg (by simp [hj])]
        rw [e] at q
        simpa [Made.post] using q
      · rw [if_neg e2, if_neg (by rw [hb]; decide)]
        simpa [Made.post] using q
end
/-! ### 12. Texts, tuples, lists put together -/
def gAdd : S → D → D → Option D := fun s a b => match a, b with
  | .int i, .int j => some (.int (i + j))
  | .str x, .str y => if x.length + y.length ≤ 16777216 then some (.str (x ++ y)) else none
  | .tup x, .tup y => if x.length + y.length ≤ 16777216 then some (.tup (x ++ y)) else none
  | a, b => match asL s a, asL s b with
    | some x, some y => if x.length + y.length ≤ 16777216 then some (.lst (x ++ y)) else none
    | _, _ => none
def rCatS (K : PySem.W.Frag) : R2 := fun x y H Q => ∃ l b xs zs, x = .ref l ∧ y = .ref b ∧ SqL K H l xs ∧ SqL K H b zs ∧ xs.length + zs.length ≤ sizeLine ∧ ∀ p, H p = none → Q (.ref p) (upd H p (.lst (xs ++ zs)))
def rAddS : R2 := fun x y H Q => ∃ i j, x = .str i ∧ y = .str j ∧ i.length + j.length ≤ sizeLine ∧ Q (.str (i ++ j)) H
section
variable {X : Cx}
theorem op_catS : OpR X (binaryOp .Add) (rCatS X.K) := by
  intro pins s σ H x y v u Q I rx ry h
  obtain ⟨l, b, xs, zs, rfl, rfl, hH, hB, hz, q⟩ := h
  cases rx
  cases ry
  obtain ⟨its, r, hl, _⟩ := I.list hH
  obtain ⟨its2, r2, hl2, _⟩ := I.list hB
  obtain ⟨⟨cls, dd, data, sl⟩, ho, hc, n, hd⟩ := hl.isList
  obtain ⟨⟨cls2, dd2, data2, sl2⟩, ho2, hc2, n2, hd2⟩ := hl2.isList
  simp only at hc hd hc2 hd2
  subst hc hd hc2 hd2
  have e : its.toArray ++ its2.toArray = (its ++ its2).toArray := by simp
  have e1 := r.length
  have e2 := r2.length
  refine concat_meets ⟨_, ho, rfl⟩ ⟨_, ho2, rfl⟩ noFill_list_add seq_list_add PySem.F.slot_list_add PySem.F.entry_list_add (PySem.F.args_list_add_2 _ _) (list_addW l b its.toArray its2.toArray n n2 dd dd2 sl sl2 (by simp only [List.size_toArray]; omega)) ⟨ho, ho2, ?_⟩
  rw [e]
  exact ⟨.ref _, _, I.lnew (t' := s.toks) (r.append r2) (by rw [List.length_append]; omega), rfl, q _ I.fresh⟩
def rAdd4 (K : PySem.W.Frag) : R2 := fun x y H Q => rI0 (fun i j => .int (i + j)) x y H Q ∨ rAddS x y H Q ∨ rCatA K x y H Q ∨ rCatS K x y H Q
theorem op_add4 : OpR X (binaryOp .Add) (rAdd4 X.K) := op_add.or (OpR.or (r := rAddS) op_add_str (op_catA.or op_catS))
theorem Rvs.nil_iff {K : PySem.W.Frag} {H : Hp} {α : List Addr} {ds : List D} {vs : List V} (h : Rvs K H α ds vs) : vs = [] ↔ ds = [] := by
  have e := h.length
  constructor
  · intro q; rw [q] at e; exact List.eq_nil_of_length_eq_zero e.symm
  · intro q; rw [q] at e; exact List.eq_nil_of_length_eq_zero e
theorem os_add : OpS X (rAdd4 X.K) gAdd := fun H0 α0 σ H α s x y a b d Q r rx ry e q => by
  unfold gAdd at e
  split at e
  · cases e
    rw [rx_int rx, rx_int ry]
    exact .inl ⟨_, _, rfl, rfl, .inl (q _ _ _ r (Stay.refl _ _) ox_int)⟩
  · split at e
    · rename_i hz
      cases e
      rw [← sizeLine_eq] at hz
      rw [rx_str rx, rx_str ry]
      exact .inr (.inl ⟨_, _, rfl, rfl, hz, .inl (q _ _ _ r (Stay.refl _ _) ox_str)⟩)
    · cases e
  · split at e
    · rename_i u w hz
      cases e
      rw [← sizeLine_eq] at hz
      obtain ⟨p, vs, rfl, h1, r1⟩ := asT_ok rx
      obtain ⟨p2, vs2, rfl, h2, r2⟩ := asT_ok ry
      refine .inr (.inr (.inl ⟨p, p2, vs, vs2, rfl, rfl, h1, h2, by rw [r1.length, r2.length]; exact hz, fun e => ?_, fun _ e => ?_, fun n1 n2 l hl => ?_⟩))
      · have e' := r1.nil_iff.mp e
        subst e'
        exact .inl (q _ _ _ r (Stay.refl _ _) ry)
      · have e' := r2.nil_iff.mp e
        subst e'
        rw [List.append_nil] at q
        exact .inl (q _ _ _ r (Stay.refl _ _) rx)
      · exact .inl (new_tup r hl (r1.append r2) q)
    · cases e
  · split at e
    · rename_i u w e1 e2
      split at e
      · rename_i hz
        cases e
        rw [← sizeLine_eq] at hz
        obtain ⟨p, vs, rfl, h1, r1⟩ := asL_ok r rx e1
        obtain ⟨p2, vs2, rfl, h2, r2⟩ := asL_ok r ry e2
        exact .inr (.inr (.inr ⟨p, p2, vs, vs2, rfl, rfl, h1, h2, by rw [r1.length, r2.length]; exact hz, fun l hl => gh_list r hl (r1.append r2) q⟩))
      · cases e
    · cases e
theorem pd_add {a b : Expr} {pos : Pos} {fa fb : FE} (ha : PED X a fa) (hb : PED X b fb) : PED X (.BinOp a .Add b pos) (dOp gAdd fa fb) := pd_op op_add4 os_add ha hb
abbrev gSub := gI (fun _ _ => true) fun i j => .int (i - j)
abbrev gFdiv := gI fdivOk fun i j => .int (i.fdiv j)
abbrev gMod := gI (fun _ j => j != 0) fun i j => .int (i.fmod j)
abbrev gPow := gI powOk fun i j => .int (i ^ j.toNat)
theorem pd_sub {a b : Expr} {pos : Pos} {fa fb : FE} (ha : PED X a fa) (hb : PED X b fb) : PED X (.BinOp a .Sub b pos) (dOp gSub fa fb) := pd_op op_sub os_I0 ha hb
theorem pd_fdiv {a b : Expr} {pos : Pos} {fa fb : FE} (ha : PED X a fa) (hb : PED X b fb) : PED X (.BinOp a .FloorDiv b pos) (dOp gFdiv fa fb) := pd_op op_fdivX (os_I fun _ _ h => h) ha hb
theorem pd_mod {a b : Expr} {pos : Pos} {fa fb : FE} (ha : PED X a fa) (hb : PED X b fb) : PED X (.BinOp a .Mod b pos) (dOp gMod fa fb) := pd_op op_modN (os_I fun _ _ h => by simpa using h) ha hb
theorem pd_pow {a b : Expr} {pos : Pos} {fa fb : FE} (ha : PED X a fa) (hb : PED X b fb) : PED X (.BinOp a .Pow b pos) (dOp gPow fa fb) := pd_op op_powX (os_I fun _ _ h => h) ha hb
end
end DL

namespace DL
open PySem PySem.Spec PyProof.Rows L2
variable [DLX]
/-! ### 13. Data as the library has it -/
mutual
def toPy : D → Option PyData
  | .non => some .none
  | .bl b => some (.bool b)
  | .int i => some (.int i)
  | .str x => some (.str x)
  | .tup xs => (toPyL xs).map .tuple
  | .lst xs => (toPyL xs).map .list
  | .dct kvs => (toPyK kvs).map .dict
  | _ => none
def toPyL : List D → Option (List PyData)
  | [] => some []
  | x :: xs => match toPy x, toPyL xs with | some y, some ys => some (y :: ys) | _, _ => none
def toPyK : List (D × D) → Option (List (PyData × PyData))
  | [] => some []
  | (k, x) :: xs => match toPy k, toPy x, toPyK xs with | some q, some y, some ys => some ((q, y) :: ys) | _, _, _ => none
end
/-- through a slot or a shared cell -/
def toPyS (s : S) (d : D) : Option PyData := match d with
  | .own _ | .ref _ => (asL s d).bind fun xs => (toPyL xs).map .list
  | d => toPy d
section
variable {X : Cx} {pins : List (Addr × Obj)} {σ : Sg} {H : Hp} {α : List Addr} {s : Shared}
/-- no list within -/
def keyPy : Key → PyData | .inl i => .int i | .inr x => .str x
theorem readsAll_keys {h : Heap} : ∀ {ks : List Key} {us : List Value}, Paired (fun k u => keyIs k u = true) ks us → ReadsAll h us (ks.map keyPy) []
  | [], _, .nil => .nil
  | k :: ks, u :: us, .cons r t => by
    have q := readsAll_keys (h := h) t
    rcases keyIs_shape r with ⟨i, tk, rfl, rfl⟩ | ⟨x, tk, rfl, rfl⟩
    · exact .cons (.int i tk) q
    · exact .cons (.str x tk) q
theorem toPy_key {k : D} {q : Key} {p : PyData} (h : keyD k = some q) (e : toPy k = some p) : p = keyPy q := by
  cases k <;> simp only [keyD, Option.some.injEq, reduceCtorEq] at h
  · subst h; simp only [toPy, Option.some.injEq] at e; exact e.symm
  · subst h; simp only [toPy, Option.some.injEq] at e; exact e.symm
theorem pairs_keys {P : Program} {w : World} : ∀ {es : List DictEntry} {kvs : List (Key × Value)}, Pairs (mixKind P w) es kvs → Paired (fun k u => keyIs k u = true) (kvs.map (·.1)) (es.map (·.key)) ∧ es.map (·.val) = kvs.map (·.2)
  | [], _, .nil => ⟨.nil, rfl⟩
  | en :: es, _, .cons a b c => by
    obtain ⟨q1, q2⟩ := pairs_keys c
    refine ⟨.cons a q1, ?_⟩
    simp only [List.map_cons, q2, b]
mutual
def noL : D → Bool
  | .tup xs => noLs xs
  | .lst _ => false
  | .dct kvs => noLk kvs
  | _ => true
def noLs : List D → Bool
  | [] => true
  | x :: xs => noL x && noLs xs
def noLk : List (D × D) → Bool
  | [] => true
  | (_, x) :: xs => noL x && noLk xs
end
mutual
theorem reads_ok (I : Inv X pins σ H s) : ∀ (d : D) (v : V) (u : Value) (p : PyData), Rv X.K H α d v → RelV v u → toPy d = some p → ∃ as, Reads s.heap u p as ∧ (noL d = true → sysModules ∉ as)
  | .non, v, u, p, h, r, e => by
    simp only [Rv] at h
    subst h
    cases r
    simp only [toPy, Option.some.injEq] at e
    subst e
    exact ⟨_, .none, fun _ z => nomatch z⟩
  | .bl b, v, u, p, h, r, e => by
    simp only [Rv] at h
    subst h
    cases r
    simp only [toPy, Option.some.injEq] at e
    subst e
    exact ⟨_, .bool b, fun _ z => nomatch z⟩
  | .int i, v, u, p, h, r, e => by
    simp only [Rv] at h
    subst h
    obtain ⟨t, rfl⟩ := r
    simp only [toPy, Option.some.injEq] at e
    subst e
    exact ⟨_, .int i t, fun _ z => nomatch z⟩
  | .str i, v, u, p, h, r, e => by
    simp only [Rv] at h
    subst h
    obtain ⟨t, rfl⟩ := r
    simp only [toPy, Option.some.injEq] at e
    subst e
    exact ⟨_, .str i t, fun _ z => nomatch z⟩
  | .tup xs, v, u, p, h, r, e => by
    simp only [Rv] at h
    obtain ⟨a, vs, rfl, hs, rr⟩ := h
    cases r
    simp only [toPy, Option.map_eq_some_iff] at e
    obtain ⟨ps, e, rfl⟩ := e
    obtain ⟨its, rv, ⟨o, ho, hc, n, hd⟩, _⟩ := I.tuple hs
    obtain ⟨as, q, nl⟩ := readsL_ok I xs vs its ps rr rv e
    exact ⟨as, .tuple ho hc hd (by simpa using q), fun z => nl (by simpa only [noL] using z)⟩
  | .lst xs, v, u, p, h, r, e => by
    simp only [Rv] at h
    obtain ⟨a, vs, rfl, hs, rr⟩ := h
    cases r
    simp only [toPy, Option.map_eq_some_iff] at e
    obtain ⟨ps, e, rfl⟩ := e
    obtain ⟨its, rv, hl, _⟩ := I.list hs.sq
    obtain ⟨o, ho, hc, n, hd⟩ := hl.isList
    obtain ⟨as, q, nl⟩ := readsL_ok I xs vs its ps rr rv e
    exact ⟨_, .list ho hc hd (by simpa using q), fun z => by simp only [noL] at z; cases z⟩
  | .dct kvs, v, u, p, h, r, e => by
    simp only [Rv] at h
    obtain ⟨a, o, rfl, h⟩ := h
    cases r
    simp only [toPy, Option.map_eq_some_iff] at e
    obtain ⟨ps, e, rfl⟩ := e
    rcases h with ⟨kv, hf, rr⟩ | ⟨kv, _, hf, rr⟩
    · obtain ⟨ns, ho, hx, es, ep, vs, hdt, hsz, hkv, o2, es2, ho2, hx2, hd2, hk2, hp2, nd2⟩ := I.frzK hf
      rw [ho] at ho2
      cases ho2
      rw [hdt] at hd2
      cases hd2
      obtain ⟨pk, pe⟩ := pairs_keys hp2
      obtain ⟨bs, q1, q2, nl⟩ := readsK_ok I kvs kv vs ps rr hkv e
      refine ⟨_, .dict (as := []) (bs := bs) ho hx.1 hdt ?_ ?_, fun z hm => ?_⟩
      · rw [q1]
        exact readsAll_keys pk
      · rw [pe]
        exact q2
      · rcases List.mem_cons.mp hm with z1 | z1
        · rw [← z1] at ns
          simp at ns
        · exact nl (by simpa only [noL] using z) (by simpa using z1)
    · obtain ⟨hd, z0, ns, xs, pr, o2, es, ep, ho, hx, hdt, he, _⟩ := I.hok a _ hf
      rw [hd] at ho
      cases ho
      obtain ⟨as, bs, q1, q2, nl⟩ := readsT_ok I kvs kv xs ps rr pr e
      refine ⟨_, .dict hd hx.1 hdt (as := as) (bs := bs) ?_ ?_, fun z hm => ?_⟩
      · rw [he, List.map_map]
        exact q1
      · rw [he, List.map_map]
        exact q2
      · rcases List.mem_cons.mp hm with z1 | z1
        · rw [← z1] at ns
          simp at ns
        · exact nl (by simpa only [noL] using z) z1
  | .adr _, _, _, _, _, _, e => by simp only [toPy, reduceCtorEq] at e
  | .fn _, _, _, _, _, _, e => by simp only [toPy, reduceCtorEq] at e
  | .ty _, _, _, _, _, _, e => by simp only [toPy, reduceCtorEq] at e
  | .ref _, _, _, _, _, _, e => by simp only [toPy, reduceCtorEq] at e
  | .own _, _, _, _, _, _, e => by simp only [toPy, reduceCtorEq] at e
  | .obj _ _, _, _, _, _, _, e => by simp only [toPy, reduceCtorEq] at e
theorem readsL_ok (I : Inv X pins σ H s) : ∀ (ds : List D) (vs : List V) (us : List Value) (ps : List PyData), Rvs X.K H α ds vs → Vals vs us → toPyL ds = some ps → ∃ as, ReadsAll s.heap us ps as ∧ (noLs ds = true → sysModules ∉ as)
  | [], vs, us, ps, h, r, e => by
    simp only [Rvs] at h
    subst h
    cases r
    simp only [toPyL, Option.some.injEq] at e
    subst e
    exact ⟨_, .nil, fun _ z => nomatch z⟩
  | d :: ds, l, us, ps, h, r, e => by
    simp only [Rvs] at h
    obtain ⟨v, vs, rfl, h1, h2⟩ := h
    cases r with
    | cons r1 r2 =>
      simp only [toPyL] at e
      split at e
      · rename_i y ys e1 e2
        cases e
        obtain ⟨as, q1, n1⟩ := reads_ok I d v _ y h1 r1 e1
        obtain ⟨bs, q2, n2⟩ := readsL_ok I ds vs _ ys h2 r2 e2
        refine ⟨_, .cons q1 q2, fun z hm => ?_⟩
        simp only [noLs, Bool.and_eq_true] at z
        rcases List.mem_append.mp hm with z1 | z1
        · exact n1 z.1 z1
        · exact n2 z.2 z1
      · cases e
theorem readsK_ok (I : Inv X pins σ H s) : ∀ (ds : List (D × D)) (kv : List (Key × V)) (vs : List (Key × Value)) (ps : List (PyData × PyData)), Rkv X.K H α ds kv → KV kv vs → toPyK ds = some ps →
    ∃ bs, ps.map (·.1) = (vs.map (·.1)).map keyPy ∧ ReadsAll s.heap (vs.map (·.2)) (ps.map (·.2)) bs ∧ (noLk ds = true → sysModules ∉ bs)
  | [], kv, vs, ps, h, r, e => by
    simp only [Rkv] at h
    subst h
    cases r
    simp only [toPyK, Option.some.injEq] at e
    subst e
    exact ⟨[], rfl, .nil, fun _ z => nomatch z⟩
  | (k, d) :: ds, l, vs, ps, h, r, e => by
    simp only [Rkv] at h
    obtain ⟨q, v, kv, rfl, h0, h1, h2⟩ := h
    cases r with
    | cons r1 r2 =>
      rename_i kv2 vs2
      obtain ⟨k2, u2⟩ := kv2
      simp only [toPyK] at e
      split at e
      · rename_i y0 y ys e0 e1 e2
        cases e
        obtain ⟨as, q1, n1⟩ := reads_ok I d v _ y h1 r1.2 e1
        obtain ⟨bs, qb, q2, n2⟩ := readsK_ok I ds kv vs2 ys h2 r2 e2
        refine ⟨as ++ bs, ?_, .cons q1 q2, fun z hm => ?_⟩
        · simp only [List.map_cons, qb, toPy_key h0 e0]
          rw [show q = k2 from r1.1]
        · simp only [noLk, Bool.and_eq_true] at z
          rcases List.mem_append.mp hm with z1 | z1
          · exact n1 z.1 z1
          · exact n2 z.2 z1
      · cases e
theorem readsT_ok (I : Inv X pins σ H s) : ∀ (ds : List (D × D)) (kv : List (List Key × V)) (xs : List (List Key × Addr × Value)) (ps : List (PyData × PyData)), RkT X.K H α ds kv →
    Paired (fun (p : List Key × V) (q : List Key × Addr × Value) => p.1 = q.1 ∧ H q.2.1 = some (.tup (p.1.map kV)) ∧ RelV p.2 q.2.2) kv xs → toPyK ds = some ps →
    ∃ as bs, ReadsAll s.heap (xs.map ((·.key) ∘ entryOfKey (tupleKind (mixKind X.prog X.w)))) (ps.map (·.1)) as ∧ ReadsAll s.heap (xs.map ((·.val) ∘ entryOfKey (tupleKind (mixKind X.prog X.w)))) (ps.map (·.2)) bs ∧ (noLk ds = true → sysModules ∉ as ++ bs)
  | [], kv, vs, ps, h, r, e => by
    simp only [RkT] at h
    subst h
    cases r
    simp only [toPyK, Option.some.injEq] at e
    subst e
    exact ⟨[], [], .nil, .nil, fun _ z => nomatch z⟩
  | (k, d) :: ds, l, vs, ps, h, r, e => by
    simp only [RkT] at h
    obtain ⟨q, v, kv, rfl, h0, h1, h2⟩ := h
    cases r with
    | cons r1 r2 =>
      rename_i x xs
      obtain ⟨k2, a2, u2⟩ := x
      simp only [toPyK] at e
      split at e
      · rename_i y0 y ys e0 e1 e2
        cases e
        obtain ⟨as, q1, n1⟩ := reads_ok I d v _ y h1 r1.2.2 e1
        obtain ⟨as', bs, qa, qb, n2⟩ := readsT_ok I ds kv xs ys h2 r2 e2
        have kt : Reads s.heap (.ref a2) y0 [] := by
          have hq : H a2 = some (.tup (q.map kV)) := r1.2.1
          obtain ⟨_, its, rv, o, ho, hc, n, hd⟩ := I.hok a2 _ hq
          cases k <;> simp only [keyT, reduceCtorEq] at h0
          rename_i ks
          simp only [toPy, Option.map_eq_some_iff] at e0
          obtain ⟨ps0, e0, rfl⟩ := e0
          refine .tuple ho hc hd ?_
          simp only [List.toList_toArray]
          clear hd
          have gen : ∀ (ks : List D) (q : List Key) (its : List Value) (ps0 : List PyData), ks.mapM keyD = some q → Vals (q.map kV) its → toPyL ks = some ps0 → ReadsAll s.heap its ps0 [] := by
            intro ks
            induction ks with
            | nil =>
              intro q its ps0 h0 rv e0
              simp only [List.mapM_nil, Option.pure_def, Option.some.injEq] at h0
              subst h0
              cases rv
              simp only [toPyL, Option.some.injEq] at e0
              subst e0
              exact .nil
            | cons k ks ih =>
              intro q its ps0 h0 rv e0
              rw [List.mapM_cons] at h0
              cases hk : keyD k with
              | none => rw [hk] at h0; cases h0
              | some k1 =>
                rw [hk] at h0
                cases hks : ks.mapM keyD with
                | none => rw [hks] at h0; cases h0
                | some ks1 =>
                  rw [hks] at h0
                  cases h0
                  simp only [List.map_cons] at rv
                  cases rv with
                  | cons ra rb =>
                    simp only [toPyL] at e0
                    split at e0
                    · rename_i y ys e1 e2
                      cases e0
                      have ey := toPy_key hk e1
                      subst ey
                      have rest := ih ks1 _ ys hks rb e2
                      cases k1 with
                      | inl i =>
                        obtain ⟨t, rfl⟩ := ra
                        exact .cons (.int i t) rest
                      | inr x =>
                        obtain ⟨t, rfl⟩ := ra
                        exact .cons (.str x t) rest
                    · cases e0
          exact gen ks q its ps0 h0 rv e0
        refine ⟨_, _, .cons kt qa, .cons q1 qb, fun z hm => ?_⟩
        simp only [noLk, Bool.and_eq_true] at z
        rcases List.mem_append.mp hm with z1 | z1
        · exact n2 z.2 (List.mem_append_left _ (by simpa using z1))
        · rcases List.mem_append.mp z1 with z2 | z2
          · exact n1 z.1 z2
          · exact n2 z.2 (List.mem_append_right _ z2)
      · cases e
end
theorem rx_reads {H0 : Hp} {α0 : List Addr} {σ1 : Sg} {st : S} (I : Inv X pins σ H s) (rl : Rel X.K H0 α0 H α σ1 st) {d : D} {v : V} {u : Value} {p : PyData} (h : Rx X.K H α σ1 d v) (r : RelV v u) : toPyS st d = some p → ∃ as, Reads s.heap u p as := by
  have viaL : ∀ d, asL st d ≠ none → Rx X.K H α σ1 d v → ((asL st d).bind fun xs => (toPyL xs).map .list) = some p → ∃ as, Reads s.heap u p as := by
    intro d hn h e
    cases ea : asL st d with
    | none => exact absurd ea hn
    | some xs =>
      rw [ea] at e
      simp only [Option.bind_some, Option.map_eq_some_iff] at e
      obtain ⟨ps, e, rfl⟩ := e
      obtain ⟨a, vs, rfl, hs, rr⟩ := asL_ok rl h ea
      cases r
      obtain ⟨its, rv, hl, _⟩ := I.list hs
      obtain ⟨o, ho, hc, n, hd⟩ := hl.isList
      obtain ⟨as, q, _⟩ := readsL_ok I xs vs its ps rr rv e
      exact ⟨_, .list ho hc hd (by simpa using q)⟩
  intro e
  cases d
  case own i =>
    have e' : ((asL st (.own i)).bind fun xs => (toPyL xs).map .list) = some p := e
    exact viaL _ (fun z => by rw [z] at e'; cases e') h e'
  case ref i =>
    have e' : ((asL st (.ref i)).bind fun xs => (toPyL xs).map .list) = some p := e
    exact viaL _ (fun z => by rw [z] at e'; cases e') h e'
  all_goals
    obtain ⟨as, q, _⟩ := reads_ok I _ v u p h r e
    exact ⟨as, q⟩
end
end DL

namespace DL
open PySem PySem.Spec PyProof.Rows L2
variable [DLX]
/-! ### 14. Comparisons of data -/
def rDat (K : PySem.W.Frag) (g : PyData → PyData → Option Bool) : R2 := fun x y H Q => ∃ H0 α0 α σ st a b p q r, Rel K H0 α0 H α σ st ∧ Rx K H α σ a x ∧ Rx K H α σ b y ∧ toPyS st a = some p ∧ toPyS st b = some q ∧ g p q = some r ∧ Q (.bl r) H
def gDat (g : PyData → PyData → Option Bool) : S → D → D → Option D := fun s a b => match toPyS s a, toPyS s b with
  | some p, some q => (g p q).map .bl
  | _, _ => none
def eqG (p q : PyData) : Option Bool := if SeqAt.shaped p && SeqAt.shaped q then some (PyData.eqv p q) else none
def neG (p q : PyData) : Option Bool := if SeqAt.shaped p && SeqAt.shaped q then some (!PyData.eqv p q) else none
def inG (p q : PyData) : Option Bool := match q with
  | .list xs => if SeqAt.shaped p && SeqAt.shaped q then some (xs.any fun y => PyData.eqv y p) else none
  | .tuple xs => if SeqAt.shaped p && SeqAt.shaped q then some (xs.any fun y => PyData.eqv y p) else none
  | .str z => (match p with | .str x => some (!(Builtin.Str.occurrences z x 0 z.length 1).isEmpty) | _ => none)
  | _ => none
def niG (p q : PyData) : Option Bool := (inG p q).map not
def isN (_ : S) (a b : D) : Option D := match b with
  | .non => (match a with | .own _ => none | .non => some (.bl true) | _ => some (.bl false))
  | _ => none
def notN (_ : S) (a b : D) : Option D := match b with
  | .non => (match a with | .own _ => none | .non => some (.bl false) | _ => some (.bl true))
  | _ => none
section
variable {X : Cx}
theorem os_dat {g : PyData → PyData → Option Bool} : OpS X (rDat X.K g) (gDat g) := fun H0 α0 σ H α s x y a b d Q r rx ry e q => by
  unfold gDat at e
  split at e
  · rename_i p w e1 e2
    simp only [Option.map_eq_some_iff] at e
    obtain ⟨k, e3, rfl⟩ := e
    exact ⟨H0, α0, α, σ, s, a, b, p, w, k, r, rx, ry, e1, e2, e3, .inl (q _ _ _ r (Stay.refl _ _) ox_bl)⟩
  · cases e
theorem op_eqX (hu : X.A.units + 65 < cLine) : OpR X (compareOp .Eq) (rDat X.K eqG) := by
  intro pins s σ H x y v u Q I rx ry h
  obtain ⟨H0, α0, α, σ1, st, a, b, p, q, r, rl, ra, rb, ea, eb, eg, k⟩ := h
  obtain ⟨as, r1⟩ := rx_reads I rl ra rx ea
  obtain ⟨bs, r2⟩ := rx_reads I rl rb ry eb
  unfold eqG at eg
  split at eg
  · rename_i hs
    rw [Bool.and_eq_true] at hs
    cases eg
    exact SeqAt.compareEq_shaped r1 r2 hs.1 hs.2 (by omega) ⟨.bl _, H, I, rfl, k⟩
  · cases eg
theorem op_neX (hu : X.A.units + 65 < cLine) : OpR X (compareOp .NotEq) (rDat X.K neG) := by
  intro pins s σ H x y v u Q I rx ry h
  obtain ⟨H0, α0, α, σ1, st, a, b, p, q, r, rl, ra, rb, ea, eb, eg, k⟩ := h
  obtain ⟨as, r1⟩ := rx_reads I rl ra rx ea
  obtain ⟨bs, r2⟩ := rx_reads I rl rb ry eb
  unfold neG at eg
  split at eg
  · rename_i hs
    rw [Bool.and_eq_true] at hs
    cases eg
    exact SeqAt.compareNe_shaped r1 r2 hs.1 hs.2 (by omega) ⟨.bl _, H, I, rfl, k⟩
  · cases eg
theorem op_inX (hu : X.A.units + 65 < cLine) : OpR X (compareOp .In) (rDat X.K inG) := by
  intro pins s σ H x y v u Q I rx ry h
  obtain ⟨H0, α0, α, σ1, st, a, b, p, q, r, rl, ra, rb, ea, eb, eg, k⟩ := h
  obtain ⟨as, r1⟩ := rx_reads I rl ra rx ea
  obtain ⟨bs, r2⟩ := rx_reads I rl rb ry eb
  unfold inG at eg
  split at eg
  · split at eg
    · rename_i hs
      rw [Bool.and_eq_true] at hs
      cases eg
      exact SeqAt.in_list_reads r2 r1 (SeqAt.canLay_of_shaped hs.2) (SeqAt.canLay_of_shaped hs.1) (room_in_shaped hs.1 hu) ⟨.bl _, H, I, rfl, k⟩
    · cases eg
  · split at eg
    · rename_i hs
      rw [Bool.and_eq_true] at hs
      cases eg
      exact SeqAt.in_tuple_reads r2 r1 (SeqAt.canLay_of_shaped hs.2) (SeqAt.canLay_of_shaped hs.1) (room_in_shaped hs.1 hu) ⟨.bl _, H, I, rfl, k⟩
    · cases eg
  · split at eg
    · cases eg
      cases r1
      cases r2
      have sx : x = .str _ := RelV.inj rx ⟨_, rfl⟩
      have sy : y = .str _ := RelV.inj ry ⟨_, rfl⟩
      exact op_in_str pins s σ H x y _ _ Q I rx ry ⟨_, _, sx, sy, k⟩
    · cases eg
  · cases eg
theorem op_niX (hu : X.A.units + 65 < cLine) : OpR X (compareOp .NotIn) (rDat X.K niG) := by
  intro pins s σ H x y v u Q I rx ry h
  obtain ⟨H0, α0, α, σ1, st, a, b, p, q, r, rl, ra, rb, ea, eb, eg, k⟩ := h
  obtain ⟨as, r1⟩ := rx_reads I rl ra rx ea
  obtain ⟨bs, r2⟩ := rx_reads I rl rb ry eb
  unfold niG inG at eg
  simp only [Option.map_eq_some_iff] at eg
  obtain ⟨r', eg, rfl⟩ := eg
  split at eg
  · split at eg
    · rename_i hs
      rw [Bool.and_eq_true] at hs
      cases eg
      exact SeqAt.notIn_list_reads r2 r1 (SeqAt.canLay_of_shaped hs.2) (SeqAt.canLay_of_shaped hs.1) (room_in_shaped hs.1 hu) ⟨.bl _, H, I, rfl, k⟩
    · cases eg
  · split at eg
    · rename_i hs
      rw [Bool.and_eq_true] at hs
      cases eg
      exact SeqAt.notIn_tuple_reads r2 r1 (SeqAt.canLay_of_shaped hs.2) (SeqAt.canLay_of_shaped hs.1) (room_in_shaped hs.1 hu) ⟨.bl _, H, I, rfl, k⟩
    · cases eg
  · split at eg
    · cases eg
      cases r1
      cases r2
      have sx : x = .str _ := RelV.inj rx ⟨_, rfl⟩
      have sy : y = .str _ := RelV.inj ry ⟨_, rfl⟩
      exact op_notin_str pins s σ H x y _ _ Q I rx ry ⟨_, _, sx, sy, k⟩
    · cases eg
  · cases eg
theorem rv_ne_non {K : PySem.W.Frag} {H : Hp} {α : List Addr} {d : D} {v : V} (h : Rv K H α d v) (n : d ≠ .non) : v ≠ .non := by
  intro z
  subst z
  cases d <;> simp only [Rv, reduceCtorEq, false_and, and_false, exists_false, exists_const] at h
  exact n rfl
theorem os_isN : OpS X (fun x y H Q => y = .non ∧ Q (.bl (decide (x = .non))) H) isN := fun H0 α0 σ H α s x y a b d Q r rx ry e q => by
  unfold isN at e
  split at e
  · refine ⟨rx_non ry, .inl ?_⟩
    split at e
    · cases e
    · cases e
      rw [rx_non rx]
      exact q _ _ _ r (Stay.refl _ _) ox_bl
    · rename_i n1 n2
      cases e
      have h := rv_ne_non (rx.rv (fun i z => n1 i z)) n2
      rw [decide_eq_false h]
      exact q _ _ _ r (Stay.refl _ _) ox_bl
  · cases e
theorem os_notN : OpS X (fun x y H Q => y = .non ∧ Q (.bl (!decide (x = .non))) H) notN := fun H0 α0 σ H α s x y a b d Q r rx ry e q => by
  unfold notN at e
  split at e
  · refine ⟨rx_non ry, .inl ?_⟩
    split at e
    · cases e
    · cases e
      rw [rx_non rx]
      exact q _ _ _ r (Stay.refl _ _) ox_bl
    · rename_i n1 n2
      cases e
      have h := rv_ne_non (rx.rv (fun i z => n1 i z)) n2
      rw [decide_eq_false h]
      exact q _ _ _ r (Stay.refl _ _) ox_bl
  · cases e
end
/-- an operator's rule with what it does to data -/
structure Cmp (X : Cx) (op : CmpOp) (g : S → D → D → Option D) : Prop where
  ex : ∃ r, OpR X (compareOp op) r ∧ OpS X r g
section
variable {X : Cx} {hu : X.A.units + 65 < cLine}
abbrev gLt := gI (fun _ _ => true) fun i j => .bl (decide (i < j))
abbrev gLe := gI (fun _ _ => true) fun i j => .bl (decide (i ≤ j))
abbrev gGt := gI (fun _ _ => true) fun i j => .bl (decide (j < i))
abbrev gGe := gI (fun _ _ => true) fun i j => .bl (decide (j ≤ i))
theorem c_lt : Cmp X .Lt gLt := ⟨_, op_lt, os_B0⟩
theorem c_le : Cmp X .LtE gLe := ⟨_, op_le, os_B0⟩
theorem c_gt : Cmp X .Gt gGt := ⟨_, op_gt, os_B0⟩
theorem c_ge : Cmp X .GtE gGe := ⟨_, op_ge, os_B0⟩
theorem c_eq (hu : X.A.units + 65 < cLine) : Cmp X .Eq (gDat eqG) := ⟨_, op_eqX hu, os_dat⟩
theorem c_ne (hu : X.A.units + 65 < cLine) : Cmp X .NotEq (gDat neG) := ⟨_, op_neX hu, os_dat⟩
theorem c_in (hu : X.A.units + 65 < cLine) : Cmp X .In (gDat inG) := ⟨_, op_inX hu, os_dat⟩
theorem c_ni (hu : X.A.units + 65 < cLine) : Cmp X .NotIn (gDat niG) := ⟨_, op_niX hu, os_dat⟩
theorem c_is : Cmp X .Is isN := ⟨_, op_isN, os_isN⟩
theorem c_isnot : Cmp X .IsNot notN := ⟨_, op_notN, os_notN⟩
/-! ### 15. Tests -/
def truthD (s : S) (d : D) : Option Bool := match d with
  | .bl b => some b
  | .int i => some (i != 0)
  | .non => some false
  | .str x => if x.length ≤ 16777216 then some ((x.length : Int) != 0) else none
  | .tup xs => some (!xs.isEmpty)
  | d => (asL s d).map fun xs => !xs.isEmpty
def dTruth (fa : FE) : FT := fun s => (fa s).bind fun d s1 => match truthD s1 d with | some b => .ok b s1 | none => .bad
/-- a comparison, as a test -/
def dCmpT (g : S → D → D → Option D) (fa fb : FE) : FT := fun s => (fa s).bind fun a s1 => (fb s1).bind fun b s2 => match g s2 a b with | some (.bl k) => .ok k s2 | _ => .bad
theorem tru_of {K : PySem.W.Frag} {H0 H : Hp} {α0 α : List Addr} {σ : Sg} {s : S} {d : D} {v : V} {b : Bool} (r : Rel K H0 α0 H α σ s) (h : Rx K H α σ d v) (e : truthD s d = some b) : TruV K v H b := by
  have vl : ∀ d, (asL s d).map (fun xs => !xs.isEmpty) = some b → Rx K H α σ d v → TruV K v H b := by
    intro d e9 h9
    simp only [Option.map_eq_some_iff] at e9
    obtain ⟨xs, e8, e7⟩ := e9
    obtain ⟨a, vs, rfl, hs, rr⟩ := asL_ok r h9 e8
    subst e7
    refine .inl ⟨vs, hs, ?_⟩
    have hl := rr.length
    cases xs <;> cases vs <;> simp_all
  unfold truthD at e
  split at e
  · cases e; rw [rx_bl h]; rfl
  · cases e; rw [rx_int h]; rfl
  · cases e; rw [rx_non h]; rfl
  · split at e
    · rename_i hz
      rw [← sizeLine_eq] at hz
      cases e; rw [rx_str h]; exact ⟨hz, rfl⟩
    · cases e
  · cases e
    obtain ⟨a, vs, rfl, hs, rr⟩ := asT_ok h
    refine .inr (.inl ⟨vs, hs, ?_⟩)
    have hl := rr.length
    rename_i xs
    cases xs <;> cases vs <;> simp_all
  · exact vl _ e h
theorem PostT.mono {K : PySem.W.Frag} {H0 : Hp} {α0 : List Addr} {σ : Sg} {W : WX} {H H1 : Hp} {α α1 : List Addr} {Q : Bool → Hp → Prop} (t : Stay H α H1 α1) {x : Res Bool} (q : PostT K H0 α0 σ W H α Q x) : PostT K H0 α0 σ W H1 α1 Q x := by
  cases x with
  | ok d s' => exact fun H' α' r t' => q H' α' r (t.trans t')
  | exc e s' => exact q
  | bad => exact q
theorem pt_tr {a : Expr} {fa : FE} (ha : PED X a fa) (he : ∀ whole, isTrue a X.env whole = (do let v ← whole; standAt a.pos; holding [v] (truthy v)) := by intro _; rfl) : PTD X a (dTruth fa) := by
  refine ⟨fun W tk => ?_⟩
  obtain ⟨ta, pa, qa⟩ := ha.run W tk
  refine ⟨_, pt_truth pa he, fun H0 α0 σ H α s Q r q => qa H0 α0 σ H α s _ r ?_⟩
  unfold dTruth at q
  cases ea : fa s with
  | bad => rw [ea] at q; exact q.elim
  | exc e s1 => rw [ea] at q; exact q
  | ok d s1 =>
    rw [ea] at q
    simp only [Res.bind] at q
    intro v H1 α1 r1 t1 rv
    cases et : truthD s1 d with
    | none => rw [et] at q; exact q.elim
    | some b =>
      rw [et] at q
      exact ⟨b, tru_of r1 rv et, q H1 α1 r1 t1⟩
theorem pt_cm {op : CmpOp} {a b : Expr} {pos : Pos} {g : S → D → D → Option D} {fa fb : FE} (c : Cmp X op g) (ha : PED X a fa) (hb : PED X b fb) (hm : behindInMarks op b = false := by first | exact nomark _ | rfl) : PTD X (.Compare a [op] [b] pos) (dCmpT g fa fb) := by
  obtain ⟨r, ho, hs⟩ := c.ex
  refine ⟨fun W tk => ?_⟩
  obtain ⟨ta, pa, qa⟩ := ha.run W tk
  obtain ⟨tb, pb, qb⟩ := hb.run W tk
  refine ⟨_, pt_cmpR (opGh ho) pa pb hm, fun H0 α0 σ H α s Q rl q => ?_⟩
  unfold dCmpT at q
  refine qa H0 α0 σ H α s _ rl ?_
  cases ea : fa s with
  | bad => rw [ea] at q; exact q.elim
  | exc e s1 => rw [ea] at q; exact q
  | ok u s1 =>
    rw [ea] at q
    intro x H1 α1 r1 t1 rx
    refine qb H0 α0 σ H1 α1 s1 _ r1 ?_
    simp only [Res.bind] at q
    cases eb : fb s1 with
    | bad => rw [eb] at q; exact q.elim
    | exc e s2 => rw [eb] at q; exact q
    | ok w s2 =>
      rw [eb] at q
      intro y H2 α2 r2 t2 ry
      simp only at q
      split at q
      · rename_i k eg
        refine hs H0 α0 σ H2 α2 s2 x y u w _ _ r2 (rx.stay t2) ry eg fun v H' α' r' t' rv => ?_
        exact ⟨k, rx_bl rv, q H' α' r' ((t1.trans t2).trans t')⟩
      · exact q.elim
theorem pd_cm {op : CmpOp} {a b : Expr} {pos : Pos} {g : S → D → D → Option D} {fa fb : FE} (c : Cmp X op g) (ha : PED X a fa) (hb : PED X b fb) (hm : behindInMarks op b = false := by first | exact nomark _ | rfl) : PED X (.Compare a [op] [b] pos) (dOp g fa fb) := by
  obtain ⟨r, ho, hs⟩ := c.ex
  exact pd_cmp ho hs ha hb hm
def dNotT (fa : FT) : FT := fun s => (fa s).bind fun b s1 => .ok (!b) s1
theorem pt_nt {a : Expr} {pos : Pos} {fa : FT} (ha : PTD X a fa) : PTD X (.UnaryOp .Not a pos) (dNotT fa) := by
  refine ⟨fun W tk => ?_⟩
  obtain ⟨ta, pa, qa⟩ := ha.run W tk
  refine ⟨_, pt_not pa, fun H0 α0 σ H α s Q r q => qa H0 α0 σ H α s _ r ?_⟩
  unfold dNotT at q
  cases ea : fa s with
  | bad => rw [ea] at q; exact q.elim
  | exc e s1 => rw [ea] at q; exact q
  | ok d s1 =>
    rw [ea] at q
    exact fun H1 α1 r1 t1 => q H1 α1 r1 t1
/-- and, or: as a test; the rest is a test whatever its whole is -/
structure PWD (X : Cx) (e : Expr) (f : FT) : Prop where
  run : ∀ W, Takes X W → ∃ t, PW X e t ∧ ∀ H0 α0 σ H α s Q, Rel X.K H0 α0 H α σ s → PostT X.K H0 α0 σ W H α Q (f s) → t σ H Q
theorem PWD.pt {e : Expr} {f : FT} (h : PWD X e f) : PTD X e f := ⟨fun W tk => let ⟨t, p, q⟩ := h.run W tk; ⟨t, p.pt, q⟩⟩
def dAndT (fa fb : FT) : FT := fun s => (fa s).bind fun b s1 => if b then fb s1 else .ok false s1
def dOrT (fa fb : FT) : FT := fun s => (fa s).bind fun b s1 => if b then .ok true s1 else fb s1
variable {a b : Expr} {rest : List Expr} {pos : Pos}
theorem pw_a1 {fa : FT} (ha : PTD X a fa) : PWD X (.BoolOp .And [a] pos) fa := ⟨fun W tk => let ⟨t, p, q⟩ := ha.run W tk; ⟨t, pw_and1 p, q⟩⟩
theorem pw_o1 {fa : FT} (ha : PTD X a fa) : PWD X (.BoolOp .Or [a] pos) fa := ⟨fun W tk => let ⟨t, p, q⟩ := ha.run W tk; ⟨t, pw_or1 p, q⟩⟩
theorem pw_a {fa fb : FT} (ha : PTD X a fa) (hb : PWD X (.BoolOp .And (b :: rest) pos) fb) : PWD X (.BoolOp .And (a :: b :: rest) pos) (dAndT fa fb) := by
  refine ⟨fun W tk => ?_⟩
  obtain ⟨ta, pa, qa⟩ := ha.run W tk
  obtain ⟨tb, pb, qb⟩ := hb.run W tk
  refine ⟨_, pw_and pa pb, fun H0 α0 σ H α s Q r q => qa H0 α0 σ H α s _ r ?_⟩
  unfold dAndT at q
  cases ea : fa s with
  | bad => rw [ea] at q; exact q.elim
  | exc e s1 => rw [ea] at q; exact q
  | ok d s1 =>
    rw [ea] at q
    intro H1 α1 r1 t1
    simp only [Res.bind] at q
    cases d with
    | true => exact qb H0 α0 σ H1 α1 s1 Q r1 (PostT.mono t1 q)
    | false => exact q H1 α1 r1 t1
theorem pw_o {fa fb : FT} (ha : PTD X a fa) (hb : PWD X (.BoolOp .Or (b :: rest) pos) fb) : PWD X (.BoolOp .Or (a :: b :: rest) pos) (dOrT fa fb) := by
  refine ⟨fun W tk => ?_⟩
  obtain ⟨ta, pa, qa⟩ := ha.run W tk
  obtain ⟨tb, pb, qb⟩ := hb.run W tk
  refine ⟨_, pw_or pa pb, fun H0 α0 σ H α s Q r q => qa H0 α0 σ H α s _ r ?_⟩
  unfold dOrT at q
  cases ea : fa s with
  | bad => rw [ea] at q; exact q.elim
  | exc e s1 => rw [ea] at q; exact q
  | ok d s1 =>
    rw [ea] at q
    intro H1 α1 r1 t1
    simp only [Res.bind] at q
    cases d with
    | false => exact qb H0 α0 σ H1 α1 s1 Q r1 (PostT.mono t1 q)
    | true => exact q H1 α1 r1 t1
/-! as values -/
def dAndV (fa fb : FE) : FE := fun s => (fa s).bind fun d s1 => match truthD s1 d with | some true => fb s1 | some false => .ok d s1 | none => .bad
def dOrV (fa fb : FE) : FE := fun s => (fa s).bind fun d s1 => match truthD s1 d with | some true => .ok d s1 | some false => fb s1 | none => .bad
def dNotV (fa : FE) : FE := fun s => (fa s).bind fun d s1 => match truthD s1 d with | some b => .ok (.bl (!b)) s1 | none => .bad
theorem pd_one {op} {fa : FE} (h : PED X a fa) : PED X (.BoolOp op [a] pos) fa := ⟨fun W tk => let ⟨t, p, q⟩ := h.run W tk; ⟨t, pe_one p, q⟩⟩
theorem pd_and {fa fb : FE} (ha : PED X a fa) (hb : PED X (.BoolOp .And (b :: rest) pos) fb) : PED X (.BoolOp .And (a :: b :: rest) pos) (dAndV fa fb) := by
  refine ⟨fun W tk => ?_⟩
  obtain ⟨ta, pa, qa⟩ := ha.run W tk
  obtain ⟨tb, pb, qb⟩ := hb.run W tk
  refine ⟨_, pe_andT pa pb, fun H0 α0 σ H α s Q r q => qa H0 α0 σ H α s _ r ?_⟩
  unfold dAndV at q
  cases ea : fa s with
  | bad => rw [ea] at q; exact q.elim
  | exc e s1 => rw [ea] at q; exact q
  | ok d s1 =>
    rw [ea] at q
    intro v H1 α1 r1 t1 rv
    simp only [Res.bind] at q
    cases et : truthD s1 d with
    | none => rw [et] at q; exact q.elim
    | some k =>
      rw [et] at q
      refine ⟨k, tru_of r1 rv et, ?_⟩
      cases k with
      | true => rw [if_pos rfl]; exact qb H0 α0 σ H1 α1 s1 Q r1 (PostE.mono t1 q)
      | false => rw [if_neg (by decide)]; exact q v H1 α1 r1 t1 rv
theorem pd_or {fa fb : FE} (ha : PED X a fa) (hb : PED X (.BoolOp .Or (b :: rest) pos) fb) : PED X (.BoolOp .Or (a :: b :: rest) pos) (dOrV fa fb) := by
  refine ⟨fun W tk => ?_⟩
  obtain ⟨ta, pa, qa⟩ := ha.run W tk
  obtain ⟨tb, pb, qb⟩ := hb.run W tk
  refine ⟨_, pe_orT pa pb, fun H0 α0 σ H α s Q r q => qa H0 α0 σ H α s _ r ?_⟩
  unfold dOrV at q
  cases ea : fa s with
  | bad => rw [ea] at q; exact q.elim
  | exc e s1 => rw [ea] at q; exact q
  | ok d s1 =>
    rw [ea] at q
    intro v H1 α1 r1 t1 rv
    simp only [Res.bind] at q
    cases et : truthD s1 d with
    | none => rw [et] at q; exact q.elim
    | some k =>
      rw [et] at q
      refine ⟨k, tru_of r1 rv et, ?_⟩
      cases k with
      | true => rw [if_pos rfl]; exact q v H1 α1 r1 t1 rv
      | false => rw [if_neg (by decide)]; exact qb H0 α0 σ H1 α1 s1 Q r1 (PostE.mono t1 q)
theorem pd_not {fa : FE} (ha : PED X a fa) : PED X (.UnaryOp .Not a pos) (dNotV fa) := by
  refine ⟨fun W tk => ?_⟩
  obtain ⟨ta, pa, qa⟩ := ha.run W tk
  refine ⟨_, pe_notT pa, fun H0 α0 σ H α s Q r q => qa H0 α0 σ H α s _ r ?_⟩
  unfold dNotV at q
  cases ea : fa s with
  | bad => rw [ea] at q; exact q.elim
  | exc e s1 => rw [ea] at q; exact q
  | ok d s1 =>
    rw [ea] at q
    intro v H1 α1 r1 t1 rv
    simp only [Res.bind] at q
    cases et : truthD s1 d with
    | none => rw [et] at q; exact q.elim
    | some k =>
      rw [et] at q
      exact ⟨k, tru_of r1 rv et, q _ H1 α1 r1 t1 ox_bl⟩
/-- a if t else b -/
def dIf (ft : FT) (fa fb : FE) : FE := fun s => (ft s).bind fun b s1 => if b then fa s1 else fb s1
theorem pd_if {c : Expr} {ft : FT} {fa fb : FE} (hc : PTD X c ft) (ha : PED X a fa) (hb : PED X b fb) : PED X (.IfExp c a b pos) (dIf ft fa fb) := by
  refine ⟨fun W tk => ?_⟩
  obtain ⟨tc, pc, qc⟩ := hc.run W tk
  obtain ⟨ta, pa, qa⟩ := ha.run W tk
  obtain ⟨tb, pb, qb⟩ := hb.run W tk
  refine ⟨_, pe_ifExp pc pa pb, fun H0 α0 σ H α s Q r q => qc H0 α0 σ H α s _ r ?_⟩
  unfold dIf at q
  cases ec : ft s with
  | bad => rw [ec] at q; exact q.elim
  | exc e s1 => rw [ec] at q; exact q
  | ok k s1 =>
    rw [ec] at q
    intro H1 α1 r1 t1
    simp only [Res.bind] at q
    cases k with
    | true => rw [if_pos rfl]; exact qa H0 α0 σ H1 α1 s1 Q r1 (PostE.mono t1 q)
    | false => rw [if_neg (by decide)]; exact qb H0 α0 σ H1 α1 s1 Q r1 (PostE.mono t1 q)
end
end DL

namespace DL
open PySem PySem.Spec PyProof.Rows L2
variable [DLX]
/-! ### 16. Arguments, displays -/
def noOwn : D → Bool | .own _ => false | _ => true
def dNil : FA := fun s => .ok [] s
def dCons (fa : FE) (fr : FA) : FA := fun s => (fa s).bind fun d s1 => (fr s1).bind fun ds s2 => .ok (d :: ds) s2
section
variable {X : Cx}
theorem PostA.mono {K : PySem.W.Frag} {H0 : Hp} {α0 : List Addr} {σ : Sg} {W : WX} {H H1 : Hp} {α α1 : List Addr} {Q : List V → Hp → Prop} (t : Stay H α H1 α1) {x : Res (List D)} (q : PostA K H0 α0 σ W H α Q x) : PostA K H0 α0 σ W H1 α1 Q x := by
  cases x with
  | ok d s' => exact fun v H' α' r t' rx => q v H' α' r (t.trans t') rx
  | exc e s' => exact q
  | bad => exact q
theorem Rxs.stay {K : PySem.W.Frag} {H H' : Hp} {α α' : List Addr} {σ : Sg} (t : Stay H α H' α') {ds : List D} {vs : List V} (h : Rxs K H α σ ds vs) : Rxs K H' α' σ ds vs := Paired.mapP h fun _ _ q => q.stay t
theorem Rxs.rvs {K : PySem.W.Frag} {H : Hp} {α : List Addr} {σ : Sg} : ∀ {ds : List D} {vs : List V}, Rxs K H α σ ds vs → ds.all noOwn = true → Rvs K H α ds vs
  | [], _, .nil, _ => Rvs.nil
  | d :: ds, _, .cons a b, n => by
    rw [List.all_cons, Bool.and_eq_true] at n
    exact Rvs.cons (a.rv fun i z => by rw [z] at n; simp [noOwn] at n) (Rxs.rvs b n.2)
theorem Rxs.of {K : PySem.W.Frag} {H : Hp} {α : List Addr} {σ : Sg} : ∀ {ds : List D} {vs : List V}, Rvs K H α ds vs → Rxs K H α σ ds vs
  | [], _, h => by simp only [Rvs] at h; subst h; exact .nil
  | d :: ds, _, h => by
    simp only [Rvs] at h
    obtain ⟨v, r, rfl, h1, h2⟩ := h
    exact .cons (Rv.x h1) (Rxs.of h2)
theorem pa_n : PAD X [] dNil := ⟨fun W _ => ⟨_, pa_nil, fun H0 α0 σ H α s Q r q => q [] H α r (Stay.refl _ _) .nil⟩⟩
theorem pa_c {e : Expr} {es : List Expr} {fa : FE} {fr : FA} (ha : PED X e fa) (hr : PAD X es fr) (hs : starEach (e :: es) X.env = (false, eval e X.env) :: starEach es X.env := by rfl) : PAD X (e :: es) (dCons fa fr) := by
  refine ⟨fun W tk => ?_⟩
  obtain ⟨ta, pa, qa⟩ := ha.run W tk
  obtain ⟨tr, pr, qr⟩ := hr.run W tk
  refine ⟨_, pa_cons pa pr hs, fun H0 α0 σ H α s Q r q => qa H0 α0 σ H α s _ r ?_⟩
  unfold dCons at q
  cases ea : fa s with
  | bad => rw [ea] at q; exact q.elim
  | exc e s1 => rw [ea] at q; exact q
  | ok d s1 =>
    rw [ea] at q
    intro x H1 α1 r1 t1 rx
    simp only [Res.bind] at q
    refine qr H0 α0 σ H1 α1 s1 _ r1 ?_
    cases er : fr s1 with
    | bad => rw [er] at q; exact q.elim
    | exc e s2 => rw [er] at q; exact q
    | ok ds s2 =>
      rw [er] at q
      exact fun xs H2 α2 r2 t2 rxs => q (x :: xs) H2 α2 r2 (t1.trans t2) (.cons (rx.stay t2) rxs)
def dTup (fa : FA) : FE := fun s => (fa s).bind fun ds s1 => if ds.all noOwn && decide (ds.length ≤ 16777216) then .ok (.tup ds) s1 else .bad
theorem pd_tup {es : List Expr} {x1} {pos : Pos} {fa : FA} (ha : PAD X es fa) : PED X (.Tuple es x1 pos) (dTup fa) := by
  refine ⟨fun W tk => ?_⟩
  obtain ⟨ta, pa, qa⟩ := ha.run W tk
  refine ⟨_, pe_tup pa, fun H0 α0 σ H α s Q r q => qa H0 α0 σ H α s _ r ?_⟩
  unfold dTup at q
  cases ea : fa s with
  | bad => rw [ea] at q; exact q.elim
  | exc e s1 => rw [ea] at q; exact q
  | ok ds s1 =>
    rw [ea] at q
    intro xs H1 α1 r1 t1 rx
    simp only [Res.bind] at q
    split at q
    · rename_i hc
      rw [Bool.and_eq_true] at hc
      have rr := rx.rvs hc.1
      refine ⟨by rw [rr.length, sizeLine_eq]; exact of_decide_eq_true hc.2, fun p hp => ?_⟩
      exact new_tup r1 hp rr fun v H' α' r' t' rv => q v H' α' r' (t1.trans t') rv
    · exact q.elim
/-- a display of a list: a fresh one -/
def dLst (fa : FA) : FC := fun s => (fa s).bind fun ds s1 => if ds.all noOwn && decide (ds.length ≤ 16777216) then .ok (.lst ds) s1 else .bad
theorem new_lst {K : PySem.W.Frag} {H0 H : Hp} {α0 α : List Addr} {σ : Sg} {s : S} {p : Addr} {xs : List D} {vs : List V} {Q : VK} (r : Rel K H0 α0 H α σ s) (h : H p = none) (rr : Rvs K H α xs vs)
    (q : ∀ a H' α', Rel K H0 α0 H' α' σ s → Stay H α H' α' → RF K H0 H' α' σ s a (.lst xs) → Q (.ref a) H') : Q (.ref p) (upd H p (.lst vs)) := by
  have t : Stay H α (upd H p (.lst vs)) α := Stay.upd_new h
  refine q p _ α (r.new h) t ⟨⟨vs, upd_same, Rvs.stay t _ _ rr⟩, r.nota h, r.free0 h, fun i c' h1 h2 => ?_⟩
  obtain ⟨a, e1, _, _, e2⟩ := r.slots.own i c' h1
  rw [h2] at e1
  cases e1
  obtain ⟨o, e3⟩ := e2.some
  rw [h] at e3
  cases e3
theorem pf_lst {es : List Expr} {pos : Pos} {fa : FA} (ha : PAD X es fa) : PFD X (.List es pos) (dLst fa) := by
  refine ⟨fun W tk => ?_⟩
  obtain ⟨ta, pa, qa⟩ := ha.run W tk
  refine ⟨_, pe_lst pa, fun H0 α0 σ H α s Q r q => qa H0 α0 σ H α s _ r ?_⟩
  unfold dLst at q
  cases ea : fa s with
  | bad => rw [ea] at q; exact q.elim
  | exc e s1 => rw [ea] at q; exact q
  | ok ds s1 =>
    rw [ea] at q
    intro xs H1 α1 r1 t1 rx
    simp only [Res.bind] at q
    split at q
    · rename_i hc
      rw [Bool.and_eq_true] at hc
      have rr := rx.rvs hc.1
      refine ⟨by rw [rr.length, sizeLine_eq]; exact of_decide_eq_true hc.2, fun p hp => ?_⟩
      exact new_lst r1 hp rr fun v H' α' r' t' rv => q v H' α' r' (t1.trans t') rv
    · exact q.elim
/-- a fresh thing that is locked at once -/
def dFrz (f : FC) : FE := fun s => (f s).bind fun c s1 => match c with | .dead => .bad | .tab _ => .bad | c => .ok c.toD s1
theorem pd_f {e : Expr} {f : FC} (h : PFD X e f) : PED X e (dFrz f) := by
  refine ⟨fun W tk => ?_⟩
  obtain ⟨t, pe, qe⟩ := h.run W tk
  refine ⟨_, peGh pe, fun H0 α0 σ H α s Q r q => qe H0 α0 σ H α s _ r ?_⟩
  unfold dFrz at q
  cases ea : f s with
  | bad => rw [ea] at q; exact q.elim
  | exc e s1 => rw [ea] at q; exact q
  | ok c s1 =>
    rw [ea] at q
    intro a H1 α1 r1 t1 ⟨hc, na, n0, no⟩
    -- the step: H1 with a locked
    have stp : ∀ u o, H1 a = some u → ¬ Fixed u → Stay H1 α1 (upd H1 a (.frz o u)) α1 ∧ Rel X.K H0 α0 (upd H1 a (.frz o u)) α1 σ s1 := fun u o hu nf => by
      have t : Stay H1 α1 (upd H1 a (.frz o u)) α1 := ⟨fun b w hb fb => by
        by_cases e : b = a
        · subst e; rw [hu] at hb; cases hb; exact absurd fb nf
        · rw [upd_ne e]; exact hb, List.prefix_rfl, fun b hb => by
        by_cases e : b = a
        · subst e; rw [upd_same] at hb; cases hb
        · rw [upd_ne e] at hb; exact hb⟩
      refine ⟨t, r1.step t (fun b w hb _ hw => ?_) (fun b w hb _ hb1 => ?_)⟩
      · have e : b ≠ a := fun z => by
          subst z
          rcases hw with z | ⟨i, c', z1, z2⟩
          · exact na z
          · exact no i c' z1 z2
        rw [upd_ne e]; exact hb
      · have e : b ≠ a := fun z => by subst z; rw [n0] at hb; cases hb
        rw [upd_ne e]; exact hb1
    cases c with
    | dead => exact q.elim
    | tab n => exact q.elim
    | lst xs =>
      obtain ⟨vs, hv, rr⟩ := hc
      refine .inr ⟨a, .lst vs, hv, trivial, fun o => ?_⟩
      obtain ⟨t, rl⟩ := stp _ o hv (fun z => z)
      refine q _ _ α1 rl (t1.trans t) (Rv.x (d := .lst xs) ?_)
      simp only [Rv]
      exact ⟨a, vs, rfl, .inl ⟨o, upd_same⟩, Rvs.stay t _ _ rr⟩
    | dct kvs =>
      rcases hc with ⟨kv, hv, rr⟩ | ⟨kv, nn, hv, rr⟩
      · refine .inr ⟨a, .dK kv, hv, trivial, fun o => ?_⟩
        obtain ⟨t, rl⟩ := stp _ o hv (fun z => z)
        refine q _ _ α1 rl (t1.trans t) (Rv.x (d := .dct kvs) ?_)
        simp only [Rv]
        exact ⟨a, o, rfl, .inl ⟨kv, upd_same, Rkv.stay t _ _ rr⟩⟩
      · refine .inr ⟨a, .dT kv, hv, trivial, fun o => ?_⟩
        obtain ⟨t, rl⟩ := stp _ o hv (fun z => z)
        refine q _ _ α1 rl (t1.trans t) (Rv.x (d := .dct kvs) ?_)
        simp only [Rv]
        exact ⟨a, o, rfl, .inr ⟨kv, nn, upd_same, RkT.stay t _ _ rr⟩⟩
    | ins C fs =>
      obtain ⟨dx, vs, hv, rr⟩ := hc
      refine .inr ⟨a, .ins C dx vs, hv, trivial, fun o => ?_⟩
      obtain ⟨t, rl⟩ := stp _ o hv (fun z => z)
      refine q _ _ α1 rl (t1.trans t) (Rv.x (d := .obj C fs) ?_)
      simp only [Rv]
      exact ⟨a, o, dx, vs, rfl, upd_same, Rfs.stay t _ _ rr⟩
end
/-! ### 17. Subscripts, slices -/
def strI (z : Str) (i : Int) : Option D := if z.length ≤ 16777216 then (atI z.cps.toList i).map fun c => .str ⟨#[c]⟩ else none
def gIx : S → D → D → Option D := fun s a b => match b with
  | .int i => (match a with
    | .tup xs => atI xs i
    | .str z => strI z i
    | a => (asL s a).bind fun xs => atI xs i)
  | _ => none
section
variable {X : Cx}
theorem ixGh {r : R2} (h : IxR X r) : IxR X (fun x y H Q => r x y H fun v H1 => Gh H1 (Q v)) :=
  fun value slice pins s σ H x y v u Q I rx ry q hs => thn (h value slice pins s σ H x y v u _ I rx ry q hs) fun _ _ e => EP.gh e
theorem Rvs.atI {K : PySem.W.Frag} {H : Hp} {α : List Addr} {ds : List D} {vs : List V} {i : Int} {d : D} (h : Rvs K H α ds vs) (e : atI ds i = some d) : ∃ v, L2.atI vs i = some v ∧ Rv K H α d v := by
  unfold L2.atI at e ⊢
  rw [h.length]
  cases ej : ixN ds.length i with
  | none => rw [ej] at e; cases e
  | some j =>
    rw [ej] at e
    simp only [Option.bind_some] at e ⊢
    exact h.at_ e
theorem os_ix : OpS X (rIx X.K) gIx := fun H0 α0 σ H α s x y a b d Q r rx ry e q => by
  unfold gIx at e
  split at e
  · rename_i i
    rw [rx_int ry]
    split at e
    · obtain ⟨p, vs, rfl, h1, r1⟩ := asT_ok rx
      obtain ⟨v, ev, rv⟩ := r1.atI e
      exact .inr (.inl ⟨p, vs, i, v, rfl, rfl, h1, ev, .inl (q _ _ _ r (Stay.refl _ _) (Rv.x rv))⟩)
    · unfold strI at e
      split at e
      · rename_i hz
        rw [← sizeLine_eq] at hz
        simp only [Option.map_eq_some_iff] at e
        obtain ⟨c, ec, rfl⟩ := e
        rw [rx_str rx]
        exact .inr (.inr ⟨_, i, c, rfl, rfl, hz, ec, .inl (q _ _ _ r (Stay.refl _ _) ox_str)⟩)
      · cases e
    · cases ea : asL s a with
      | none => rw [ea] at e; cases e
      | some xs =>
        rw [ea] at e
        simp only [Option.bind_some] at e
        obtain ⟨p, vs, rfl, h1, r1⟩ := asL_ok r rx ea
        obtain ⟨v, ev, rv⟩ := r1.atI e
        exact .inl ⟨p, vs, i, v, rfl, rfl, h1, ev, .inl (q _ _ _ r (Stay.refl _ _) (Rv.x rv))⟩
  · cases e
theorem pd_ix {a b : Expr} {pos : Pos} {fa fb : FE} (ha : PED X a fa) (hb : PED X b fb) (hs : PlainIx b := by exact fun _ _ => rfl) : PED X (.Subscript a b pos) (dOp gIx fa fb) :=
  pd_opG (fun _ _ pa pb => pe_ix (ixGh ix_seq) pa pb hs) os_ix ha hb
/-- a part of a slice -/
abbrev FO := S → Res (Option Int)
def dNo : FO := fun s => .ok none s
def dPart (f : FE) : FO := fun s => (f s).bind fun d s1 => match d with | .int i => .ok (some i) s1 | _ => .bad
structure POD (X : Cx) (e : Option Expr) (f : FO) : Prop where
  run : ∀ W, Takes X W → ∃ t, PO X e t ∧ ∀ H0 α0 σ H α s (Q : Option Int → Hp → Prop), Rel X.K H0 α0 H α σ s → (match f s with
    | .ok o s' => ∀ H' α', Rel X.K H0 α0 H' α' σ s' → Stay H α H' α' → Q o H'
    | .exc e s' => ∀ cls dd H' α', Rel X.K H0 α0 H' α' σ s' → ExR X.K H' α' e cls dd → W cls dd σ H'
    | .bad => False) → t σ H Q
theorem po_n : POD X none dNo := ⟨fun W _ => ⟨_, po_none, fun H0 α0 σ H α s Q r q => q H α r (Stay.refl _ _)⟩⟩
theorem po_s {e : Expr} {f : FE} (h : PED X e f) : POD X (some e) (dPart f) := by
  refine ⟨fun W tk => ?_⟩
  obtain ⟨t, pe, qe⟩ := h.run W tk
  refine ⟨_, po_some pe, fun H0 α0 σ H α s Q r q => qe H0 α0 σ H α s _ r ?_⟩
  unfold dPart at q
  cases ea : f s with
  | bad => rw [ea] at q; exact q.elim
  | exc e s1 => rw [ea] at q; exact q
  | ok d s1 =>
    rw [ea] at q
    intro v H1 α1 r1 t1 rv
    cases d <;> simp only [Res.bind] at q <;> try exact q.elim
    exact ⟨_, rx_int rv, q H1 α1 r1 t1⟩
def cutD (xs : List D) (lo hi : Option Int) : List D := (xs.drop (HT.sIx xs.length 0 lo)).take (HT.sIx xs.length xs.length hi - HT.sIx xs.length 0 lo)
theorem Rvs.cut {K : PySem.W.Frag} {H : Hp} {α : List Addr} {ds : List D} {vs : List V} (h : Rvs K H α ds vs) (lo hi : Option Int) : Rvs K H α (cutD ds lo hi) (cutV vs lo hi) := by
  unfold cutD cutV
  rw [h.length]
  exact (h.drop _).take _
/-- a[lo:hi] of a tuple or a list -/
def dSl (fa : FE) (fl fh : FO) : FE := fun s => (fa s).bind fun a s1 => (fl s1).bind fun l s2 => (fh s2).bind fun h s3 => match a with
  | .tup xs => .ok (.tup (cutD xs l h)) s3
  | a => (match asL s3 a with | some xs => .ok (.lst (cutD xs l h)) s3 | none => .bad)
theorem slGh {r : V → Option Int → Option Int → Hp → VK → Prop} (h : SlR X r) : SlR X (fun x lo hi H Q => r x lo hi H fun v H1 => Gh H1 (Q v)) :=
  fun pins s σ H x v vl vu lo hi sl Q I rx hs pl pu q => by
    obtain ⟨T, id, e, ty, g⟩ := h pins s σ H x v vl vu lo hi sl _ I rx hs pl pu q
    exact ⟨T, id, e, ty, thn g fun _ _ e => EP.gh e⟩
theorem cutD_whole {xs : List D} {lo hi : Option Int} (h : HT.sIx xs.length 0 lo = 0 ∧ HT.sIx xs.length xs.length hi = xs.length) : cutD xs lo hi = xs := by
  unfold cutD
  rw [h.1, h.2, List.drop_zero, Nat.sub_zero, List.take_length]
theorem pd_sl {e : Expr} {lo hi : Option Expr} {p2 pos : Pos} {fa : FE} {fl fh : FO} (ha : PED X e fa) (hl : POD X lo fl) (hh : POD X hi fh) : PED X (.Subscript e (.Slice lo hi none p2) pos) (dSl fa fl fh) := by
  refine ⟨fun W tk => ?_⟩
  obtain ⟨ta, pa, qa⟩ := ha.run W tk
  obtain ⟨tl, pl, ql⟩ := hl.run W tk
  obtain ⟨th, ph, qh⟩ := hh.run W tk
  refine ⟨_, pe_slice (slGh (sl_tupA.or sl_list)) pa pl ph, fun H0 α0 σ H α s Q r q => qa H0 α0 σ H α s _ r ?_⟩
  unfold dSl at q
  cases ea : fa s with
  | bad => rw [ea] at q; exact q.elim
  | exc e s1 => rw [ea] at q; exact q
  | ok d s1 =>
    rw [ea] at q
    intro x H1 α1 r1 t1 rx
    refine ql H0 α0 σ H1 α1 s1 _ r1 ?_
    simp only [Res.bind] at q
    cases el : fl s1 with
    | bad => rw [el] at q; exact q.elim
    | exc e s2 => rw [el] at q; exact q
    | ok l s2 =>
      rw [el] at q
      intro H2 α2 r2 t2
      refine qh H0 α0 σ H2 α2 s2 _ r2 ?_
      simp only at q
      cases eh : fh s2 with
      | bad => rw [eh] at q; exact q.elim
      | exc e s3 => rw [eh] at q; exact q
      | ok h s3 =>
        rw [eh] at q
        intro H3 α3 r3 t3
        have rx3 := rx.stay (t2.trans t3)
        have t13 := t1.trans (t2.trans t3)
        simp only at q
        split at q
        · obtain ⟨p, vs, rfl, h1, rr⟩ := asT_ok rx3
          refine .inl ⟨p, vs, rfl, h1, fun hw => ?_, fun _ p2 hp => ?_⟩
          · rw [rr.length] at hw
            rw [cutD_whole hw] at q
            exact .inl (q _ H3 α3 r3 t13 rx3)
          · exact .inl (new_tup r3 hp (rr.cut l h) fun v H' α' r' t' rv => q v H' α' r' (t13.trans t') rv)
        · split at q
          · rename_i xs eL
            obtain ⟨p, vs, rfl, h1, rr⟩ := asL_ok r3 rx3 eL
            exact .inr ⟨p, vs, rfl, h1, fun p2 hp => gh_list r3 hp (rr.cut l h) fun v H' α' r' t' rv => q v H' α' r' (t13.trans t') rv⟩
          · exact q.elim
end
end DL

namespace DL
open PySem PySem.Spec PyProof.Rows L2
variable [DLX]
/-! ### 18. Statements -/
section
variable {X : Cx}
theorem PostS.mono {K : PySem.W.Frag} {H0 : Hp} {α0 : List Addr} {W : WX} {H H1 : Hp} {α α1 : List Addr} {D : Ends} (t : Stay H α H1 α1) {x : SR} (q : PostS K H0 α0 W H α D x) : PostS K H0 α0 W H1 α1 D x := by
  cases x with
  | nx s' => exact fun σ' H' α' r t' => q σ' H' α' r (t.trans t')
  | bk s' => exact fun σ' H' α' r t' => q σ' H' α' r (t.trans t')
  | ct s' => exact fun σ' H' α' r t' => q σ' H' α' r (t.trans t')
  | rt d s' => exact q
  | rtc d s' => exact q
  | exc e s' => exact q
  | bad => exact q
def dSkip : FS := fun s => .nx s
def dSeq (f g : FS) : FS := fun s => match f s with
  | .nx s1 => g s1
  | .rt d s1 => .rt d s1
  | .rtc c s1 => .rtc c s1
  | .bk s1 => .bk s1
  | .ct s1 => .ct s1
  | .exc e s1 => .exc e s1
  | .bad => .bad
theorem sd_pass {pos : Pos} : PSD X (.Pass pos) dSkip := ⟨fun W _ => ⟨_, ps_pass, fun H0 α0 σ H α s D r q => q σ H α r (Stay.refl _ _)⟩⟩
theorem sd_nil : PSsD X [] dSkip := ⟨fun W _ => ⟨_, pss_nil, fun H0 α0 σ H α s D r q => q σ H α r (Stay.refl _ _)⟩⟩
theorem sd_one {st : Stmt} {f : FS} (h : PSD X st f) : PSsD X [st] f := ⟨fun W tk => let ⟨t, p, q⟩ := h.run W tk; ⟨t, pss_one p, q⟩⟩
theorem sd_cons {st : Stmt} {rest : List Stmt} {f g : FS} (h : PSD X st f) (hr : PSsD X rest g) : PSsD X (st :: rest) (dSeq f g) := by
  refine ⟨fun W tk => ?_⟩
  obtain ⟨t, p, q⟩ := h.run W tk
  obtain ⟨u, pu, qu⟩ := hr.run W tk
  refine ⟨_, pss_cons p pu, fun H0 α0 σ H α s D r k => q H0 α0 σ H α s { D with nx := u D } r ?_⟩
  unfold dSeq at k
  cases e : f s <;> rw [e] at k <;> try exact k
  exact fun σ' H' α' r' t' => qu H0 α0 σ' H' α' _ D r' (PostS.mono t' k)
def dBreak : FS := fun s => .bk s
def dCont : FS := fun s => .ct s
theorem sd_break {pos : Pos} : PSD X (.Break pos) dBreak := ⟨fun W _ => ⟨_, ps_break, fun H0 α0 σ H α s D r q => q σ H α r (Stay.refl _ _)⟩⟩
theorem sd_cont {pos : Pos} : PSD X (.Continue pos) dCont := ⟨fun W _ => ⟨_, ps_continue, fun H0 α0 σ H α s D r q => q σ H α r (Stay.refl _ _)⟩⟩
/-! stores to a slot -/
theorem get_set {α : Type} {l : List α} {i j : Nat} {x y : α} (h : (l.set i x)[j]? = some y) : (i = j ∧ y = x ∧ i < l.length) ∨ (i ≠ j ∧ l[j]? = some y) := by
  by_cases e : i = j
  · subst e
    by_cases hi : i < l.length
    · rw [List.getElem?_set_self hi] at h
      exact .inl ⟨rfl, (Option.some.inj h).symm, hi⟩
    · rw [List.getElem?_eq_none (by simpa using hi)] at h
      cases h
  · rw [List.getElem?_set_ne e] at h
    exact .inr ⟨e, h⟩
theorem Rel.setV {K : PySem.W.Frag} {H0 H : Hp} {α0 α : List Addr} {σ : Sg} {s : S} {i : Nat} {d : D} {v : V} (r : Rel K H0 α0 H α σ s) (h : Rv K H α d v) : Rel K H0 α0 H α (σ.set i (some v)) { s with δ := s.δ.set i (.val d) } := by
  refine ⟨r.cells, ⟨by simpa using r.slots.len, fun j x e => ?_, fun j c e => ?_, fun j k c c' a e1 e2 e3 e4 => ?_⟩, r.ot, r.nw, r.st⟩
  · rcases get_set e with ⟨rfl, e, hi⟩ | ⟨ne, e⟩
    · cases e
      exact ⟨v, by rw [List.getElem?_set_self (by rw [r.slots.len]; exact hi)], h⟩
    · obtain ⟨w, e1, e2⟩ := r.slots.val j x e
      exact ⟨w, by rw [List.getElem?_set_ne ne]; exact e1, e2⟩
  · rcases get_set e with ⟨rfl, e, hi⟩ | ⟨ne, e⟩
    · cases e
    · obtain ⟨a, e1, e2⟩ := r.slots.own j c e
      exact ⟨a, by rw [List.getElem?_set_ne ne]; exact e1, e2⟩
  · rcases get_set e1 with ⟨rfl, e, hi⟩ | ⟨ne1, e1⟩
    · cases e
    · rcases get_set e2 with ⟨rfl, e, hi⟩ | ⟨ne2, e2⟩
      · cases e
      · rw [List.getElem?_set_ne ne1] at e3
        rw [List.getElem?_set_ne ne2] at e4
        exact r.slots.inj j k c c' a e1 e2 e3 e4
theorem Rel.setO {K : PySem.W.Frag} {H0 H : Hp} {α0 α : List Addr} {σ : Sg} {s : S} {i : Nat} {c : Cell} {a : Addr} (r : Rel K H0 α0 H α σ s) (h : RF K H0 H α σ s a c) : Rel K H0 α0 H α (σ.set i (some (.ref a))) { s with δ := s.δ.set i (.own c) } := by
  obtain ⟨h1, h2, h3, h4⟩ := h
  refine ⟨r.cells, ⟨by simpa using r.slots.len, fun j x e => ?_, fun j c e => ?_, fun j k c c' b e1 e2 e3 e4 => ?_⟩, r.ot, r.nw, r.st⟩
  · rcases get_set e with ⟨rfl, e, hi⟩ | ⟨ne, e⟩
    · cases e
    · obtain ⟨w, e1, e2⟩ := r.slots.val j x e
      exact ⟨w, by rw [List.getElem?_set_ne ne]; exact e1, e2⟩
  · rcases get_set e with ⟨rfl, e, hi⟩ | ⟨ne, e⟩
    · cases e
      exact ⟨a, by rw [List.getElem?_set_self (by rw [r.slots.len]; exact hi)], h2, h3, h1⟩
    · obtain ⟨a, e1, e2⟩ := r.slots.own j c e
      exact ⟨a, by rw [List.getElem?_set_ne ne]; exact e1, e2⟩
  · rcases get_set e1 with ⟨rfl, e, hi⟩ | ⟨ne1, e1⟩
    · rcases get_set e2 with ⟨rfl, e', hi'⟩ | ⟨ne2, e2⟩
      · rfl
      · rw [List.getElem?_set_self (by rw [r.slots.len]; exact hi)] at e3
        cases e3
        rw [List.getElem?_set_ne ne2] at e4
        exact absurd e4 (h4 k c' e2)
    · rcases get_set e2 with ⟨rfl, e', hi'⟩ | ⟨ne2, e2⟩
      · rw [List.getElem?_set_self (by rw [r.slots.len]; exact hi')] at e4
        cases e4
        rw [List.getElem?_set_ne ne1] at e3
        exact absurd e3 (h4 j c e1)
      · rw [List.getElem?_set_ne ne1] at e3
        rw [List.getElem?_set_ne ne2] at e4
        exact r.slots.inj j k c c' b e1 e2 e3 e4
/-- a fresh thing becomes a shared cell -/
theorem Rel.share {K : PySem.W.Frag} {H0 H : Hp} {α0 α : List Addr} {σ : Sg} {s : S} {c : Cell} {a : Addr} (r : Rel K H0 α0 H α σ s) (h : RF K H0 H α σ s a c) :
    Rel K H0 α0 H (α ++ [a]) σ { s with μ := s.μ ++ [c] } ∧ Stay H α H (α ++ [a]) ∧ Rv K H (α ++ [a]) (.ref s.μ.length) (.ref a) := by
  obtain ⟨h1, h2, h3, h4⟩ := h
  have t : Stay H α H (α ++ [a]) := ⟨fun _ _ e _ => e, ⟨[a], rfl⟩, fun _ e => e⟩
  refine ⟨⟨⟨by simp [r.cells.len], ?_, fun n b x e1 e2 => ?_⟩, ⟨r.slots.len, fun i d e => ?_, fun i c' e => ?_, r.slots.inj⟩, r.ot, fun b hb => ?_, r.st.trans t⟩, t, ?_⟩
  · rw [List.nodup_append]
    exact ⟨r.cells.nd, by simp, fun x hx y hy => by simp at hy; subst hy; rintro rfl; exact h2 hx⟩
  · by_cases hn : n < α.length
    · rw [List.getElem?_append_left hn] at e1
      rw [List.getElem?_append_left (by show n < s.μ.length; rw [← r.cells.len]; exact hn)] at e2
      exact (r.cells.at_ n b x e1 e2).stay t (fun _ e _ => e)
    · have hl := (List.getElem?_eq_some_iff.mp e1).1
      have en : n = α.length := by simp at hl; omega
      subst en
      rw [List.getElem?_append_right (Nat.le_refl _)] at e1
      rw [r.cells.len, List.getElem?_append_right (Nat.le_refl _)] at e2
      simp at e1 e2
      subst e1 e2
      exact h1.stay t (fun _ e _ => e)
  · obtain ⟨v, e1, e2⟩ := r.slots.val i d e
    exact ⟨v, e1, Rv.stay t _ _ e2⟩
  · obtain ⟨b, e1, e2, e3, e4⟩ := r.slots.own i c' e
    refine ⟨b, e1, ?_, e3, e4.stay t (fun _ e _ => e)⟩
    rw [List.mem_append]
    rintro (z | z)
    · exact e2 z
    · simp at z
      subst z
      exact h4 i c' e e1
  · rcases List.mem_append.mp hb with z | z
    · exact r.nw b z
    · simp at z
      subst z
      exact .inr h3
  · simp only [Rv]
    exact ⟨a, by rw [← r.cells.len, List.getElem?_append_right (Nat.le_refl _)]; simp, rfl⟩
/-- name = e -/
def dAsg (i : Nat) (fa : FE) : FS := fun s => match fa s with
  | .ok d s1 => if noOwn d then .nx { s1 with δ := s1.δ.set i (.val d) } else .bad
  | .exc e s1 => .exc e s1
  | .bad => .bad
/-- name = a fresh thing, which the slot owns; which is shared from then on -/
def dAsgO (i : Nat) (fa : FC) : FS := fun s => match fa s with
  | .ok c s1 => .nx { s1 with δ := s1.δ.set i (.own c) }
  | .exc e s1 => .exc e s1
  | .bad => .bad
def dAsgR (i : Nat) (fa : FC) : FS := fun s => match fa s with
  | .ok c s1 => .nx { δ := s1.δ.set i (.val (.ref s1.μ.length)), μ := s1.μ ++ [c] }
  | .exc e s1 => .exc e s1
  | .bad => .bad
theorem noOwn_rv {K : PySem.W.Frag} {H : Hp} {α : List Addr} {σ : Sg} {d : D} {v : V} (h : Rx K H α σ d v) (n : noOwn d = true) : Rv K H α d v := h.rv fun i z => by rw [z] at n; simp [noOwn] at n
theorem sd_asg {e : Expr} {st : Stmt} {i : Nat} {fa : FE} (hp : ∀ te, PE X e te → PS X st (tAsg te (gName i))) (ha : PED X e fa) : PSD X st (dAsg i fa) := by
  refine ⟨fun W tk => ?_⟩
  obtain ⟨t, p, q⟩ := ha.run W tk
  refine ⟨_, hp t p, fun H0 α0 σ H α s D r k => q H0 α0 σ H α s _ r ?_⟩
  unfold dAsg at k
  cases ea : fa s with
  | bad => rw [ea] at k; exact k.elim
  | exc e s1 => rw [ea] at k; exact fun cls dd H' α' r' x => k cls dd σ H' α' r' x
  | ok d s1 =>
    rw [ea] at k
    simp only at k
    split at k
    · rename_i hn
      intro v H1 α1 r1 t1 rv
      exact k _ H1 α1 (r1.setV (noOwn_rv rv hn)) t1
    · exact k.elim
theorem sd_asgO {e : Expr} {st : Stmt} {i : Nat} {fa : FC} (hp : ∀ te, PE X e te → PS X st (tAsg te (gName i))) (ha : PFD X e fa) : PSD X st (dAsgO i fa) := by
  refine ⟨fun W tk => ?_⟩
  obtain ⟨t, p, q⟩ := ha.run W tk
  refine ⟨_, hp t p, fun H0 α0 σ H α s D r k => q H0 α0 σ H α s _ r ?_⟩
  unfold dAsgO at k
  cases ea : fa s with
  | bad => rw [ea] at k; exact k.elim
  | exc e s1 => rw [ea] at k; exact fun cls dd H' α' r' x => k cls dd σ H' α' r' x
  | ok c s1 =>
    rw [ea] at k
    intro a H1 α1 r1 t1 rf
    exact k _ H1 α1 (r1.setO rf) t1
theorem sd_asgR {e : Expr} {st : Stmt} {i : Nat} {fa : FC} (hp : ∀ te, PE X e te → PS X st (tAsg te (gName i))) (ha : PFD X e fa) : PSD X st (dAsgR i fa) := by
  refine ⟨fun W tk => ?_⟩
  obtain ⟨t, p, q⟩ := ha.run W tk
  refine ⟨_, hp t p, fun H0 α0 σ H α s D r k => q H0 α0 σ H α s _ r ?_⟩
  unfold dAsgR at k
  cases ea : fa s with
  | bad => rw [ea] at k; exact k.elim
  | exc e s1 => rw [ea] at k; exact fun cls dd H' α' r' x => k cls dd σ H' α' r' x
  | ok c s1 =>
    rw [ea] at k
    intro a H1 α1 r1 t1 rf
    obtain ⟨r2, t2, rv⟩ := r1.share rf
    exact k _ H1 _ (r2.setV rv) (t1.trans t2)
/-- return -/
def dRet (fa : FE) : FS := fun s => match fa s with
  | .ok d s1 => if noOwn d then .rt d s1 else .bad
  | .exc e s1 => .exc e s1
  | .bad => .bad
def dRetF (fa : FC) : FS := fun s => match fa s with
  | .ok c s1 => .rtc c s1
  | .exc e s1 => .exc e s1
  | .bad => .bad
theorem sd_ret {e : Expr} {pos : Pos} {fa : FE} (ha : PED X e fa) : PSD X (.Return (some e) pos) (dRet fa) := by
  refine ⟨fun W tk => ?_⟩
  obtain ⟨t, p, q⟩ := ha.run W tk
  refine ⟨_, ps_ret p, fun H0 α0 σ H α s D r k => q H0 α0 σ H α s _ r ?_⟩
  unfold dRet at k
  cases ea : fa s with
  | bad => rw [ea] at k; exact k.elim
  | exc e s1 => rw [ea] at k; exact fun cls dd H' α' r' x => k cls dd σ H' α' r' x
  | ok d s1 =>
    rw [ea] at k
    simp only at k
    split at k
    · rename_i hn
      exact fun v H1 α1 r1 t1 rv => k v σ H1 α1 r1 (noOwn_rv rv hn)
    · exact k.elim
theorem sd_retF {e : Expr} {pos : Pos} {fa : FC} (ha : PFD X e fa) : PSD X (.Return (some e) pos) (dRetF fa) := by
  refine ⟨fun W tk => ?_⟩
  obtain ⟨t, p, q⟩ := ha.run W tk
  refine ⟨_, ps_ret p, fun H0 α0 σ H α s D r k => q H0 α0 σ H α s _ r ?_⟩
  unfold dRetF at k
  cases ea : fa s with
  | bad => rw [ea] at k; exact k.elim
  | exc e s1 => rw [ea] at k; exact fun cls dd H' α' r' x => k cls dd σ H' α' r' x
  | ok c s1 =>
    rw [ea] at k
    exact fun a H1 α1 r1 t1 rf => k a σ H1 α1 r1 rf
def dRetN : FS := fun s => .rt .non s
theorem sd_retN {pos : Pos} : PSD X (.Return none pos) dRetN := ⟨fun W _ => ⟨_, ps_retN, fun H0 α0 σ H α s D r q => q .non σ H α r (by simp only [Rv])⟩⟩
/-- if -/
def dIfS (ft : FT) (f g : FS) : FS := fun s => match ft s with
  | .ok true s1 => f s1
  | .ok false s1 => g s1
  | .exc e s1 => .exc e s1
  | .bad => .bad
theorem sd_if {c : Expr} {a b : List Stmt} {pos : Pos} {ft : FT} {f g : FS} (hc : PTD X c ft) (ha : PSsD X a f) (hb : PSsD X b g) : PSD X (.If c a b pos) (dIfS ft f g) := by
  refine ⟨fun W tk => ?_⟩
  obtain ⟨tc, pc, qc⟩ := hc.run W tk
  obtain ⟨ta, pa, qa⟩ := ha.run W tk
  obtain ⟨tb, pb, qb⟩ := hb.run W tk
  refine ⟨_, ps_if pc pa pb, fun H0 α0 σ H α s D r k => qc H0 α0 σ H α s _ r ?_⟩
  unfold dIfS at k
  cases ec : ft s with
  | bad => rw [ec] at k; exact k.elim
  | exc e s1 => rw [ec] at k; exact fun cls dd H' α' r' x => k cls dd σ H' α' r' x
  | ok u s1 =>
    rw [ec] at k
    intro H1 α1 r1 t1
    cases u with
    | true => rw [if_pos rfl]; exact qa H0 α0 σ H1 α1 s1 D r1 (PostS.mono t1 k)
    | false => rw [if_neg (by decide)]; exact qb H0 α0 σ H1 α1 s1 D r1 (PostS.mono t1 k)
/-- an expression whose value is dropped -/
def dDrop (fa : FE) : FS := fun s => match fa s with
  | .ok _ s1 => .nx s1
  | .exc e s1 => .exc e s1
  | .bad => .bad
theorem sd_drop {e : Expr} {pos : Pos} {fa : FE} (ha : PED X e fa) (hs : swapsWith e none pos.line X.env = pure false := by rfl) : PSD X (.Expr e pos) (dDrop fa) := by
  refine ⟨fun W tk => ?_⟩
  obtain ⟨t, p, q⟩ := ha.run W tk
  refine ⟨_, ps_expr p hs, fun H0 α0 σ H α s D r k => q H0 α0 σ H α s _ r ?_⟩
  unfold dDrop at k
  cases ea : fa s with
  | bad => rw [ea] at k; exact k.elim
  | exc e s1 => rw [ea] at k; exact fun cls dd H' α' r' x => k cls dd σ H' α' r' x
  | ok d s1 =>
    rw [ea] at k
    exact fun v H1 α1 r1 t1 rv => k σ H1 α1 r1 t1
/-- while: n turns at most -/
def dWhile (ft : FT) (f : FS) : Nat → FS
  | 0, _ => .bad
  | n + 1, s => match ft s with
    | .ok true s1 => (match f s1 with
      | .nx s2 => dWhile ft f n s2
      | .ct s2 => dWhile ft f n s2
      | .bk s2 => .nx s2
      | .rt d s2 => .rt d s2
      | .rtc c s2 => .rtc c s2
      | .exc e s2 => .exc e s2
      | .bad => .bad)
    | .ok false s1 => .nx s1
    | .exc e s1 => .exc e s1
    | .bad => .bad
theorem sd_while (n : Nat) {c : Expr} {body : List Stmt} {pos : Pos} {ft : FT} {f : FS} (hp : PassesOwn (model X.prog X.w) X.A X.env X.xe) (hc : PTD X c ft) (hb : PSsD X body f) : PSD X (.While c body [] pos) (dWhile ft f n) := by
  refine ⟨fun W tk => ?_⟩
  obtain ⟨tc, pc, qc⟩ := hc.run W tk
  obtain ⟨tb, pb, qb⟩ := hb.run W tk
  refine ⟨_, ps_while hp pc pb, fun H0 α0 σ H α s D r k => ?_⟩
  refine ⟨fun m σ1 H1 => ∃ s1 α1, Rel X.K H0 α0 H1 α1 σ1 s1 ∧ PostS X.K H0 α0 W H1 α1 D (dWhile ft f m s1), ⟨n, s, α, r, k⟩, ?_⟩
  rintro m σ1 H1 ⟨s1, α1, r1, k1⟩
  refine qc H0 α0 σ1 H1 α1 s1 _ r1 ?_
  cases m with
  | zero => exact k1.elim
  | succ m =>
    unfold dWhile at k1
    cases ec : ft s1 with
    | bad => rw [ec] at k1; exact k1.elim
    | exc e s2 => rw [ec] at k1; exact fun cls dd H' α' r' x => k1 cls dd σ1 H' α' r' x
    | ok u s2 =>
      rw [ec] at k1
      intro H2 α2 r2 t2
      cases u with
      | false => rw [if_neg (by decide)]; exact k1 σ1 H2 α2 r2 t2
      | true =>
        rw [if_pos rfl]
        refine ⟨fun σ3 H3 => ∃ m', m' < m + 1 ∧ ∃ s3 α3, Rel X.K H0 α0 H3 α3 σ3 s3 ∧ PostS X.K H0 α0 W H3 α3 D (dWhile ft f m' s3), fun _ _ z => z, ?_⟩
        refine qb H0 α0 σ1 H2 α2 s2 _ r2 ?_
        simp only at k1
        cases eb : f s2 <;> rw [eb] at k1 <;> simp only at k1
        · exact fun σ3 H3 α3 r3 t3 => ⟨m, Nat.lt_succ_self m, _, α3, r3, PostS.mono (t2.trans t3) k1⟩
        · exact k1
        · exact k1
        · exact fun σ3 H3 α3 r3 t3 => k1 σ3 H3 α3 r3 (t2.trans t3)
        · exact fun σ3 H3 α3 r3 t3 => ⟨m, Nat.lt_succ_self m, _, α3, r3, PostS.mono (t2.trans t3) k1⟩
        · exact k1
        · exact k1
end
end DL

namespace DL
open PySem PySem.Spec PyProof.Rows L2
variable [DLX]
/-! ### 19. Targets, walks, for -/
abbrev FG := D → S → Option S
/-- σ' is σ but at vs -/
structure But (vs : List Nat) (σ σ' : Sg) : Prop where
  len : σ'.length = σ.length
  at_ : ∀ j, j ∉ vs → σ'[j]? = σ[j]?
theorem But.refl (vs : List Nat) (σ : Sg) : But vs σ σ := ⟨rfl, fun _ _ => rfl⟩
theorem But.trans {vs ws : List Nat} {σ σ1 σ2 : Sg} (a : But vs σ σ1) (b : But ws σ1 σ2) : But (vs ++ ws) σ σ2 := ⟨b.len.trans a.len, fun j h => by
  rw [List.mem_append, not_or] at h
  rw [b.at_ j h.2, a.at_ j h.1]⟩
theorem But.set (i : Nat) (x : Option V) (σ : Sg) : But [i] σ (σ.set i x) := ⟨List.length_set, fun j h => List.getElem?_set_ne (fun z => h (by simp [z]))⟩
structure PGD (X : Cx) (tg : Expr) (vs : List Nat) (f : FG) : Prop where
  ex : ∃ t : TG, PG X tg t ∧ ∀ H0 α0 σ H α s d v s' (Q : Sg → Hp → Prop), Rel X.K H0 α0 H α σ s → Rv X.K H α d v → f d s = some s' → (∀ σ' H', Rel X.K H0 α0 H' α σ' s' → Stay H α H' α → But vs σ σ' → Q σ' H') → t v σ H Q
/-- J gives the data ds, one a turn, as long as what is locked stays so -/
structure WalkD (K : PySem.W.Frag) (J : It) (ds : List D) (H1 : Hp) (α1 : List Addr) : Prop where
  stop : ∀ H α, Stay H1 α1 H α → J.stop ds.length H
  go : ∀ H α i d, Stay H1 α1 H α → ds[i]? = some d → J.go i H
  yld : ∀ H0 α0 H α σ s i d x H', Stay H1 α1 H α → Rel K H0 α0 H α σ s → ds[i]? = some d → J.yld i H x H' → Rel K H0 α0 H' α σ s ∧ Stay H α H' α ∧ Rv K H' α d x
def PostI (K : PySem.W.Frag) (H0 : Hp) (α0 : List Addr) (σ : Sg) (W : WX) (H : Hp) (α : List Addr) (R : It → Hp → Prop) : Res (List D) → Prop
  | .ok ds s' => ∀ J H' α', Rel K H0 α0 H' α' σ s' → Stay H α H' α' → WalkD K J ds H' α' → R J H'
  | .exc e s' => ∀ cls dd H' α', Rel K H0 α0 H' α' σ s' → ExR K H' α' e cls dd → W cls dd σ H'
  | .bad => False
structure PID (X : Cx) (tg iter : Expr) (f : FA) : Prop where
  run : ∀ W, Takes X W → ∃ t, PI X tg iter t ∧ ∀ H0 α0 σ H α s R, Rel X.K H0 α0 H α σ s → PostI X.K H0 α0 σ W H α R (f s) → t σ H R
def dFor (g : FG) (f : FS) : List D → FS
  | [], s => .nx s
  | d :: ds, s => match g d s with
    | none => .bad
    | some s1 => match f s1 with
      | .nx s2 => dFor g f ds s2
      | .ct s2 => dFor g f ds s2
      | .bk s2 => .nx s2
      | .rt d s2 => .rt d s2
      | .rtc c s2 => .rtc c s2
      | .exc e s2 => .exc e s2
      | .bad => .bad
def dForI (fi : FA) (g : FG) (f : FS) : FS := fun s => match fi s with
  | .ok ds s1 => dFor g f ds s1
  | .exc e s1 => .exc e s1
  | .bad => .bad
section
variable {X : Cx}
theorem sd_for {tg iter : Expr} {body : List Stmt} {pos : Pos} {fi : FA} {g : FG} {f : FS} {ws : List Nat} (hp : PassesOwn (model X.prog X.w) X.A X.env X.xe) (hc : X.calm = true) (hi : PID X tg iter fi) (hg : PGD X tg ws g) (hb : PSsD X body f)
    (hs : ∀ x, foldedSetIterable iter X.env x = pure x := by intro _; rfl) : PSD X (.For tg iter body [] pos) (dForI fi g f) := by
  refine ⟨fun W tk => ?_⟩
  obtain ⟨ti, pi, qi⟩ := hi.run W tk
  obtain ⟨t, pg, qg⟩ := hg.ex
  obtain ⟨tb, pb, qb⟩ := hb.run W tk
  refine ⟨_, ps_for hp hc pi pg pb hs, fun H0 α0 σ H α s D r k => qi H0 α0 σ H α s _ r ?_⟩
  unfold dForI at k
  cases ei : fi s with
  | bad => rw [ei] at k; exact k.elim
  | exc e s1 => rw [ei] at k; exact fun cls dd H' α' r' x => k cls dd σ H' α' r' x
  | ok ds s1 =>
    rw [ei] at k
    intro J H1 α1 r1 t1 w
    refine ⟨fun i m σ' H' => i + m = ds.length ∧ ∃ s' α', Rel X.K H0 α0 H' α' σ' s' ∧ Stay H1 α1 H' α' ∧ PostS X.K H0 α0 W H' α' D (dFor g f (ds.drop i) s'), ⟨ds.length, Nat.zero_add _, s1, α1, r1, Stay.refl _ _, PostS.mono t1 k⟩, ?_⟩
    rintro i m σ' H' ⟨hm, s', α', r', t', k'⟩
    cases m with
    | zero =>
      have e : i = ds.length := by omega
      subst e
      rw [List.drop_length] at k'
      exact .inl ⟨w.stop H' α' t', k' σ' H' α' r' (Stay.refl _ _)⟩
    | succ m =>
      have hi : i < ds.length := by omega
      have ed := List.getElem?_eq_getElem hi
      rw [List.drop_eq_getElem_cons hi] at k'
      refine .inr ⟨w.go H' α' i _ t' ed, fun σ2 H2 => ∃ m', m' < m + 1 ∧ (i + 1) + m' = ds.length ∧ ∃ s2 α2, Rel X.K H0 α0 H2 α2 σ2 s2 ∧ Stay H1 α1 H2 α2 ∧ PostS X.K H0 α0 W H2 α2 D (dFor g f (ds.drop (i + 1)) s2), fun _ _ z => z, fun x H2 hy => ?_⟩
      obtain ⟨r2, t2, rv⟩ := w.yld H0 α0 H' α' σ' s' i _ x H2 t' r' ed hy
      unfold dFor at k'
      cases eg : g ds[i] s' with
      | none => rw [eg] at k'; exact k'.elim
      | some s3 =>
        rw [eg] at k'
        refine qg H0 α0 σ' H2 α' s' _ x s3 _ r2 rv eg fun σ3 H3 r3 t3 _ => ?_
        refine qb H0 α0 σ3 H3 α' s3 _ r3 ?_
        simp only at k'
        have t23 := t2.trans t3
        cases eb : f s3 <;> rw [eb] at k' <;> simp only at k'
        · exact fun σ4 H4 α4 r4 t4 => ⟨m, Nat.lt_succ_self m, by omega, _, α4, r4, (t'.trans t23).trans t4, PostS.mono (t23.trans t4) k'⟩
        · exact k'
        · exact k'
        · exact fun σ4 H4 α4 r4 t4 => k' σ4 H4 α4 r4 (t23.trans t4)
        · exact fun σ4 H4 α4 r4 t4 => ⟨m, Nat.lt_succ_self m, by omega, _, α4, r4, (t'.trans t23).trans t4, PostS.mono (t23.trans t4) k'⟩
        · exact k'
        · exact k'
/-! targets -/
def gNm (i : Nat) : FG := fun d s => some { s with δ := s.δ.set i (.val d) }
theorem gd_name {i : Nat} {tg : Expr} (h : PG X tg (gName i)) : PGD X tg [i] (gNm i) := ⟨_, h, fun H0 α0 σ H α s d v s' Q r rv e k => by
  cases e
  exact k _ H (r.setV rv) (Stay.refl _ _) (But.set _ _ _)⟩
abbrev FGs := List D → S → Option S
structure PGsD (X : Cx) (tgs : List Expr) (ws : List Nat) (f : FGs) : Prop where
  ex : ∃ t : TGs, PGs X tgs t ∧ ∀ H0 α0 σ H α s ds vs s' (Q : Sg → Hp → Prop), Rel X.K H0 α0 H α σ s → Rvs X.K H α ds vs → f ds s = some s' → (∀ σ' H', Rel X.K H0 α0 H' α σ' s' → Stay H α H' α → But ws σ σ' → Q σ' H') → t vs σ H Q
def gN : FGs := fun ds s => match ds with | [] => some s | _ => none
def gC (g : FG) (r : FGs) : FGs := fun ds s => match ds with | [] => none | d :: ds => (g d s).bind fun s1 => r ds s1
def gT (r : FGs) : FG := fun d s => match d with | .tup ds => r ds s | _ => none
theorem gd_nil : PGsD X [] [] gN := ⟨_, pgs_nil, fun H0 α0 σ H α s ds vs s' Q r rv e k => by
  unfold gN at e
  split at e
  · cases e
    simp only [Rvs] at rv
    exact ⟨rv, k σ H r (Stay.refl _ _) (But.refl _ _)⟩
  · cases e⟩
theorem gd_cons {e : Expr} {es : List Expr} {g : FG} {r : FGs} {ws ws' : List Nat} (h1 : PGD X e ws g) (h2 : PGsD X es ws' r) (hs : (assignEach (e :: es) X.env).map (·.2) = assign e X.env :: (assignEach es X.env).map (·.2) := by rfl) : PGsD X (e :: es) (ws ++ ws') (gC g r) := by
  obtain ⟨t1, p1, q1⟩ := h1.ex
  obtain ⟨t2, p2, q2⟩ := h2.ex
  refine ⟨_, pgs_cons p1 p2 hs, fun H0 α0 σ H α s ds vs s' Q rl rv e k => ?_⟩
  unfold gC at e
  split at e
  · cases e
  · rename_i d ds
    simp only [Rvs] at rv
    obtain ⟨v, vs, rfl, h1, h2⟩ := rv
    cases eg : g d s with
    | none => rw [eg] at e; cases e
    | some s1 =>
      rw [eg] at e
      refine ⟨v, vs, rfl, q1 H0 α0 σ H α s d v s1 _ rl h1 eg fun σ1 H1 r1 t1 b1 => ?_⟩
      exact q2 H0 α0 σ1 H1 α s1 ds vs s' Q r1 (Rvs.stay t1 _ _ h2) e fun σ2 H2 r2 t2 b2 => k σ2 H2 r2 (t1.trans t2) (b1.trans b2)
theorem gd_tup {es : List Expr} {k : Nat} {pos : Pos} {r : FGs} {n : Nat} {ws : List Nat} (hc : X.calm = true) (h : PGsD X es ws r) (hn : (assignEach es X.env).length = n := by rfl) (hst : (assignEach es X.env).findIdx? (·.1) = none := by rfl) (hl : es.length = n := by rfl)
    (hr : ∀ ds s s', r ds s = some s' → ds.length = n := by intro ds s s' e; simp only [gC, gN] at e; repeat (first | (split at e; first | cases e | skip) | (simp only [Option.bind_eq_some_iff] at e; obtain ⟨_, _, e⟩ := e)); all_goals first | rfl | (cases e) | simp_all) : PGD X (.Tuple es k pos) ws (gT r) := by
  obtain ⟨t, p, q⟩ := h.ex
  refine ⟨_, pg_tup hc p hn hst, fun H0 α0 σ H α s d v s' Q rl rv e k => ?_⟩
  unfold gT at e
  split at e
  · rename_i ds
    simp only [Rv] at rv
    obtain ⟨a, vs, rfl, hs, rr⟩ := rv
    exact ⟨a, vs, rfl, hs, by rw [rr.length]; exact hr _ _ _ e, q H0 α0 σ H α s ds vs s' Q rl rr e k⟩
  · cases e
/-- target = e -/
def dAsgG (fa : FE) (g : FG) : FS := fun s => match fa s with
  | .ok d s1 => if noOwn d then (match g d s1 with | some s2 => .nx s2 | none => .bad) else .bad
  | .exc e s1 => .exc e s1
  | .bad => .bad
theorem sd_asgG {tg e : Expr} {st : Stmt} {fa : FE} {g : FG} {ws : List Nat} (hp : ∀ te t, PE X e te → PG X tg t → PS X st (tAsg te t)) (ha : PED X e fa) (hg : PGD X tg ws g) : PSD X st (dAsgG fa g) := by
  refine ⟨fun W tk => ?_⟩
  obtain ⟨t, p, q⟩ := ha.run W tk
  obtain ⟨u, pu, qu⟩ := hg.ex
  refine ⟨_, hp t u p pu, fun H0 α0 σ H α s D r k => q H0 α0 σ H α s _ r ?_⟩
  unfold dAsgG at k
  cases ea : fa s with
  | bad => rw [ea] at k; exact k.elim
  | exc e s1 => rw [ea] at k; exact fun cls dd H' α' r' x => k cls dd σ H' α' r' x
  | ok d s1 =>
    rw [ea] at k
    simp only at k
    split at k
    · rename_i hn
      intro v H1 α1 r1 t1 rv
      split at k
      · rename_i s2 eg
        exact qu H0 α0 σ H1 α1 s1 d v s2 _ r1 (noOwn_rv rv hn) eg fun σ' H' r' t' _ => k σ' H' α1 r' (t1.trans t')
      · exact k.elim
    · exact k.elim
/-- a, b = x, y -/
def dPar (i j : Nat) (fa : FA) : FS := fun s => match fa s with
  | .ok [a, b] s1 => if noOwn a && noOwn b then .nx { s1 with δ := (s1.δ.set i (.val a)).set j (.val b) } else .bad
  | .exc e s1 => .exc e s1
  | _ => .bad
theorem sd_par {es : List Expr} {st : Stmt} {i j : Nat} {fa : FA} (hp : ∀ ta, PA X es ta → PS X st (tPar i j ta)) (ha : PAD X es fa) : PSD X st (dPar i j fa) := by
  refine ⟨fun W tk => ?_⟩
  obtain ⟨t, p, q⟩ := ha.run W tk
  refine ⟨_, hp t p, fun H0 α0 σ H α s D r k => q H0 α0 σ H α s _ r ?_⟩
  unfold dPar at k
  cases ea : fa s with
  | bad => rw [ea] at k; exact k.elim
  | exc e s1 => rw [ea] at k; exact fun cls dd H' α' r' x => k cls dd σ H' α' r' x
  | ok ds s1 =>
    rw [ea] at k
    intro vs H1 α1 r1 t1 rv
    match ds, vs, rv with
    | [], _, _ => exact k.elim
    | [_], _, _ => exact k.elim
    | [a, b], [v, w], .cons ra (.cons rb .nil) =>
      simp only at k
      split at k
      · rename_i hn
        rw [Bool.and_eq_true] at hn
        exact ⟨v, w, rfl, k _ H1 α1 ((r1.setV (noOwn_rv ra hn.1)).setV (noOwn_rv rb hn.2)) t1⟩
      · exact k.elim
    | _ :: _ :: _ :: _, _, _ => exact k.elim
/-! walks -/
def fixSeq : D → Option (List D) | .tup xs => some xs | .lst xs => some xs | _ => none
def dIter (fa : FE) : FA := fun s => (fa s).bind fun d s1 => match fixSeq d with | some xs => .ok xs s1 | none => .bad
theorem walk_fixT {K : PySem.W.Frag} {H : Hp} {α : List Addr} {a : Addr} {xs : List D} {vs : List V} (h : SqT K H a vs) (rr : Rvs K H α xs vs) : WalkD K (Itt K a) xs H α := by
  refine ⟨fun H' α' t => ⟨vs, t.sqT h, by rw [rr.length]; exact Nat.le_refl _⟩, fun H' α' i d t e => ?_, fun H0 α0 H' α' σ s i d x H2 t r e y => ?_⟩
  · obtain ⟨v, ev, _⟩ := rr.at_ e
    exact ⟨vs, v, t.sqT h, ev⟩
  · obtain ⟨rfl, y⟩ := y
    obtain ⟨v, ev, rv⟩ := rr.at_ e
    have := y vs (t.sqT h)
    rw [ev] at this
    cases this
    exact ⟨r, Stay.refl _ _, Rv.stay t _ _ rv⟩
theorem walk_fixL {K : PySem.W.Frag} {H : Hp} {α : List Addr} {a : Addr} {xs : List D} {vs : List V} (h : SqF K H a vs) (rr : Rvs K H α xs vs) : WalkD K (Itl K a) xs H α := by
  refine ⟨fun H' α' t => ⟨vs, (t.sqF h).sq, by rw [rr.length]; exact Nat.le_refl _⟩, fun H' α' i d t e => ?_, fun H0 α0 H' α' σ s i d x H2 t r e y => ?_⟩
  · obtain ⟨v, ev, _⟩ := rr.at_ e
    exact ⟨vs, v, (t.sqF h).sq, ev⟩
  · obtain ⟨rfl, y⟩ := y
    obtain ⟨v, ev, rv⟩ := rr.at_ e
    have := y vs (t.sqF h).sq
    rw [ev] at this
    cases this
    exact ⟨r, Stay.refl _ _, Rv.stay t _ _ rv⟩
/-- over a list or a tuple, whichever comes -/
def iSeq (K : PySem.W.Frag) (tl : TE) : TI := fun σ H R => tl σ H fun x H1 => (∃ a, x = .ref a ∧ (∃ xs, SqL K H1 a xs) ∧ R (Itl K a) H1) ∨ ∃ a, x = .ref a ∧ (∃ xs, SqT K H1 a xs) ∧ R (Itt K a) H1
theorem PIorT {tg e : Expr} {tl : TE} (h : PE X e tl) : PI X tg e (iSeq X.K tl) := by
  refine ⟨fun pins s σ H R I q => thn (h.run pins s σ H _ I q) fun u s1 ⟨x, H1, I1, rx, q1⟩ => ?_⟩
  rcases q1 with ⟨a, rfl, ⟨xs, hl⟩, qR⟩ | ⟨a, rfl, ⟨xs, hl⟩, qR⟩
  · cases rx
    have one : PE X e (fun σ' H' Q => Q (.ref a) H1 ∧ σ' = σ ∧ H' = H) → True := fun _ => trivial
    obtain ⟨its, rv, pl, _⟩ := I1.list hl
    refine wpAny_pyIter_list pl.isList ?_
    exact pi_one (tk := s1.toks) I1 { cls := .type "list_iterator", data := .fields #[.ref a, .int 0 0] } (turn_list a _) ⟨_, Heap.get?_push_size _ rfl, rfl, rfl⟩ qR
  · cases rx
    obtain ⟨its, rv, ⟨o, ho, hc, n, hd⟩, _⟩ := I1.tuple hl
    refine wpAny_pyIter_tuple ⟨o, ho, hc, n, hd⟩ ?_
    exact pi_one (tk := s1.toks) I1 { cls := .type "tuple_iterator", data := .fields #[.ref a, .int 0 0] } (turn_tuple a _) ⟨_, Heap.get?_push_size _ rfl, rfl, rfl⟩ qR
theorem id_seq {tg e : Expr} {fa : FE} (ha : PED X e fa) : PID X tg e (dIter fa) := by
  refine ⟨fun W tk => ?_⟩
  obtain ⟨t, p, q⟩ := ha.run W tk
  refine ⟨_, PIorT p, fun H0 α0 σ H α s R r k => q H0 α0 σ H α s _ r ?_⟩
  unfold dIter at k
  cases ea : fa s with
  | bad => rw [ea] at k; exact k.elim
  | exc e s1 => rw [ea] at k; exact k
  | ok d s1 =>
    rw [ea] at k
    intro v H1 α1 r1 t1 rv
    simp only [Res.bind] at k
    cases d <;> simp only [fixSeq] at k <;> try exact k.elim
    · obtain ⟨a, vs, rfl, h1, rr⟩ := asT_ok rv
      exact .inr ⟨a, rfl, ⟨vs, h1⟩, k _ H1 α1 r1 t1 (walk_fixT h1 rr)⟩
    · have rv' : Rv X.K H1 α1 (.lst _) v := rv
      simp only [Rv] at rv'
      obtain ⟨a, vs, rfl, h1, rr⟩ := rv'
      exact .inl ⟨a, rfl, ⟨vs, h1.sq⟩, k _ H1 α1 r1 t1 (walk_fixL h1 rr)⟩
/-- range(n), range(a, b) -/
def rngD (lo : Int) (n : Nat) : List D := (List.range n).map fun i => .int (lo + (i : Nat))
theorem walk_rng {K : PySem.W.Frag} {H : Hp} {α : List Addr} {lo : Int} {n : Nat} : WalkD K (Itr lo n) (rngD lo n) H α := by
  have hl : (rngD lo n).length = n := by simp [rngD]
  refine ⟨fun H' α' t => by rw [hl]; exact Nat.le_refl n, fun H' α' i d t e => ?_, fun H0 α0 H' α' σ s i d x H2 t r e y => ?_⟩
  · have := (List.getElem?_eq_some_iff.mp e).1
    rw [hl] at this
    exact this
  · obtain ⟨rfl, rfl⟩ := y
    refine ⟨r, Stay.refl _ _, ?_⟩
    unfold rngD at e
    rw [List.getElem?_map] at e
    cases er : (List.range n)[i]? with
    | none => rw [er] at e; cases e
    | some j =>
      rw [er] at e
      have hj := List.getElem?_range (n := n) (i := i) (by
        have := (List.getElem?_eq_some_iff.mp er).1
        simpa using this)
      rw [hj] at er
      cases er
      cases e
      simp only [Rv]
def smallI (i : Int) : Bool := decide (-(2 ^ 62) ≤ i) && decide (i < 2 ^ 62)
def dRng1 (fa : FA) : FA := fun s => (fa s).bind fun ds s1 => match ds with | [.int j] => if smallI j then .ok (rngD 0 j.toNat) s1 else .bad | _ => .bad
def dRng2 (fa : FA) : FA := fun s => (fa s).bind fun ds s1 => match ds with | [.int i, .int j] => if smallI i && smallI j then .ok (rngD i (j - i).toNat) s1 else .bad | _ => .bad
theorem id_rng1 {tg a : Expr} {p pos : Pos} {fa : FA} (hg : Gl X "range") (hm : X.mg "range" = none) (ha : PAD X [a] fa) (hs : starEach [a] X.env = [(false, eval a X.env)] := by rfl) : PID X tg (.Call (.Name "range" p) [a] [] pos) (dRng1 fa) := by
  refine ⟨fun W tk => ?_⟩
  obtain ⟨t, pa, q⟩ := ha.run W tk
  refine ⟨_, pi_range1 hg hm pa hs, fun H0 α0 σ H α s R r k => q H0 α0 σ H α s _ r ?_⟩
  unfold dRng1 at k
  cases ea : fa s with
  | bad => rw [ea] at k; exact k.elim
  | exc e s1 => rw [ea] at k; exact k
  | ok ds s1 =>
    rw [ea] at k
    intro vs H1 α1 r1 t1 rv
    simp only [Res.bind] at k
    split at k
    · split at k
      · rename_i j hj
        unfold smallI at hj
        rw [Bool.and_eq_true] at hj
        cases rv with
        | cons ra rb =>
          cases rb
          exact ⟨j, by rw [rx_int ra], of_decide_eq_true hj.1, of_decide_eq_true hj.2, k _ H1 α1 r1 t1 walk_rng⟩
      · exact k.elim
    · exact k.elim
theorem id_rng2 {tg a b : Expr} {p pos : Pos} {fa : FA} (hg : Gl X "range") (hm : X.mg "range" = none) (ha : PAD X [a, b] fa) (hs : starEach [a, b] X.env = [(false, eval a X.env), (false, eval b X.env)] := by rfl) (hs2 : starEach [b] X.env = [(false, eval b X.env)] := by rfl) : PID X tg (.Call (.Name "range" p) [a, b] [] pos) (dRng2 fa) := by
  refine ⟨fun W tk => ?_⟩
  obtain ⟨t, pa, q⟩ := ha.run W tk
  refine ⟨_, pi_range2 hg hm pa hs hs2, fun H0 α0 σ H α s R r k => q H0 α0 σ H α s _ r ?_⟩
  unfold dRng2 at k
  cases ea : fa s with
  | bad => rw [ea] at k; exact k.elim
  | exc e s1 => rw [ea] at k; exact k
  | ok ds s1 =>
    rw [ea] at k
    intro vs H1 α1 r1 t1 rv
    simp only [Res.bind] at k
    split at k
    · split at k
      · rename_i i j hj
        unfold smallI at hj
        simp only [Bool.and_eq_true, decide_eq_true_eq] at hj
        cases rv with
        | cons ra rb =>
          cases rb with
          | cons rb rc =>
            cases rc
            exact ⟨i, j, by rw [rx_int ra, rx_int rb], ⟨hj.1.1, hj.1.2, hj.2.1, hj.2.2⟩, k _ H1 α1 r1 t1 walk_rng⟩
      · exact k.elim
    · exact k.elim
end
end DL

namespace DL
open PySem PySem.Spec PyProof.Rows L2
variable [DLX]
/-! ### 20. Defs: what one promises, its body, its call -/
structure StayC (H : Hp) (α : List Addr) (H' : Hp) (α' : List Addr) : Prop where
  st : Stay H α H' α'
  ot : ∀ a o, H a = some o → a ∉ α → H' a = some o
  nw : ∀ a ∈ α', a ∈ α ∨ H a = none
def PostC (K : PySem.W.Frag) (H : Hp) (α : List Addr) (Q : VK) (E : XK) : CR → Prop
  | .ok d μ' => ∀ v H' α', StayC H α H' α' → RelC K H' α' μ' → Rv K H' α' d v → Q v H'
  | .okc c μ' => ∀ a H' α', StayC H α H' α' → RelC K H' α' μ' → CellOk K H' α' a c → a ∉ α' → H a = none → Q (.ref a) H'
  | .exc e μ' => ∀ cls dd H' α', StayC H α H' α' → RelC K H' α' μ' → ExR K H' α' e cls dd → E cls dd H'
  | .bad => False
/-- the promise of a def of n parameters that does what F does -/
def spD (K : PySem.W.Frag) (n : Nat) (F : FF) : Sp := fun vs H Q E => vs.length = n ∧ ∃ α ds μ, RelC K H α μ ∧ Rvs K H α ds vs ∧ PostC K H α Q E (F ds μ)
/-- the body's run: N slots, the arguments first -/
def runF (f : FS) (N : Nat) : FF := fun ds μ => match f ⟨ds.map .val ++ List.replicate (N - ds.length) .no, μ⟩ with
  | .nx s => .ok .non s.μ
  | .rt d s => .ok d s.μ
  | .rtc c s => .okc c s.μ
  | .exc e s => .exc e s.μ
  | _ => .bad
section
variable {K : PySem.W.Frag}
theorem Rel.start {H : Hp} {α : List Addr} {μ : List Cell} {ds : List D} {vs : List V} {N : List Str} (rc : RelC K H α μ) (rr : Rvs K H α ds vs) : Rel K H α H α (start N vs) ⟨ds.map .val ++ List.replicate (N.length - ds.length) .no, μ⟩ := by
  have hl := rr.length
  refine ⟨rc, ⟨by simp [L2.start, hl], fun i d e => ?_, fun i c e => ?_, fun i j c c' a e => ?_⟩, fun _ _ h _ => h, fun _ h => .inl h, Stay.refl _ _⟩
  · unfold L2.start
    by_cases hi : i < ds.length
    · rw [List.getElem?_append_left (by simpa using hi), List.getElem?_map] at e
      cases ed : ds[i]? with
      | none => rw [ed] at e; cases e
      | some x =>
        rw [ed] at e
        cases e
        obtain ⟨v, ev, rv⟩ := rr.at_ ed
        exact ⟨v, by rw [List.getElem?_append_left (by simpa [hl] using hi), List.getElem?_map, ev]; rfl, rv⟩
    · rw [List.getElem?_append_right (by simpa using hi), List.getElem?_replicate] at e
      split at e <;> cases e
  all_goals
    by_cases hi : i < ds.length
    · rw [List.getElem?_append_left (by simpa using hi), List.getElem?_map] at e
      cases ed : ds[i]? with
      | none => rw [ed] at e; cases e
      | some x => rw [ed] at e; cases e
    · rw [List.getElem?_append_right (by simpa using hi), List.getElem?_replicate] at e
      split at e <;> cases e
theorem Rel.stayC {H0 H : Hp} {α0 α : List Addr} {σ : Sg} {s : S} (r : Rel K H0 α0 H α σ s) : StayC H0 α0 H α := ⟨r.st, r.ot, r.nw⟩
/-- behind a call -/
theorem Rel.after {H0 H H' : Hp} {α0 α α' : List Addr} {σ : Sg} {s : S} {μ' : List Cell} (r : Rel K H0 α0 H α σ s) (t : StayC H α H' α') (c : RelC K H' α' μ') : Rel K H0 α0 H' α' σ { s with μ := μ' } := by
  refine ⟨c, ⟨r.slots.len, fun i d e => ?_, fun i x e => ?_, r.slots.inj⟩, fun a o h n => ?_, fun a h => ?_, r.st.trans t.st⟩
  · obtain ⟨v, e1, e2⟩ := r.slots.val i d e
    exact ⟨v, e1, Rv.stay t.st _ _ e2⟩
  · obtain ⟨a, e1, e2, e3, e4⟩ := r.slots.own i x e
    refine ⟨a, e1, fun z => ?_, e3, e4.stay t.st (fun o h _ => t.ot a o h e2)⟩
    rcases t.nw a z with z | z
    · exact e2 z
    · obtain ⟨o, h⟩ := e4.some
      rw [z] at h
      cases h
  · refine t.ot a o (r.ot a o h n) fun z => ?_
    rcases r.nw a z with z | z
    · exact n z
    · rw [z] at h; cases h
  · rcases t.nw a h with z | z
    · exact r.nw a z
    · exact .inr (r.st.dom a z)
end
/-- a def's promise kept wherever no guard stands on the stack (so that what is shown of data can be told) -/
structure FnG (P : Program) (w : World) (K : PySem.W.Frag) (mg : Str → Option Value) (base : Heap) (k : Nat) (f : Addr) (fd : FuncData) (ps : List Str) (sp : Sp) : Prop where
  len : ∀ vs H Q E, sp vs H Q E → vs.length = ps.length
  run : ∀ (A : Around) (out : List Env) (s : Shared) (H : Hp) (args : Args) (us : List Value) (vs : List V) (Q : VK) (E : XK), Room k A → A.guards = some [] → Env0 P w K mg base A out s H → BindsTo s fd args (ps.zip us) → Vals vs us → sp vs H Q E →
    codeAny (model P w) A (.call (.ref f) args) (L2.CR (L2.CX P w) out P w H s Q E) s
theorem FnG.imp {P : Program} {w : World} {K : PySem.W.Frag} {mg : Str → Option Value} {base : Heap} {k : Nat} {f : Addr} {fd : FuncData} {ps : List Str} {sp sp' : Sp} (F : FnG P w K mg base k f fd ps sp) (h : ∀ vs H Q E, sp' vs H Q E → sp vs H Q E) : FnG P w K mg base k f fd ps sp' :=
  ⟨fun vs H Q E q => F.len vs H Q E (h vs H Q E q), fun A out s H args us vs Q E hr hg e0 hb hv q => F.run A out s H args us vs Q E hr hg e0 hb hv (h vs H Q E q)⟩
theorem FnG.mono {P : Program} {w : World} {K : PySem.W.Frag} {mg : Str → Option Value} {base : Heap} {j k : Nat} {f : Addr} {fd : FuncData} {ps : List Str} {sp : Sp} (F : FnG P w K mg base j f fd ps sp) (h : j ≤ k) : FnG P w K mg base k f fd ps sp :=
  ⟨F.len, fun A out s H args us vs Q E hr hg e0 hb hv q => F.run A out s H args us vs Q E (hr.mono h) hg e0 hb hv q⟩
theorem fng_of {P : Program} {w : World} {K : PySem.W.Frag} {mg : Str → Option Value} {base : Heap} {k : Nat} {x qual : Str} {st : Stmt} {f : Addr} {fd : FuncData} {N ps : List Str} {sp : Sp} (F : Fun K x qual st f fd) (S : FnScope N ps (defScope st)) (len : ∀ vs H Q E, sp vs H Q E → vs.length = ps.length)
    (hbody : ∀ (cdv : Value) (A : Around) (out : List Env) (s : Shared) (H : Hp) (vs : List V) (Q : VK) (E : XK), fd.code = cdv → Room k (A.deeper (envOfC qual (defScope st) s.heap.objs.size f cdv)) → A.guards = some [] → sp vs H Q E →
      ∃ t, PSs (cxOf (L2.CX P w) P w K mg base N qual (defScope st) f cdv A out s H E) (defBody st) t ∧ t { nx := fun _ H' => Q .non H', rt := Q } (L2.start N vs) H) : FnG P w K mg base (k + 1) f fd ps sp := by
  obtain ⟨oc, od, kV, doc, pm, an, cdv, ct, osl, efd, lk, hcd⟩ := F.ex
  subst efd
  refine ⟨len, ?_⟩
  intro A out s H args us vs Q E hr hg e0 hb rv hsp
  have inK : K.In s.heap := e0.mod.kin.keeps (fun b o e => (e0.bs b o e).1)
  have nolim : s.heap.NoLimit := e0.mod.nolimit.keeps (fun b o e => (e0.bs b o e).1)
  have kinds : ∀ y ∈ ps.zip us, (defScope st).names.lookup y.1 = some .local ∨ ((defScope st).names.lookup y.1 = some .cell ∧ ((cellsFrom (s.heap.objs.size + 1) (defScope st).names []).lookup y.1).isSome = true) := by
    rintro ⟨n, v⟩ hy
    rcases S.par n (List.of_mem_zip hy).1 with z | z
    · exact .inl z
    · exact .inr ⟨z, PySem.W.cellsFrom_some _ _ _ (.inl z)⟩
  refine codeAny_call_function hr.depth (inK _ _ lk) rfl S.co S.gen rfl (PySem.W.codeRec_of inK hcd) (hb _ _ _ _ ?_)
  refine wpAny_newFunctionEnv_cells S.kind kinds ?_
  intro fenv env s1 ic
  subst env
  refine ⟨nolim.keeps ic.toInCall.keep, codeAny_func ?_⟩
  obtain ⟨t, pt, qt⟩ := hbody cdv A out s H vs Q E rfl (hr.deeper _) hg hsp
  have I := inv_start (CX := L2.CX P w) (E := E) (cd := cdv) (f := f) (qual := qual) S hr.hd e0 (len _ _ _ _ hsp) rv ic
  have ends : ∀ {σ' : Sg} {H' : Hp} {s' : Shared} {v : V} {u : Value}, Inv (cxOf (L2.CX P w) P w K mg base N qual (defScope st) f cdv A out s H E) [] σ' H' s' → RelV v u → Q v H' → CE out P w H s Q u s' := by
    intro σ' H' s' v u J r q
    exact ⟨v, H', J.os, J.bare, J.base, J.hok, r, q⟩
  refine wpAny_mono (pt.run [] s1 (L2.start N vs) H _ I qt) ?_ (fun e s' z => z)
  intro fl s' z
  cases fl with
  | next =>
    obtain ⟨σ', H', J, q⟩ := z
    exact ends (v := .non) (u := .none) J rfl q
  | brk =>
    obtain ⟨_, _, _, q⟩ := z
    exact q.elim
  | cont =>
    obtain ⟨_, _, _, q⟩ := z
    exact q.elim
  | ret u =>
    obtain ⟨v, σ', H', J, r, q⟩ := z
    exact ends J r q
section
variable {X : Cx} {k : Nat} {f : Addr} {fd : FuncData} {ps : List Str} {sp : Sp} {E : Sg → XK} {x : Str} {p pos : Pos} {e : Expr} {es : List Expr} {t : TA}
theorem run_fnG {pins : List (Addr × Obj)} {σ : Sg} {H : Hp} {s : Shared} {Q : VK} {us : List Value} {vs : List V} (F : FnG X.prog X.w X.K X.mg X.base k f fd ps sp) (hr : Room k X.A) (hg : X.A.guards = some []) (hb : Binds X.K fd ps []) (hx : PassesAt (L2.CX X.prog X.w) X σ (E σ))
    (I : Inv X pins σ H s) (r : Vals vs us) (h : sp vs H Q (E σ)) : wpAny (model X.prog X.w) X.A (call (.ref f) us) (EP X pins σ Q) X.xe s := by
  have nl : (us ++ ([] : List Value)).length = ps.length := by
    rw [List.append_nil, ← r.length]
    exact F.len vs H Q (E σ) h
  have bt := hb s us I.kIn nl
  rw [List.append_nil] at bt
  refine wpAny_call (codeAny_mono (F.run X.A X.stack s H ⟨us, []⟩ us vs Q (E σ) hr hg I.env0 bt r h) ?_)
  rintro (er | fl) s' z
  · exact hx pins H s er s' I z
  · cases fl with
    | ret u => exact I.after z
    | next => exact z.elim
    | brk => exact z.elim
    | cont => exact z.elim
theorem pe_callG (F : FnG X.prog X.w X.K X.mg X.base k f fd ps sp) (hr : Room k X.A) (hgu : X.A.guards = some []) (hg : Gl X x) (hm : X.mg x = some (.ref f)) (hk : PySem.W.keepIn X.K (.ref f) = true) (hb : Binds X.K fd ps []) (hx : ∀ σ, PassesAt (L2.CX X.prog X.w) X σ (E σ))
    (ha : PA X (e :: es) t) (hdb : (x == ("__debug__" : Str)) = false := by decide) (he : starEach (e :: es) X.env = (false, eval e X.env) :: starEach es X.env := by rfl) (hpl : (backTo pos (starEach es X.env)).any (·.1) = false := by rfl) :
    PE X (.Call (.Name x p) (e :: es) [] pos) (tCallS sp E t) := by
  constructor
  intro pins s σ H Q I h
  refine wpAny_Call_Name_kw (ld_glob I hg hm (PySem.W.callWith_K (h₀ := X.base) I.ok.mod.kin hk (thn (ha.run pos pins s σ H _ I h) ?_) he hpl) hdb)
  rintro us s1 ⟨vs, H1, I1, r, q⟩
  exact ⟨I1.kIn, run_fnG F hr hgu hb (hx σ) I1 r q⟩
end
/-- what a written def is: at f, with its data, the level k -/
structure FnD (P : Program) (w : World) (K : PySem.W.Frag) (mg : Str → Option Value) (base : Heap) (x : Str) (k : Nat) (n : Nat) (F : FF) : Prop where
  ex : ∃ f fd ps, mg x = some (.ref f) ∧ PySem.W.keepIn K (.ref f) = true ∧ FnG P w K mg base k f fd ps (spD K n F) ∧ Binds K fd ps []
/-- a promise that says less -/
theorem spD.imp {K : PySem.W.Frag} {n : Nat} {F G : FF} (h : ∀ ds μ, ds.length = n → G ds μ ≠ .bad → F ds μ = G ds μ) : ∀ vs H Q E, spD K n G vs H Q E → spD K n F vs H Q E := fun vs H Q E ⟨hl, α, ds, μ, rc, rr, q⟩ => by
  refine ⟨hl, α, ds, μ, rc, rr, ?_⟩
  rw [h ds μ (by rw [← rr.length]; exact hl) (fun z => by rw [z] at q; exact q)]
  exact q
theorem FnD.imp {P : Program} {w : World} {K : PySem.W.Frag} {mg : Str → Option Value} {base : Heap} {x : Str} {k n : Nat} {F G : FF} (f : FnD P w K mg base x k n F) (h : ∀ ds μ, ds.length = n → G ds μ ≠ .bad → F ds μ = G ds μ) : FnD P w K mg base x k n G := by
  obtain ⟨a, fd, ps, h1, h2, h3, h4⟩ := f.ex
  exact ⟨a, fd, ps, h1, h2, h3.imp (spD.imp h), h4⟩
theorem FnD.mono {P : Program} {w : World} {K : PySem.W.Frag} {mg : Str → Option Value} {base : Heap} {x : Str} {j k n : Nat} {F : FF} (f : FnD P w K mg base x j n F) (h : j ≤ k) : FnD P w K mg base x k n F := by
  obtain ⟨a, fd, ps, h1, h2, h3, h4⟩ := f.ex
  exact ⟨a, fd, ps, h1, h2, h3.mono h, h4⟩
/-- the context of a def's body -/
structure BodyX (P : Program) (w : World) (K : PySem.W.Frag) (mg : Str → Option Value) (base : Heap) (N : List Str) (sc : Scope) (k : Nat) (X : Cx) : Prop where
  prog : X.prog = P
  w : X.w = w
  K : X.K = K
  mg : X.mg = mg
  base : X.base = base
  room : Room k X.A
  gu : X.A.guards = some []
/-- THE RULE for a def whose code object is known -/
theorem fnDC {cd : Value} {P : Program} {w : World} {K : PySem.W.Frag} {mg : Str → Option Value} {base : Heap} {x qual : Str} {st : Stmt} {f : Addr} {fd : FuncData} {N ps : List Str} {k : Nat} (F : Fun K x qual st f fd) (hm : mg x = some (.ref f)) (hb : Binds K fd ps []) (S : FnScope N ps (defScope st))
    (hcd : fd.code = cd) (G : FF) (hbody : ∀ (A : Around) (outer : List Env) (s : Shared) (H : Hp) (E : XK), Room k (A.deeper (envOfC qual (defScope st) s.heap.objs.size f cd)) → A.guards = some [] →
      ∀ ds μ, ds.length = ps.length → G ds μ ≠ .bad → ∃ g, PSsD (cxOf (L2.CX P w) P w K mg base N qual (defScope st) f cd A outer s H E) (defBody st) g ∧ runF g N.length ds μ = G ds μ) : FnD P w K mg base x (k + 1) ps.length G := by
  refine ⟨f, fd, ps, hm, F.kp, fng_of F S (fun vs H Q E h => h.1) (fun cdv A outer s H vs Q E ec hr hgu h => ?_), hb⟩
  obtain rfl : cd = cdv := hcd.symm.trans ec
  obtain ⟨hl, α, ds, μ, rc, rr, q⟩ := h
  have hld : ds.length = ps.length := by rw [← rr.length]; exact hl
  obtain ⟨g, hg, eg⟩ := hbody A outer s H E hr hgu ds μ hld (fun z => by rw [z] at q; exact q)
  have tk : Takes (cxOf (L2.CX P w) P w K mg base N qual (defScope st) f cd A outer s H E) (fun cls d _ H' => E cls d H') := takes_of (E := E) (E₁ := fun e' s'' => L2.CX P w outer H s E e' s'') rfl rfl rfl rfl
  obtain ⟨t, pt, qt⟩ := hg.run _ tk
  refine ⟨t, pt, qt H α (start N vs) H α _ _ (Rel.start rc rr) ?_⟩
  rw [← eg] at q
  unfold runF at q
  cases e : g ⟨ds.map .val ++ List.replicate (N.length - ds.length) .no, μ⟩ <;> rw [e] at q <;> simp only at q
  · exact fun σ' H' α' r' _ => q .non H' α' r'.stayC r'.cells (by simp only [Rv])
  · exact fun v σ' H' α' r' rv => q v H' α' r'.stayC r'.cells rv
  · exact fun a σ' H' α' r' rf => q a H' α' r'.stayC r'.cells rf.1 rf.2.1 rf.2.2.1
  · exact q.elim
  · exact q.elim
  · exact fun cls dd σ' H' α' r' x => q cls dd H' α' r'.stayC r'.cells x
  · exact q.elim
/-- THE RULE for a def: its body does what g does, in whatever context -/
theorem fnD {P : Program} {w : World} {K : PySem.W.Frag} {mg : Str → Option Value} {base : Heap} {x qual : Str} {st : Stmt} {f : Addr} {fd : FuncData} {N ps : List Str} {k : Nat} (F : Fun K x qual st f fd) (hm : mg x = some (.ref f)) (hb : Binds K fd ps []) (S : FnScope N ps (defScope st))
    (G : FF) (hbody : ∀ (cdv : Value) (A : Around) (outer : List Env) (s : Shared) (H : Hp) (E : XK), Room k (A.deeper (envOfC qual (defScope st) s.heap.objs.size f cdv)) → A.guards = some [] →
      ∀ ds μ, ds.length = ps.length → G ds μ ≠ .bad → ∃ g, PSsD (cxOf (L2.CX P w) P w K mg base N qual (defScope st) f cdv A outer s H E) (defBody st) g ∧ runF g N.length ds μ = G ds μ) : FnD P w K mg base x (k + 1) ps.length G :=
  fnDC F hm hb S rfl G (hbody fd.code)
/-! calls -/
def dCall (F : FF) (fa : FA) : FE := fun s => (fa s).bind fun ds s1 => if ds.all noOwn then (match F ds s1.μ with
  | .ok d μ' => .ok d { s1 with μ := μ' }
  | .exc e μ' => .exc e { s1 with μ := μ' }
  | _ => .bad) else .bad
def dCallF (F : FF) (fa : FA) : FC := fun s => (fa s).bind fun ds s1 => if ds.all noOwn then (match F ds s1.μ with
  | .okc c μ' => .ok c { s1 with μ := μ' }
  | .exc e μ' => .exc e { s1 with μ := μ' }
  | _ => .bad) else .bad
section
variable {X : Cx} {x : Str} {k n : Nat} {F : FF} {p pos : Pos}
theorem call_core {es : List Expr} {fa : FA} {W : WX} {t : TA} {α0 : List Addr} {H0 : Hp} (qa : ∀ H0 α0 σ H α s Q, Rel X.K H0 α0 H α σ s → PostA X.K H0 α0 σ W H α Q (fa s) → t σ H Q) (hn : n = es.length) (hlen : ∀ s ds s1, fa s = .ok ds s1 → ds.length = es.length)
    {σ : Sg} {H : Hp} {α : List Addr} {s : S} {Q : VK} (r : Rel X.K H0 α0 H α σ s) (q : PostE X.K H0 α0 σ W H α Q (dCall F fa s)) : tCallS (spD X.K n F) (WE W) t σ H Q := by
  refine qa H0 α0 σ H α s _ r ?_
  unfold dCall at q
  cases ea : fa s with
  | bad => rw [ea] at q; exact q.elim
  | exc e s1 => rw [ea] at q; exact q
  | ok ds s1 =>
    rw [ea] at q
    intro vs H1 α1 r1 t1 rv
    simp only [Res.bind] at q
    split at q
    · rename_i hno
      have rr := rv.rvs hno
      refine ⟨by rw [rr.length, hlen _ _ _ ea, hn], α1, ds, s1.μ, r1.cells, rr, ?_⟩
      cases eF : F ds s1.μ <;> rw [eF] at q <;> simp only at q
      · exact fun v H' α' tc c rv => q v H' α' (r1.after tc c) (t1.trans tc.st) (Rv.x rv)
      · exact q.elim
      · exact fun cls dd H' α' tc c x => q cls dd H' α' (r1.after tc c) x
      · exact q.elim
    · exact q.elim
theorem call_coreF {es : List Expr} {fa : FA} {W : WX} {t : TA} {α0 : List Addr} {H0 : Hp} (qa : ∀ H0 α0 σ H α s Q, Rel X.K H0 α0 H α σ s → PostA X.K H0 α0 σ W H α Q (fa s) → t σ H Q) (hn : n = es.length) (hlen : ∀ s ds s1, fa s = .ok ds s1 → ds.length = es.length)
    {σ : Sg} {H : Hp} {α : List Addr} {s : S} {Q : VK} (r : Rel X.K H0 α0 H α σ s) (q : PostF X.K H0 α0 σ W H α Q (dCallF F fa s)) : tCallS (spD X.K n F) (WE W) t σ H Q := by
  refine qa H0 α0 σ H α s _ r ?_
  unfold dCallF at q
  cases ea : fa s with
  | bad => rw [ea] at q; exact q.elim
  | exc e s1 => rw [ea] at q; exact q
  | ok ds s1 =>
    rw [ea] at q
    intro vs H1 α1 r1 t1 rv
    simp only [Res.bind] at q
    split at q
    · rename_i hno
      have rr := rv.rvs hno
      refine ⟨by rw [rr.length, hlen _ _ _ ea, hn], α1, ds, s1.μ, r1.cells, rr, ?_⟩
      cases eF : F ds s1.μ <;> rw [eF] at q <;> simp only at q
      · exact q.elim
      · rename_i c μ'
        intro a H' α' tc cc hc na hn
        refine q a H' α' (r1.after tc cc) (t1.trans tc.st) ⟨hc, na, r1.free0 hn, fun i c' e1 e2 => ?_⟩
        obtain ⟨b, e3, e4, e5, e6⟩ := r1.slots.own i c' e1
        rw [e2] at e3
        cases e3
        obtain ⟨o, h⟩ := e6.some
        rw [hn] at h
        cases h
      · exact fun cls dd H' α' tc c x => q cls dd H' α' (r1.after tc c) x
      · exact q.elim
    · exact q.elim
/-- a list of arguments has their number -/
structure PALen (es : List Expr) (fa : FA) : Prop where
  len : ∀ s ds s1, fa s = .ok ds s1 → ds.length = es.length
theorem al_n : PALen [] dNil := ⟨fun s ds s1 h => by cases h; rfl⟩
theorem al_c {e : Expr} {es : List Expr} {fa : FE} {fr : FA} (h : PALen es fr) : PALen (e :: es) (dCons fa fr) := ⟨fun s ds s1 q => by
  unfold dCons at q
  cases ea : fa s with
  | bad => rw [ea] at q; cases q
  | exc e s1 => rw [ea] at q; cases q
  | ok d s2 =>
    rw [ea] at q
    simp only [Res.bind] at q
    cases er : fr s2 with
    | bad => rw [er] at q; cases q
    | exc e s1 => rw [er] at q; cases q
    | ok ds2 s3 =>
      rw [er] at q
      cases q
      simp [h.len _ _ _ er]⟩
theorem pd_call {e : Expr} {es : List Expr} {fa : FA} (f : FnD X.prog X.w X.K X.mg X.base x k n F) (hr : Room k X.A) (hgu : X.A.guards = some []) (hg : Gl X x) (ha : PAD X (e :: es) fa) (hl : PALen (e :: es) fa) (hn : n = (e :: es).length := by rfl) (hdb : (x == ("__debug__" : Str)) = false := by decide)
    (he : starEach (e :: es) X.env = (false, eval e X.env) :: starEach es X.env := by rfl) (hpl : (backTo pos (starEach es X.env)).any (·.1) = false := by rfl) : PED X (.Call (.Name x p) (e :: es) [] pos) (dCall F fa) := by
  obtain ⟨a, fd, ps, h1, h2, h3, h4⟩ := f.ex
  refine ⟨fun W tk => ?_⟩
  obtain ⟨t, pa, qa⟩ := ha.run W tk
  exact ⟨_, pe_callG h3 hr hgu hg h1 h2 h4 (fun σ => passAt tk σ) pa hdb he hpl, fun H0 α0 σ H α s Q r q => call_core qa hn hl.len r q⟩
theorem pf_call {e : Expr} {es : List Expr} {fa : FA} (f : FnD X.prog X.w X.K X.mg X.base x k n F) (hr : Room k X.A) (hgu : X.A.guards = some []) (hg : Gl X x) (ha : PAD X (e :: es) fa) (hl : PALen (e :: es) fa) (hn : n = (e :: es).length := by rfl) (hdb : (x == ("__debug__" : Str)) = false := by decide)
    (he : starEach (e :: es) X.env = (false, eval e X.env) :: starEach es X.env := by rfl) (hpl : (backTo pos (starEach es X.env)).any (·.1) = false := by rfl) : PFD X (.Call (.Name x p) (e :: es) [] pos) (dCallF F fa) := by
  obtain ⟨a, fd, ps, h1, h2, h3, h4⟩ := f.ex
  refine ⟨fun W tk => ?_⟩
  obtain ⟨t, pa, qa⟩ := ha.run W tk
  exact ⟨_, pe_callG h3 hr hgu hg h1 h2 h4 (fun σ => passAt tk σ) pa hdb he hpl, fun H0 α0 σ H α s Q r q => call_coreF qa hn hl.len r q⟩
end
/-! ### 21. Calls of built-ins -/
/-- the built-in f does g: over the machine -/
def BI (X : Cx) (f : Value) (g : S → List D → Option D) : Prop :=
  ∀ (pins : List (Addr × Obj)) (s : Shared) (σ0 : Sg) (H : Hp) (xs : List V) (us : List Value) (Q : VK) (H0 : Hp) (σ : Sg) (α0 α : List Addr) (st : S) (ds : List D) (d : D), Inv X pins σ0 H s → Rel X.K H0 α0 H α σ st → Rxs X.K H α σ ds xs → Vals xs us → g st ds = some d →
    (∀ v H' α', Rel X.K H0 α0 H' α' σ st → Stay H α H' α' → Rx X.K H' α' σ d v → Q v H') → wpAny (model X.prog X.w) X.A (call f us) (EP X pins σ0 Q) X.xe s
def rBI (K : PySem.W.Frag) (g : S → List D → Option D) : List V → Hp → VK → Prop := fun xs H Q => ∃ H0 σ α0 α st ds d, Rel K H0 α0 H α σ st ∧ Rxs K H α σ ds xs ∧ g st ds = some d ∧ ∀ v H' α', Rel K H0 α0 H' α' σ st → Stay H α H' α' → Rx K H' α' σ d v → Q v H'
theorem BI.call {X : Cx} {f : Value} {g : S → List D → Option D} (h : BI X f g) : CallR X f (rBI X.K g) := fun pins s σ0 H xs us Q I rv ⟨H0, σ, α0, α, st, ds, d, rl, rx, eg, q⟩ => h pins s σ0 H xs us Q H0 σ α0 α st ds d I rl rx rv eg q
/-- from a rule by values -/
theorem BI.of {X : Cx} {f : Value} {r : List V → Hp → VK → Prop} {g : S → List D → Option D} (hc : CallR X f r)
    (h : ∀ (H0 : Hp) (α0 : List Addr) (σ : Sg) (H : Hp) (α : List Addr) (s : S) (xs : List V) (ds : List D) (d : D) (Q : VK), Rel X.K H0 α0 H α σ s → Rxs X.K H α σ ds xs → g s ds = some d →
      (∀ v H' α', Rel X.K H0 α0 H' α' σ s → Stay H α H' α' → Rx X.K H' α' σ d v → Q v H') → r xs H fun v H1 => Gh H1 (Q v)) : BI X f g :=
  fun pins s σ0 H xs us Q H0 σ α0 α st ds d I rl rx rv eg q => callGh hc pins s σ0 H xs us Q I rv (h H0 α0 σ H α st xs ds d Q rl rx eg q)
theorem BI.or {X : Cx} {f : Value} {g g' : S → List D → Option D} (h : BI X f g) (h' : BI X f g') : BI X f (fun s ds => (g s ds).or (g' s ds)) := fun pins s σ0 H xs us Q H0 σ α0 α st ds d I rl rx rv eg q => by
  dsimp only at eg
  cases e : g st ds with
  | some d' =>
    rw [e] at eg
    obtain rfl : d' = d := Option.some.inj eg
    exact h pins s σ0 H xs us Q H0 σ α0 α st ds d' I rl rx rv e q
  | none =>
    rw [e] at eg
    have eg : g' st ds = some d := eg
    exact h' pins s σ0 H xs us Q H0 σ α0 α st ds d I rl rx rv eg q
def dB (g : S → List D → Option D) (fa : FA) : FE := fun s => (fa s).bind fun ds s1 => match g s1 ds with | some d => .ok d s1 | none => .bad
section
variable {X : Cx} {x : Str} {p pos : Pos} {e : Expr} {es : List Expr} {fa : FA} {g : S → List D → Option D} {id T : String}
theorem bi_core {t : TA} {W : WX} {H0 : Hp} {α0 : List Addr} (qa : ∀ H0 α0 σ H α s Q, Rel X.K H0 α0 H α σ s → PostA X.K H0 α0 σ W H α Q (fa s) → t σ H Q) {σ : Sg} {H : Hp} {α : List Addr} {s : S} {Q : VK} (r : Rel X.K H0 α0 H α σ s) (q : PostE X.K H0 α0 σ W H α Q (dB g fa s)) : tCB (rBI X.K g) t σ H Q := by
  refine qa H0 α0 σ H α s _ r ?_
  unfold dB at q
  cases ea : fa s with
  | bad => rw [ea] at q; exact q.elim
  | exc e s1 => rw [ea] at q; exact q
  | ok ds s1 =>
    rw [ea] at q
    intro vs H1 α1 r1 t1 rv
    simp only [Res.bind] at q
    split at q
    · rename_i d eg
      exact ⟨H0, σ, α0, α1, s1, ds, d, r1, rv, eg, fun v H' α' r' t' rx => q v H' α' r' (t1.trans t') rx⟩
    · exact q.elim
theorem pd_b (hc : BI X (.builtin id) g) (hg : Gl X x) (hm : X.mg x = none) (hv : bootBuiltins x = some (.builtin id)) (ha : PAD X (e :: es) fa) (hn : x ≠ "__name__" := by decide) (hdb : (x == ("__debug__" : Str)) = false := by decide)
    (he : starEach (e :: es) X.env = (false, eval e X.env) :: starEach es X.env := by rfl) (hpl : (backTo pos (starEach es X.env)).any (·.1) = false := by rfl) : PED X (.Call (.Name x p) (e :: es) [] pos) (dB g fa) := by
  refine ⟨fun W tk => ?_⟩
  obtain ⟨t, pa, qa⟩ := ha.run W tk
  exact ⟨_, pe_callB hc.call hg hm hv pa hn hdb he hpl, fun H0 α0 σ H α s Q r q => bi_core qa r q⟩
theorem pd_ty (hc : BI X (.type T) g) (hg : Gl X x) (hm : X.mg x = none) (hv : bootBuiltins x = some (.type T)) (ha : PAD X (e :: es) fa) (hn : x ≠ "__name__" := by decide) (hdb : (x == ("__debug__" : Str)) = false := by decide)
    (he : starEach (e :: es) X.env = (false, eval e X.env) :: starEach es X.env := by rfl) (hpl : (backTo pos (starEach es X.env)).any (·.1) = false := by rfl) : PED X (.Call (.Name x p) (e :: es) [] pos) (dB g fa) := by
  refine ⟨fun W tk => ?_⟩
  obtain ⟨t, pa, qa⟩ := ha.run W tk
  exact ⟨_, pe_callTy hc.call hg hm hv pa hn hdb he hpl, fun H0 α0 σ H α s Q r q => bi_core qa r q⟩
end
end DL

namespace DL
open PySem PySem.Spec PyProof.Rows L2
variable [DLX]
/-! ### 22. The built-ins -/
def gLen : S → List D → Option D := fun s ds => match ds with
  | [.str z] => if z.length ≤ 16777216 then some (.int z.length) else none
  | [d] => (asSeq s d).map fun xs => .int xs.length
  | _ => none
def gAbs : S → List D → Option D := fun _ ds => match ds with | [.int i] => some (.int (if i < 0 then -i else i)) | _ => none
def gMax2 : S → List D → Option D := fun _ ds => match ds with | [.int i, .int j] => some (.int (if j > i then j else i)) | _ => none
def gMin2 : S → List D → Option D := fun _ ds => match ds with | [.int i, .int j] => some (.int (if j < i then j else i)) | _ => none
def gInt : S → List D → Option D := fun _ ds => match ds with | [.int i] => some (.int i) | [.bl b] => some (.int (if b then 1 else 0)) | _ => none
def gTuple : S → List D → Option D := fun s ds => match ds with | [d] => (asSeq s d).map .tup | _ => none
def intD : D → Option Int | .int i => some i | _ => none
def intsD (xs : List D) : Option (List Int) := xs.mapM intD
def gSum : S → List D → Option D := fun s ds => match ds with | [d] => (asL s d).bind fun xs => (intsD xs).map fun ns => .int ns.sum | _ => none
/-- what is shown of data -/
def viaOwn : D → Bool | .own _ | .ref _ => true | _ => false
def shownD (s : S) (d : D) : Option Str := (toPyS s d).bind fun p => if p.showable && ((!viaOwn d && noL d) || !p.hasDict) && decide (p.depth ≤ 60) && decide (p.shown.length ≤ 16777216) then some p.shown else none
def gRepr : S → List D → Option D := fun s ds => match ds with | [d] => (shownD s d).map .str | _ => none
def gStr : S → List D → Option D := fun s ds => match ds with | [.str x] => some (.str x) | [d] => (shownD s d).map .str | _ => none
def tyD (s : S) : D → Option String
  | .non => some "NoneType"
  | .bl _ => some "bool"
  | .int _ => some "int"
  | .str _ => some "str"
  | .tup _ => some "tuple"
  | .lst _ => some "list"
  | .dct _ => some "dict"
  | .own i => (match cellAt s (.own i) with | some (.lst _) => some "list" | some (.dct _) => some "dict" | _ => none)
  | .ref i => (match cellAt s (.ref i) with | some (.lst _) => some "list" | some (.dct _) => some "dict" | _ => none)
  | _ => none
def gIsi : S → List D → Option D := fun s ds => match ds with | [d, .ty n] => (tyD s d).bind fun t => (kitB t n).map .bl | _ => none
def truthP (s : S) (xs : List D) : Option (List PyData) := (toPyL xs).bind fun ps => if PyData.plainAll ps && ps.all (fun p => match p with | .str x => decide (x.length ≤ 16777216) | .list l => decide (l.length ≤ 16777216) | .tuple l => decide (l.length ≤ 16777216) | _ => true) then some ps else none
def gAll : S → List D → Option D := fun s ds => match ds with | [d] => (asL s d).bind fun xs => (truthP s xs).map fun ps => .bl (ps.all PyData.truthy) | _ => none
def gAny : S → List D → Option D := fun s ds => match ds with | [d] => (asL s d).bind fun xs => (truthP s xs).map fun ps => .bl (ps.any PyData.truthy) | _ => none
section
variable {X : Cx}
theorem Rxs.one {K : PySem.W.Frag} {H : Hp} {α : List Addr} {σ : Sg} {d : D} {vs : List V} (h : Rxs K H α σ [d] vs) : ∃ v, vs = [v] ∧ Rx K H α σ d v := by
  cases h with
  | cons a b => cases b; exact ⟨_, rfl, a⟩
theorem Rxs.two {K : PySem.W.Frag} {H : Hp} {α : List Addr} {σ : Sg} {d e : D} {vs : List V} (h : Rxs K H α σ [d, e] vs) : ∃ v w, vs = [v, w] ∧ Rx K H α σ d v ∧ Rx K H α σ e w := by
  cases h with
  | cons a b =>
    obtain ⟨w, rfl, q⟩ := Rxs.one b
    exact ⟨_, w, rfl, a, q⟩
theorem bi_len : BI X (.builtin "len") gLen := .of L2.call_len fun H0 α0 σ H α s xs ds d Q r rx e q => by
  unfold gLen at e
  split at e
  · obtain ⟨v, rfl, rv⟩ := rx.one
    split at e
    · rename_i hz
      rw [← sizeLine_eq] at hz
      cases e
      rw [rx_str rv]
      exact ⟨_, _, rfl, ⟨hz, rfl⟩, .inl (q _ _ _ r (Stay.refl _ _) ox_int)⟩
    · cases e
  · obtain ⟨v, rfl, rv⟩ := rx.one
    simp only [Option.map_eq_some_iff] at e
    obtain ⟨ys, e, rfl⟩ := e
    obtain ⟨a, vs, rfl, hs, rr⟩ := asSeq_ok r rv e
    refine ⟨_, ys.length, rfl, ?_, .inl (q _ _ _ r (Stay.refl _ _) ox_int)⟩
    rcases hs with hs | hs
    · exact .inl ⟨vs, hs, rr.length.symm⟩
    · exact .inr ⟨vs, hs, rr.length.symm⟩
  · cases e
theorem bi_abs : BI X (.builtin "abs") gAbs := .of L2.call_abs fun H0 α0 σ H α s xs ds d Q r rx e q => by
  unfold gAbs at e
  split at e
  · obtain ⟨v, rfl, rv⟩ := rx.one
    cases e
    rw [rx_int rv]
    exact ⟨_, rfl, .inl (q _ _ _ r (Stay.refl _ _) ox_int)⟩
  · cases e
theorem bi_max2 (hc : X.calm = true) : BI X (.builtin "max") gMax2 := .of (L2.call_max2 hc) fun H0 α0 σ H α s xs ds d Q r rx e q => by
  unfold gMax2 at e
  split at e
  · obtain ⟨v, w, rfl, rv, rw⟩ := rx.two
    cases e
    rw [rx_int rv, rx_int rw]
    exact ⟨_, _, rfl, .inl (q _ _ _ r (Stay.refl _ _) ox_int)⟩
  · cases e
theorem bi_min2 (hc : X.calm = true) : BI X (.builtin "min") gMin2 := .of (L2.call_min2 hc) fun H0 α0 σ H α s xs ds d Q r rx e q => by
  unfold gMin2 at e
  split at e
  · obtain ⟨v, w, rfl, rv, rw⟩ := rx.two
    cases e
    rw [rx_int rv, rx_int rw]
    exact ⟨_, _, rfl, .inl (q _ _ _ r (Stay.refl _ _) ox_int)⟩
  · cases e
theorem bi_int : BI X (.type "int") gInt := .of L2.call_int1 fun H0 α0 σ H α s xs ds d Q r rx e q => by
  unfold gInt at e
  split at e
  · obtain ⟨v, rfl, rv⟩ := rx.one
    cases e
    rw [rx_int rv]
    exact .inl ⟨_, rfl, .inl (q _ _ _ r (Stay.refl _ _) ox_int)⟩
  · obtain ⟨v, rfl, rv⟩ := rx.one
    cases e
    rw [rx_bl rv]
    exact .inr ⟨_, rfl, .inl (q _ _ _ r (Stay.refl _ _) ox_int)⟩
  · cases e
theorem bi_tuple : BI X (.type "tuple") gTuple := .of L2.call_tuple_of fun H0 α0 σ H α s xs ds d Q r rx e q => by
  unfold gTuple at e
  split at e
  · rename_i dd
    obtain ⟨v, rfl, rv⟩ := rx.one
    simp only [Option.map_eq_some_iff] at e
    obtain ⟨ys, e, rfl⟩ := e
    have key : ∀ d, asL s d = some ys → Rx X.K H α σ d v → ∃ p ys', [v] = [V.ref p] ∧ ((SqL X.K H p ys' ∧ ∀ l, H l = none → Gh (upd H l (.tup ys')) (Q (.ref l))) ∨ (SqT X.K H p ys' ∧ Gh H (Q (.ref p)))) := fun d e rv => by
      obtain ⟨a, vs, rfl, hs, rr⟩ := asL_ok r rv e
      exact ⟨a, vs, rfl, .inl ⟨hs, fun l hl => .inl (new_tup r hl rr q)⟩⟩
    unfold asSeq at e
    split at e
    · cases e
      obtain ⟨a, vs, rfl, hs, rr⟩ := asT_ok rv
      exact ⟨a, vs, rfl, .inr ⟨hs, .inl (q _ _ _ r (Stay.refl _ _) rv)⟩⟩
    · exact key _ e rv
  · cases e
theorem rvs_ints {K : PySem.W.Frag} {H : Hp} {α : List Addr} : ∀ (ys : List D) {ns : List Int} {vs : List V}, intsD ys = some ns → Rvs K H α ys vs → vs = ns.map V.int
  | [], ns, vs, e, r => by
    unfold intsD at e
    simp only [List.mapM_nil, Option.pure_def, Option.some.injEq] at e
    subst e
    show vs = []
    simpa only [Rvs] using r
  | y :: ys, ns, vs, e, r => by
    unfold intsD at e
    rw [List.mapM_cons] at e
    simp only [Option.bind_eq_bind, Option.bind_eq_some_iff, Option.pure_def, Option.some.injEq] at e
    obtain ⟨i, ei, ns2, e3, rfl⟩ := e
    simp only [Rvs] at r
    obtain ⟨v, r2, rfl, h1, h2⟩ := r
    have := rvs_ints ys (ns := ns2) e3 h2
    subst this
    unfold intD at ei
    split at ei
    · cases ei
      simp only [Rv] at h1
      subst h1
      rfl
    · cases ei
theorem bi_sum (hc : X.calm = true) : BI X (.builtin "sum") gSum := .of (L2.cr_sum hc) fun H0 α0 σ H α s xs ds d Q r rx e q => by
  unfold gSum at e
  split at e
  · obtain ⟨v, rfl, rv⟩ := rx.one
    simp only [Option.bind_eq_some_iff, Option.map_eq_some_iff] at e
    obtain ⟨ys, e1, ns, e2, rfl⟩ := e
    obtain ⟨a, vs, rfl, hs, rr⟩ := asL_ok r rv e1
    obtain rfl := rvs_ints ys e2 rr
    exact ⟨a, ns, rfl, hs, .inl (q _ _ _ r (Stay.refl _ _) ox_int)⟩
  · cases e
theorem hreads {pins : List (Addr × Obj)} {s : Shared} {σ0 σ : Sg} {H H0 : Hp} {α0 α : List Addr} {st : S} {d : D} {v : V} {u : Value} {p : PyData} (I : Inv X pins σ0 H s) (rl : Rel X.K H0 α0 H α σ st) (h : Rx X.K H α σ d v) (r : RelV v u) (e : toPyS st d = some p)
    (n : ((!viaOwn d && noL d) || !p.hasDict) = true) : ∃ as, Reads s.heap u p as ∧ (p.hasDict = true → sysModules ∉ as) := by
  cases hd : p.hasDict with
  | false =>
    obtain ⟨as, q⟩ := rx_reads I rl h r e
    exact ⟨as, q, fun z => nomatch z⟩
  | true =>
    rw [hd] at n
    simp only [Bool.not_true, Bool.or_false, Bool.and_eq_true, Bool.not_eq_true'] at n
    cases d <;> simp only [viaOwn, Bool.false_eq_true, false_and, reduceCtorEq] at n
    all_goals
      obtain ⟨as, q, k⟩ := reads_ok I _ v u p h r e
      exact ⟨as, q, fun _ => k n.2⟩
theorem bi_repr (hgu : X.A.guards = some []) (hu : X.A.units + 65 < cLine) : BI X (.builtin "repr") gRepr := by
  intro pins s σ0 H xs us Q H0 σ α0 α st ds d I rl rx rv eg q
  unfold gRepr at eg
  split at eg
  · rename_i dd
    simp only [Option.map_eq_some_iff] at eg
    obtain ⟨z, eg, rfl⟩ := eg
    unfold shownD at eg
    simp only [Option.bind_eq_some_iff] at eg
    obtain ⟨p, ep, eg⟩ := eg
    split at eg
    · rename_i hc
      cases eg
      simp only [Bool.and_eq_true, decide_eq_true_eq] at hc
      obtain ⟨⟨⟨h1, h2⟩, h3⟩, h4⟩ := hc
      rw [← sizeLine_eq] at h4
      obtain ⟨v, rfl, rx1⟩ := rx.one
      obtain ⟨u, rfl, rv1⟩ := vals1 rv
      obtain ⟨as, rd, hs⟩ := hreads I rl rx1 rv1 ep h2
      have fin : ∀ t, EP X pins σ0 Q (.str p.shown t) { s with toks := s.toks + 1 } := fun t => ⟨.str p.shown, H, I.tok _, ⟨t, rfl⟩, q _ H α rl (Stay.refl _ _) ox_str⟩
      cases rd with
      | none => exact PySem.P.repr_of_none (fin _)
      | bool b => exact PySem.P.repr_of_bool (by simpa only [PyData.shown] using fin _)
      | int i t => exact PySem.P.repr_of_int (by simpa [PyData.showable] using h1) (by simpa only [PyData.shown] using fin _)
      | str y t => exact PySem.P.repr_of_str (by simpa only [PyData.shown] using fin _) (by simpa only [PyData.shown] using h4)
      | list a1 a2 a3 a4 =>
        refine repr_of_reads' (.list a1 a2 a3 a4) h1 hs hgu (by omega) (fun _ _ e => e) (fun h' tk u hk => ?_) h4
        exact ⟨.str _, H, I.kept hk, ⟨_, rfl⟩, q _ H α rl (Stay.refl _ _) ox_str⟩
      | tuple a1 a2 a3 a4 =>
        refine repr_of_reads' (.tuple a1 a2 a3 a4) h1 hs hgu (by omega) (fun _ _ e => e) (fun h' tk u hk => ?_) h4
        exact ⟨.str _, H, I.kept hk, ⟨_, rfl⟩, q _ H α rl (Stay.refl _ _) ox_str⟩
      | dict a1 a2 a3 a4 a5 =>
        refine repr_of_reads' (.dict a1 a2 a3 a4 a5) h1 hs hgu (by omega) (fun _ _ e => e) (fun h' tk u hk => ?_) h4
        exact ⟨.str _, H, I.kept hk, ⟨_, rfl⟩, q _ H α rl (Stay.refl _ _) ox_str⟩
    · cases eg
  · cases eg
/-- the type of a value -/
theorem kit_d {pins : List (Addr × Obj)} {s : Shared} {σ0 σ : Sg} {H H0 : Hp} {α0 α : List Addr} {st : S} {d : D} {v : V} {u : Value} {T : String} (I : Inv X pins σ0 H s) (rl : Rel X.K H0 α0 H α σ st) (h : Rx X.K H α σ d v) (r : RelV v u) (e : tyD st d = some T) :
    ∃ P : Heap → Prop, PySem.W.KitX X.K u (.type T) P ∧ P s.heap ∧ u ≠ .builtin "__main__.__loader__#opaque" := by
  have viaC : ∀ (a : Addr) (c : Cell), CellOk X.K H α a c → (match c with | .lst _ => some "list" | .dct _ => some "dict" | _ => none) = some T → ∃ P : Heap → Prop, PySem.W.KitX X.K (.ref a) (.type T) P ∧ P s.heap ∧ (Value.ref a) ≠ .builtin "__main__.__loader__#opaque" := by
    intro a c hc e
    cases c <;> simp only [Option.some.injEq, reduceCtorEq] at e
    · subst e
      obtain ⟨vs, ha, _⟩ := hc
      exact kit_of I (x := .ref a) rfl (.base (.lst ha))
    · subst e
      rcases hc with ⟨kv, ha, _⟩ | ⟨kv, _, ha, _⟩
      · exact kit_of I (x := .ref a) rfl (.base (.dK ha))
      · exact kit_of I (x := .ref a) rfl (.base (.dT ha))
  cases d <;> simp only [tyD, Option.some.injEq, reduceCtorEq] at e
  case non => subst e; rw [rx_non h] at r; exact kit_of I r (.base .non)
  case bl b => subst e; rw [rx_bl h] at r; exact kit_of I r (.base (.bl b))
  case int i => subst e; rw [rx_int h] at r; exact kit_of I r (.base (.int i))
  case str i => subst e; rw [rx_str h] at r; exact kit_of I r (.base (.str i))
  case ref n =>
    have h' : Rv X.K H α (.ref n) v := h
    simp only [Rv] at h'
    obtain ⟨a, ha, rfl⟩ := h'
    cases r
    simp only [cellAt] at e
    cases hc : st.μ[n]? with
    | none => rw [hc] at e; cases e
    | some c =>
      rw [hc] at e
      exact viaC a c (rl.cells.at_ n a c ha hc) (by cases c <;> simpa using e)
  case own n =>
    have h' : σ[n]? = some (some v) := h
    simp only [cellAt] at e
    cases hc : st.δ[n]? with
    | none => rw [hc] at e; simp at e
    | some c =>
      rw [hc] at e
      cases c with
      | no => simp at e
      | val _ => simp at e
      | own c =>
        obtain ⟨a, ha, _, _, q⟩ := rl.slots.own n c hc
        rw [h'] at ha
        cases ha
        cases r
        exact viaC a c q (by cases c <;> simpa using e)
  case tup xs =>
    subst e
    obtain ⟨a, vs, rfl, hs, _⟩ := asT_ok h
    rcases hs with (hs | ⟨o, hs⟩) | ⟨o, its, n, hk, hc, _⟩
    · exact kit_of I r (.base (.tup hs))
    · exact kit_of I r (.fTuple hs)
    · exact kit_of I r (.kTuple hk hc)
  case lst xs =>
    subst e
    have h' : Rv X.K H α (.lst xs) v := h
    simp only [Rv] at h'
    obtain ⟨a, vs, rfl, hs, _⟩ := h'
    rcases hs with ⟨o, hs⟩ | ⟨o, its, n, hk, hc, _⟩
    · exact kit_of I r (.base (.frz hs))
    · exact kit_of I r (.kList hk hc)
  case dct kvs =>
    subst e
    have h' : Rv X.K H α (.dct kvs) v := h
    simp only [Rv] at h'
    obtain ⟨a, o, rfl, ⟨kv, hf, _⟩ | ⟨kv, _, hf, _⟩⟩ := h'
    · exact kit_of I r (.fDict hf)
    · cases (show u = Value.ref a from r)
      obtain ⟨_, _, _, _, _, o2, es, ep, h1, h2, _⟩ := (show ObjOk X.prog X.w H s.heap a (.frz o (.dT kv)) from I.hok a _ hf)
      exact ⟨_, PySem.W.kitx_dict, ⟨o2, h1, h2.1⟩, fun z => nomatch z⟩
theorem bi_isi : BI X (.builtin "isinstance") gIsi := by
  intro pins s σ0 H xs us Q H0 σ α0 α st ds d I rl rx rv eg q
  unfold gIsi at eg
  split at eg
  · simp only [Option.bind_eq_some_iff, Option.map_eq_some_iff] at eg
    obtain ⟨T, et, b, eb, rfl⟩ := eg
    obtain ⟨v, w, rfl, rx1, rx2⟩ := rx.two
    obtain ⟨u1, u2, rfl, rv1, rv2⟩ := vals2 rv
    have h2 : Rv X.K H α (.ty _) w := rx2
    simp only [Rv] at h2
    subst h2
    cases (show u2 = Value.type _ from rv2)
    obtain ⟨P, Z, p, hx⟩ := kit_d I rl rx1 rv1 et
    exact PySem.W.kia_one Z I.kIn p (kit_ty eb) hx fun tk => ⟨.bl b, H, I.tok tk, rfl, q _ H α rl (Stay.refl _ _) ox_bl⟩
  · cases eg
theorem fits_of {ps : List PyData} (h : (ps.all fun p => match p with | .str x => decide (x.length ≤ 16777216) | .list l => decide (l.length ≤ 16777216) | .tuple l => decide (l.length ≤ 16777216) | _ => true) = true) : ∀ x ∈ ps, x.fits63 := by
  intro x hx
  have := List.all_eq_true.mp h x hx
  cases x <;> simp only [decide_eq_true_eq] at this <;> simp only [PyData.fits63] <;> first | trivial | omega
theorem bi_all (hc : X.calm = true) : BI X (.builtin "all") gAll := by
  intro pins s σ0 H xs us Q H0 σ α0 α st ds d I rl rx rv eg q
  unfold gAll at eg
  split at eg
  · simp only [Option.bind_eq_some_iff, Option.map_eq_some_iff] at eg
    obtain ⟨ys, e1, ps, e2, rfl⟩ := eg
    unfold truthP at e2
    simp only [Option.bind_eq_some_iff] at e2
    obtain ⟨ps', e2, e3⟩ := e2
    split at e3
    · rename_i hh
      cases e3
      rw [Bool.and_eq_true] at hh
      obtain ⟨v, rfl, rx1⟩ := rx.one
      obtain ⟨u, rfl, rv1⟩ := vals1 rv
      obtain ⟨a, vs, rfl, hs, rr⟩ := asL_ok rl rx1 e1
      cases (show u = Value.ref a from rv1)
      obtain ⟨its, rv2, hl, _⟩ := I.list hs
      obtain ⟨as, rd, _⟩ := readsL_ok I ys vs its ps rr rv2 e2
      exact PySem.W.all_list_data (I.ok.hd hc) hl.isList (by simpa using rd) hh.1 (fits_of hh.2) fun h' tk hk => ⟨.bl _, H, I.kept hk, rfl, q _ H α rl (Stay.refl _ _) ox_bl⟩
    · cases e3
  · cases eg
theorem bi_any (hc : X.calm = true) : BI X (.builtin "any") gAny := by
  intro pins s σ0 H xs us Q H0 σ α0 α st ds d I rl rx rv eg q
  unfold gAny at eg
  split at eg
  · simp only [Option.bind_eq_some_iff, Option.map_eq_some_iff] at eg
    obtain ⟨ys, e1, ps, e2, rfl⟩ := eg
    unfold truthP at e2
    simp only [Option.bind_eq_some_iff] at e2
    obtain ⟨ps', e2, e3⟩ := e2
    split at e3
    · rename_i hh
      cases e3
      rw [Bool.and_eq_true] at hh
      obtain ⟨v, rfl, rx1⟩ := rx.one
      obtain ⟨u, rfl, rv1⟩ := vals1 rv
      obtain ⟨a, vs, rfl, hs, rr⟩ := asL_ok rl rx1 e1
      cases (show u = Value.ref a from rv1)
      obtain ⟨its, rv2, hl, _⟩ := I.list hs
      obtain ⟨as, rd, _⟩ := readsL_ok I ys vs its ps rr rv2 e2
      exact PySem.W.any_list_data (I.ok.hd hc) hl.isList (by simpa using rd) hh.1 (fits_of hh.2) fun h' tk hk => ⟨.bl _, H, I.kept hk, rfl, q _ H α rl (Stay.refl _ _) ox_bl⟩
    · cases e3
  · cases eg
end
end DL

namespace DL
open PySem PySem.Spec PyProof.Rows L2
variable [DLX]
/-! ### 23. Walks over lists and tuples mixed: enumerate, zip -/
def SqB (b : Bool) (K : PySem.W.Frag) (H : Hp) (a : Addr) (xs : List V) : Prop := match b with | true => SqL K H a xs | false => SqT K H a xs
def ItB (b : Bool) (h : Heap) (it a : Addr) (i : Nat) : Prop := match b with | true => h.IsListIter it a i | false => h.IsTupleIter it a i
def IsB (b : Bool) (h : Heap) (a : Addr) (its : Array Value) : Prop := match b with | true => h.IsList a its | false => h.IsTuple a its
def oIt (b : Bool) (a : Addr) : Obj := match b with | true => { cls := .type "list_iterator", data := .fields #[.ref a, .int 0 0] } | false => { cls := .type "tuple_iterator", data := .fields #[.ref a, .int 0 0] }
theorem ItB.keep {b : Bool} {h h' : Heap} {it a : Addr} {i : Nat} (q : ItB b h it a i) (k : ∀ o, h.get? it = some o → h'.get? it = some o) : ItB b h' it a i := by
  cases b <;> obtain ⟨o, ho, r⟩ := q <;> exact ⟨o, k o ho, r⟩
theorem ItB.obj {b : Bool} {h : Heap} {it a : Addr} {i : Nat} (q : ItB b h it a i) : ∃ o, h.get? it = some o ∧ ∀ v, o.data ≠ .cell v := by
  cases b <;> obtain ⟨o, ho, hc, hd⟩ := q <;> exact ⟨o, ho, fun v z => by rw [hd] at z; cases z⟩
theorem ItB.new {b : Bool} {h : Heap} {it a : Addr} (q : h.get? it = some (oIt b a)) : ItB b h it a 0 := by
  cases b <;> exact ⟨_, q, rfl, rfl⟩
theorem IsB.keep {b : Bool} {h h' : Heap} {a : Addr} {its : Array Value} (q : IsB b h a its) (k : ∀ o, h.get? a = some o → h'.get? a = some o) : IsB b h' a its := by
  cases b <;> obtain ⟨o, ho, r⟩ := q <;> exact ⟨o, k o ho, r⟩
theorem IsB.lt {b : Bool} {h : Heap} {a : Addr} {its : Array Value} (q : IsB b h a its) : a < h.objs.size := by
  cases b <;> obtain ⟨o, ho, r⟩ := q <;> exact Heap.lt_size ho
theorem beginsB (b : Bool) (a : Addr) (its : Array Value) : Begins (.ref a) (oIt b a) fun h => IsB b h a its := by
  cases b
  · exact begins_tuple a its
  · exact begins_list a its
theorem nlt {a n : Nat} (k : Nat) (h : a < n) : a ≠ n + k := by omega
theorem nad {n : Nat} (i j : Nat) (h : i ≠ j) : n + i ≠ n + j := by omega
theorem lad {n c : Nat} (k : Nat) (h : c = n + k) : n ≤ c := by omega
theorem nle {a n : Nat} (h : a < n) (h' : n ≤ a) : False := by omega
theorem mem2 {a b c : Addr} (h : c ∈ [a, b]) : c = a ∨ c = b := by simpa using h
theorem drawsB {prog : Program} {w : World} {A : Around} (b : Bool) (hh : A.handled = none) (it a : Addr) (hne : a ≠ it) (its : Array Value) :
    Draws prog w A it [it, a] its.size (fun i v => its[i]? = some v) (fun i h => ItB b h it a i ∧ IsB b h a its) := by
  cases b
  · exact Draws.tuple hh it a hne its
  · exact Draws.list hh it a hne its
section
variable {X : Cx} {pins : List (Addr × Obj)} {σ : Sg} {H : Hp} {s : Shared}
theorem inv_seqB {b : Bool} {a : Addr} {xs : List V} (I : Inv X pins σ H s) (h : SqB b X.K H a xs) : ∃ its : List Value, Vals xs its ∧ IsB b s.heap a its.toArray := by
  cases b
  · obtain ⟨its, r, p, _⟩ := I.tuple h
    exact ⟨its, r, p⟩
  · obtain ⟨its, r, p, _⟩ := I.list h
    exact ⟨its, r, p.isList⟩
theorem SqB.inj {b : Bool} {a : Addr} {xs ys : List V} (I : Inv X pins σ H s) (h : SqB b X.K H a xs) (h' : SqB b X.K H a ys) : xs = ys := by
  cases b
  · exact I.tuple_inj h h'
  · exact I.list_inj h h'
end
/-- each item in a new pair with its place -/
def JEn (b : Bool) (K : PySem.W.Frag) (a : Addr) : It :=
  ⟨fun i H => ∃ (xs : List V) (x : V), SqB b K H a xs ∧ xs[i]? = some x, fun i H v H' => ∃ T x, v = .ref T ∧ H T = none ∧ H' = upd H T (.tup [.int (i : Nat), x]) ∧ ∀ xs, SqB b K H a xs → xs[i]? = some x, fun i H => ∃ xs : List V, SqB b K H a xs ∧ xs.length = i⟩
theorem turn_enB {P : Program} {w : World} {K : PySem.W.Frag} {elts : List Expr} {kk : Nat} {tpos : Pos} (b : Bool) (a e it : Addr) :
    Turn P w K (.Tuple elts kk tpos) (JEn b K a) [e, it] e (fun i h => (∃ old, IsEnum h e it (0 + ((i : Nat) : Int)) old) ∧ ItB b h it a i ∧ e ≠ it ∧ a ≠ e ∧ a ≠ it) where
  mem := by simp
  obj := fun i h st c hc => by
    obtain ⟨⟨old, he⟩, hi, _⟩ := st
    rcases mem2 hc with rfl | rfl
    · exact ⟨_, he, fun v q => nomatch q⟩
    · exact hi.obj
  keep := fun i h h' st k => by
    obtain ⟨⟨old, he⟩, hi, hne⟩ := st
    exact ⟨⟨old, k e (by simp) _ he⟩, hi.keep fun o q => k it (by simp) o q, hne⟩
  item := by
    intro X hP hw hK hc i pins s σ H E I hf st hg
    subst hP hw hK
    obtain ⟨⟨old, he⟩, hit, hne, nae, nai⟩ := st
    obtain ⟨xs, x, hq, hx⟩ := hg
    obtain ⟨its, rv, p⟩ := inv_seqB I hq
    obtain ⟨u, hu, ru⟩ := rv.get hx
    have hi : i < its.toArray.size := by
      have := (List.getElem?_eq_some_iff.mp hu).1
      simpa using this
    refine (GoesN.enumFrom (elts := elts) (x1 := kk) (pos := tpos) 0 (drawsB (prog := X.prog) (w := X.w) (A := X.A.in1) b (I.ok.hd hc) it a nai its.toArray) e hne (by simp [hne]; exact fun z => nae z.symm) (by simp)).goes i s _ E hi ⟨⟨old, he⟩, hit, p⟩ ?_
    rintro v h' tk ⟨T, t, y, rfl, hT, hy, hTup⟩ ⟨he', hit', p'⟩ hk htk
    have ey : y = u := by
      rw [List.getElem?_toArray, hu] at hy
      exact (Option.some.inj hy).symm
    subst ey
    obtain ⟨oT, h1, h2, n, h3⟩ := hTup
    have new : ObjOk X.prog X.w (upd H T (.tup [.int (i : Nat), x])) h' T (.tup [.int (i : Nat), x]) :=
      ⟨by show 2 ≤ sizeLine; decide, [.int (0 + (i : Int)) t, y], .cons ⟨t, by rw [Int.zero_add]⟩ (.cons ru .nil), ⟨oT, h1, h2, n, h3⟩⟩
    have hn : H T = none := I.hok.fresh hT
    have I1 : Inv X pins σ (upd H T (.tup [.int (i : Nat), x])) { s with heap := h', toks := tk } := I.turnedNew (ch := [e, it]) hk hf hT new
    refine ⟨.ref T, _, I1, rfl, ⟨T, x, rfl, hn, rfl, fun ys hys => by rw [SqB.inj I hys hq]; exact hx⟩, ⟨he', hit', hne, nae, nai⟩, fun c hc => ?_⟩
    rw [upd_ne]
    · exact (hf c hc).1
    · intro z
      subst z
      have : c < s.heap.objs.size := by
        rcases mem2 hc with rfl | rfl
        · exact Heap.lt_size he
        · exact Heap.lt_size hit.obj.choose_spec.1
      exact nle this hT
  done := by
    intro X hP hw hK hc i pins s σ H E I hf st hg
    subst hP hw hK
    obtain ⟨⟨old, he⟩, hit, hne, nae, nai⟩ := st
    obtain ⟨xs, hq, hx⟩ := hg
    obtain ⟨its, rv, p⟩ := inv_seqB I hq
    have hi : i = its.toArray.size := by
      have := rv.length
      simp
      omega
    subst hi
    exact (GoesN.enumFrom (elts := elts) (x1 := kk) (pos := tpos) 0 (drawsB (prog := X.prog) (w := X.w) (A := X.A.in1) b (I.ok.hd hc) it a nai its.toArray) e hne (by simp [hne]; exact fun z => nae z.symm) (by simp)).stops s (fun s1 => Inv X pins σ H s1) E ⟨⟨old, he⟩, hit, p⟩
      fun h' tk hk htk => I.turnedL (ch := [e, it]) hk hf
  self := fun A i s Q E st h => let ⟨⟨_, he⟩, _⟩ := st; wpAny_pyIter_enum he h
/-- two sources, the items in new pairs -/
def JZp (b c : Bool) (K : PySem.W.Frag) (a d : Addr) : It :=
  ⟨fun i H => ∃ (xs ys : List V) (x y : V), SqB b K H a xs ∧ SqB c K H d ys ∧ xs[i]? = some x ∧ ys[i]? = some y,
    fun i H v H' => ∃ T x y, v = .ref T ∧ H T = none ∧ H' = upd H T (.tup [x, y]) ∧ (∀ xs, SqB b K H a xs → xs[i]? = some x) ∧ ∀ ys, SqB c K H d ys → ys[i]? = some y,
    fun i H => ∃ xs ys : List V, SqB b K H a xs ∧ SqB c K H d ys ∧ min xs.length ys.length = i⟩
theorem turn_zpB {P : Program} {w : World} {K : PySem.W.Frag} {elts : List Expr} {kk : Nat} {tpos : Pos} (b c : Bool) {a d z TI TO i1 i2 : Addr} (D : ZipSep2 z TI TO i1 i2 [i1, a] [i2, d]) (na : a ≠ i1) (nd : d ≠ i2) :
    Turn P w K (.Tuple elts kk tpos) (JZp b c K a d) [z, TI, TO, i1, i2] z (fun i h => IsZip h z TI TO .none ∧ IsTupOf2 h TI (.ref i1) (.ref i2) ∧ (∃ x y, IsTupOf2 h TO x y) ∧ ItB b h i1 a i ∧ ItB c h i2 d i) where
  mem := by simp
  obj := fun i h st q hq => by
    obtain ⟨hz, hTI, ⟨x, y, hTO⟩, h1, h2⟩ := st
    simp only [List.mem_cons, List.not_mem_nil, or_false] at hq
    rcases hq with rfl | rfl | rfl | rfl | rfl
    · exact ⟨_, hz, fun v q => nomatch q⟩
    · exact ⟨_, hTI, fun v q => nomatch q⟩
    · exact ⟨_, hTO, fun v q => nomatch q⟩
    · exact h1.obj
    · exact h2.obj
  keep := fun i h h' st k => by
    obtain ⟨hz, hTI, ⟨x, y, hTO⟩, h1, h2⟩ := st
    exact ⟨k z (by simp) _ hz, k TI (by simp) _ hTI, ⟨x, y, k TO (by simp) _ hTO⟩, h1.keep fun o q => k i1 (by simp) o q, h2.keep fun o q => k i2 (by simp) o q⟩
  item := by
    intro X hP hw hK hc i pins s σ H E I hf st hg
    subst hP hw hK
    obtain ⟨hz, hTI, ⟨x0, y0, hTO⟩, h1, h2⟩ := st
    obtain ⟨xs, ys, x, y, hqx, hqy, hx, hy⟩ := hg
    obtain ⟨its, rv, p⟩ := inv_seqB I hqx
    obtain ⟨its2, rv2, p2⟩ := inv_seqB I hqy
    obtain ⟨u, hu, ru⟩ := rv.get hx
    obtain ⟨u2, hu2, ru2⟩ := rv2.get hy
    have hi : i < min its.toArray.size its2.toArray.size := by
      have h1 := (List.getElem?_eq_some_iff.mp hu).1
      have h2 := (List.getElem?_eq_some_iff.mp hu2).1
      simp
      omega
    refine (GoesN.zip2 (elts := elts) (x1 := kk) (pos := tpos) D (drawsB (prog := X.prog) (w := X.w) (A := X.A.in1) b (I.ok.hd hc) i1 a na its.toArray) (drawsB (prog := X.prog) (w := X.w) (A := X.A.in1) c (I.ok.hd hc) i2 d nd its2.toArray)).goes i s _ E hi ⟨hz, hTI, ⟨x0, y0, hTO⟩, ⟨h1, p⟩, h2, p2⟩ ?_
    rintro v h' tk ⟨T, y1, y2, rfl, hT, hy1, hy2, hTup⟩ ⟨hz', hTI', hTO', ⟨h1', _⟩, h2', _⟩ hk htk
    have e1 : y1 = u := by
      rw [List.getElem?_toArray, hu] at hy1
      exact (Option.some.inj hy1).symm
    have e2 : y2 = u2 := by
      rw [List.getElem?_toArray, hu2] at hy2
      exact (Option.some.inj hy2).symm
    subst e1 e2
    obtain ⟨oT, k1, k2, n, k3⟩ := hTup
    have new : ObjOk X.prog X.w (upd H T (.tup [x, y])) h' T (.tup [x, y]) := ⟨by show 2 ≤ sizeLine; decide, [y1, y2], .cons ru (.cons ru2 .nil), ⟨oT, k1, k2, n, k3⟩⟩
    have hn : H T = none := I.hok.fresh hT
    have I1 : Inv X pins σ (upd H T (.tup [x, y])) { s with heap := h', toks := tk } := I.turnedNew (ch := [z, TO, i1, i2]) hk (fun q hq => hf q (by simp only [List.mem_cons, List.not_mem_nil, or_false] at hq ⊢; rcases hq with z | z | z | z <;> simp [z])) hT new
    refine ⟨.ref T, _, I1, rfl, ⟨T, x, y, rfl, hn, rfl, fun ys hys => by rw [SqB.inj I hys hqx]; exact hx, fun ys hys => by rw [SqB.inj I hys hqy]; exact hy⟩, ⟨hz', hTI', hTO', h1', h2'⟩, fun q hq => ?_⟩
    rw [upd_ne]
    · exact (hf q hq).1
    · intro e
      subst e
      have : q < s.heap.objs.size := by
        simp only [List.mem_cons, List.not_mem_nil, or_false] at hq
        rcases hq with rfl | rfl | rfl | rfl | rfl
        · exact Heap.lt_size hz
        · exact Heap.lt_size hTI
        · exact Heap.lt_size hTO
        · exact Heap.lt_size h1.obj.choose_spec.1
        · exact Heap.lt_size h2.obj.choose_spec.1
      exact nle this hT
  done := by
    intro X hP hw hK hc i pins s σ H E I hf st hg
    subst hP hw hK
    obtain ⟨hz, hTI, ⟨x0, y0, hTO⟩, h1, h2⟩ := st
    obtain ⟨xs, ys, hqx, hqy, hi⟩ := hg
    obtain ⟨its, rv, p⟩ := inv_seqB I hqx
    obtain ⟨its2, rv2, p2⟩ := inv_seqB I hqy
    have hi : i = min its.toArray.size its2.toArray.size := by
      have h1 := rv.length
      have h2 := rv2.length
      simp
      omega
    subst hi
    exact (GoesN.zip2 (elts := elts) (x1 := kk) (pos := tpos) D (drawsB (prog := X.prog) (w := X.w) (A := X.A.in1) b (I.ok.hd hc) i1 a na its.toArray) (drawsB (prog := X.prog) (w := X.w) (A := X.A.in1) c (I.ok.hd hc) i2 d nd its2.toArray)).stops s (fun s1 => Inv X pins σ H s1) E ⟨hz, hTI, ⟨x0, y0, hTO⟩, ⟨h1, p⟩, h2, p2⟩
      fun h' tk hk htk => I.turnedL (ch := [z, TO, i1, i2]) hk (fun q hq => hf q (by simp only [List.mem_cons, List.not_mem_nil, or_false] at hq ⊢; rcases hq with z | z | z | z <;> simp [z]))
  self := fun A i s Q E st h => wpAny_pyIter_zip st.1 h
/-! the iterators -/
theorem meets_enum1 {v : Value} {o : Obj} {P : Heap → Prop} (B : Begins v o P) :
    Meets (Builtin.«enumerate.__new__» ⟨[.type "enumerate", v], []⟩) (fun _ R s => P s.heap ∧
      R (.ok (.ret (.ref (s.heap.push o).objs.size))) { s with heap := (s.heap.push o).push { cls := .type "enumerate", data := .fields #[.none, .bool false, .ref s.heap.objs.size, rawInt 0, .none, .none] } }) :=
  .of_wp fun prog w A R s h => by
    obtain ⟨hp, g, d, tk, os⟩ := s
    obtain ⟨h1, h⟩ := h
    have hsub := sub_enumerate
    have q1 : ∀ {A' : Around} {E : Value → Shared → Prop} {Q : Value → Shared → Prop}, Q (.ref hp.objs.size) ⟨hp.push o, g, d, tk, os⟩ → wpAny (model prog w) A' (pyIter v) Q E ⟨hp, g, d, tk, os⟩ :=
      fun q => B.iter prog w _ _ ⟨hp, g, d, tk, os⟩ _ h1 q
    wp_walk using q1
    refine wpAny_stack_any fun st => wpAny_pure ?_
    split
    · rename_i c _ _ _ _ _
      cases (c == Value.type "enumerate")
      · wp_walk using q1
        exact ⟨_, rfl, h⟩
      · wp_walk using q1
        exact ⟨_, rfl, h⟩
    · wp_walk using q1
      exact ⟨_, rfl, h⟩
theorem enum1_begins {prog : Program} {w : World} {A : Around} {E : Value → Shared → Prop} {s : Shared} {v : Value} {o : Obj} {P : Heap → Prop} {Q : Value → Shared → Prop} (B : Begins v o P) (h1 : P s.heap)
    (h : ∀ h', IsEnum h' (s.heap.objs.size + 1) s.heap.objs.size 0 .none → h'.get? s.heap.objs.size = some o → h'.objs.size = s.heap.objs.size + 2 →
      (∀ b o, s.heap.get? b = some o → h'.get? b = some o) → Q (.ref (s.heap.objs.size + 1)) { s with heap := h' }) :
    wpAny (model prog w) A (call (.type "enumerate") [v]) Q E s := by
  refine callType_new F.called_enumerate (by decide) (F.typeCall_enumerate_1 _) (F.newCall_enumerate_1 _) (fun obj => F.args_object_init_2 obj _) F.entry_enumerate_new (meets_enum1 B) ⟨h1, ?_⟩
  have hz : (s.heap.push o).objs.size = s.heap.objs.size + 1 := Heap.size_push ..
  show _ ∧ _
  rw [hz]
  have he : IsEnum ((s.heap.push o).push { cls := .type "enumerate", data := .fields #[.none, .bool false, .ref s.heap.objs.size, rawInt 0, .none, .none] }) (s.heap.objs.size + 1) s.heap.objs.size 0 .none := by
    have := Heap.get?_push_size (s.heap.push o) (o := { cls := .type "enumerate", data := .fields #[.none, .bool false, .ref s.heap.objs.size, rawInt 0, .none, .none] }) rfl
    rw [hz] at this
    exact this
  exact ⟨⟨_, he, rfl⟩, h _ he (Heap.get?_push_of_some _ (Heap.get?_push_size _ B.free)) (by rw [Heap.size_push, hz]) fun b o x => Heap.get?_push_of_some _ (Heap.get?_push_of_some _ x)⟩
def iEnB (K : PySem.W.Frag) (ta : TA) : TI := fun σ H R => ta σ H fun vs H1 => ∃ (b : Bool) (a : Addr) (xs : List V), vs = [.ref a] ∧ SqB b K H1 a xs ∧ R (JEn b K a) H1
theorem pi_enB {X : Cx} {e : Expr} {ta : TA} {p pos tpos : Pos} {elts : List Expr} {kk : Nat} (hg : Gl X "enumerate") (hm : X.mg "enumerate" = none) (ha : PA X [e] ta) (hs : starEach [e] X.env = [(false, eval e X.env)] := by rfl) :
    PI X (.Tuple elts kk tpos) (.Call (.Name "enumerate" p) [e] [] pos) (iEnB X.K ta) := by
  refine ⟨fun pins s σ H R I h => ?_⟩
  refine Call_ (ld_blt I hg hm boot_enumerate (PyProof.Rows.callWith_type1 (thn (ha.run pos pins s σ H _ I h) fun us s1 ⟨vs, H1, I1, r1, q1⟩ => ?_) hs rfl))
  obtain ⟨b, a, xs, rfl, hq, q⟩ := q1
  obtain ⟨u, rfl, ru⟩ := vals1 r1
  cases ru
  obtain ⟨its, rv, p⟩ := inv_seqB I1 hq
  have hlt := p.lt
  refine enum1_begins (beginsB b a its.toArray) p fun h' he hit hz hk => wpAny_pyIter_enum he ?_
  have I2 : Inv X pins σ H1 { s1 with heap := h' } := I1.kept (t' := s1.toks) hk
  refine ⟨s1.heap.objs.size + 1, [s1.heap.objs.size + 1, s1.heap.objs.size], _, _, H1, rfl, I2, turn_enB b a (s1.heap.objs.size + 1) s1.heap.objs.size, ⟨⟨.none, he⟩, .new hit, Nat.succ_ne_self _, nlt 1 hlt, nlt 0 hlt⟩, fun c hc => ?_, q⟩
  have hle : s1.heap.objs.size ≤ c := by
    rcases mem2 hc with z | z
    · exact lad 1 z
    · exact lad 0 z
  exact I1.fpOk hle (I1.hok.fresh hle)
def iZpB (K : PySem.W.Frag) (ta : TA) : TI := fun σ H R => ta σ H fun vs H1 => ∃ (b c : Bool) (a d : Addr) (xs ys : List V), vs = [.ref a, .ref d] ∧ SqB b K H1 a xs ∧ SqB c K H1 d ys ∧ R (JZp b c K a d) H1
theorem pi_zpB {X : Cx} {e e2 : Expr} {ta : TA} {p pos tpos : Pos} {elts : List Expr} {kk : Nat} (hg : Gl X "zip") (hm : X.mg "zip" = none) (ha : PA X [e, e2] ta)
    (hs : starEach [e, e2] X.env = (false, eval e X.env) :: starEach [e2] X.env := by rfl) (hpl : (backTo pos (starEach [e2] X.env)).any (·.1) = false := by rfl) :
    PI X (.Tuple elts kk tpos) (.Call (.Name "zip" p) [e, e2] [] pos) (iZpB X.K ta) := by
  refine ⟨fun pins s σ H R I h => ?_⟩
  refine Call_ (ld_blt I hg hm PyProof.Rows.boot_zip (PyProof.Rows.callWith_type1 (thn (ha.run pos pins s σ H _ I h) fun us s1 ⟨vs, H1, I1, r1, q1⟩ => ?_) hs hpl))
  obtain ⟨b, c, a, d, xs, ys, rfl, hq, hq2, q⟩ := q1
  obtain ⟨u, u2, rfl, ru, ru2⟩ := vals2 r1
  cases ru
  cases ru2
  obtain ⟨its, rv, p⟩ := inv_seqB I1 hq
  obtain ⟨its2, rv2, p2⟩ := inv_seqB I1 hq2
  have hlt := p.lt
  have hlt2 := p2.lt
  refine zip_begins2 (beginsB b a its.toArray) (beginsB c d its2.toArray) p p2 fun h' hz hTI hTO hi1 hi2 hsz hk => wpAny_pyIter_zip hz ?_
  have I2 : Inv X pins σ H1 { s1 with heap := h' } := I1.kept (t' := s1.toks) hk
  refine ⟨s1.heap.objs.size + 4, [s1.heap.objs.size + 4, s1.heap.objs.size + 2, s1.heap.objs.size + 3, s1.heap.objs.size, s1.heap.objs.size + 1], _, _, H1, rfl, I2, turn_zpB b c (a := a) (d := d) ⟨nad 2 4 (by decide), nad 3 4 (by decide), nad 2 3 (by decide), nad 2 0 (by decide), by simp, ?_, ?_, nad 2 1 (by decide), by simp, ?_, ?_, ?_, ?_⟩ (nlt 0 hlt) (nlt 1 hlt2), ⟨hz, hTI, ⟨_, _, hTO⟩, .new hi1, .new hi2⟩, fun q hq => ?_, q⟩
  all_goals try (intro z; rcases mem2 z with z | z)
  · exact nad 4 0 (by decide) z
  · exact nlt 4 hlt z.symm
  · exact nad 3 0 (by decide) z
  · exact nlt 3 hlt z.symm
  · exact nad 4 1 (by decide) z
  · exact nlt 4 hlt2 z.symm
  · exact nad 3 1 (by decide) z
  · exact nlt 3 hlt2 z.symm
  · exact nad 0 1 (by decide) z
  · exact nlt 0 hlt2 z.symm
  · exact nad 1 0 (by decide) z
  · exact nlt 1 hlt z.symm
  have hle : s1.heap.objs.size ≤ q := by
    simp only [List.mem_cons, List.not_mem_nil, or_false] at hq
    rcases hq with z | z | z | z | z
    · exact lad 4 z
    · exact lad 2 z
    · exact lad 3 z
    · exact lad 0 z
    · exact lad 1 z
  exact I1.fpOk hle (I1.hok.fresh hle)
end DL

namespace DL
open PySem PySem.Spec PyProof.Rows L2
variable [DLX]
/-! ### 24. Slots taken away, locked, put back -/
section
variable {K : PySem.W.Frag} {H0 H H' : Hp} {α0 α α' : List Addr} {σ σ' : Sg} {s s' : S}
/-- slots that are told less of -/
theorem Rel.less (r : Rel K H0 α0 H α σ s) {δ : List Slot} (hl : δ.length = s.δ.length) (h : ∀ (i : Nat) (sl : Slot), δ[i]? = some sl → sl = .no ∨ (s.δ[i]? = some sl ∧ σ'[i]? = σ[i]?)) (hs : σ'.length = σ.length) : Rel K H0 α0 H α σ' { s with δ := δ } := by
  refine ⟨r.cells, ⟨by rw [hs, r.slots.len, hl], fun i d e => ?_, fun i c e => ?_, fun i j c c' a e1 e2 e3 e4 => ?_⟩, r.ot, r.nw, r.st⟩
  · rcases h i _ e with z | ⟨z, w⟩
    · cases z
    · rw [w]; exact r.slots.val i d z
  · rcases h i _ e with z | ⟨z, w⟩
    · cases z
    · rw [w]; exact r.slots.own i c z
  · rcases h i _ e1 with z | ⟨z1, w1⟩
    · cases z
    · rcases h j _ e2 with z | ⟨z2, w2⟩
      · cases z
      · rw [w1] at e3
        rw [w2] at e4
        exact r.slots.inj i j c c' a z1 z2 e3 e4
theorem Rel.setNo (r : Rel K H0 α0 H α σ s) (i : Nat) : Rel K H0 α0 H α σ { s with δ := s.δ.set i .no } :=
  r.less (by simp) (fun j sl e => by
    rcases get_set e with ⟨_, e, _⟩ | ⟨_, e⟩
    · exact .inl e
    · exact .inr ⟨e, rfl⟩) rfl
/-- a fresh thing is locked -/
theorem Rel.frz {c : Cell} {a : Addr} (r : Rel K H0 α0 H α σ s) (h : RF K H0 H α σ s a c) (nd : ∀ h : c = .dead, False) (nt : ∀ n, c ≠ .tab n) :
    ∃ u, H a = some u ∧ Mut (some u) ∧ ∀ o, Rel K H0 α0 (upd H a (.frz o u)) α σ s ∧ Stay H α (upd H a (.frz o u)) α ∧ Rv K (upd H a (.frz o u)) α c.toD (.ref a) := by
  obtain ⟨hc, na, n0, no⟩ := h
  have stp : ∀ u o, H a = some u → ¬ Fixed u → Stay H α (upd H a (.frz o u)) α ∧ Rel K H0 α0 (upd H a (.frz o u)) α σ s := fun u o hu nf => by
    have t : Stay H α (upd H a (.frz o u)) α := ⟨fun b w hb fb => by
      by_cases e : b = a
      · subst e; rw [hu] at hb; cases hb; exact absurd fb nf
      · rw [upd_ne e]; exact hb, List.prefix_rfl, fun b hb => by
      by_cases e : b = a
      · subst e; rw [upd_same] at hb; cases hb
      · rw [upd_ne e] at hb; exact hb⟩
    refine ⟨t, r.step t (fun b w hb _ hw => ?_) (fun b w hb _ hb1 => ?_)⟩
    · have e : b ≠ a := fun z => by
        subst z
        rcases hw with z | ⟨i, c', z1, z2⟩
        · exact na z
        · exact no i c' z1 z2
      rw [upd_ne e]; exact hb
    · have e : b ≠ a := fun z => by subst z; rw [n0] at hb; cases hb
      rw [upd_ne e]; exact hb1
  cases c with
  | dead => exact (nd rfl).elim
  | tab n => exact absurd rfl (nt n)
  | lst xs =>
    obtain ⟨vs, hv, rr⟩ := hc
    refine ⟨.lst vs, hv, trivial, fun o => ?_⟩
    obtain ⟨t, rl⟩ := stp _ o hv (fun z => z)
    refine ⟨rl, t, ?_⟩
    simp only [Cell.toD, Rv]
    exact ⟨a, vs, rfl, .inl ⟨o, upd_same⟩, Rvs.stay t _ _ rr⟩
  | dct kvs =>
    rcases hc with ⟨kv, hv, rr⟩ | ⟨kv, nn, hv, rr⟩
    · refine ⟨.dK kv, hv, trivial, fun o => ?_⟩
      obtain ⟨t, rl⟩ := stp _ o hv (fun z => z)
      refine ⟨rl, t, ?_⟩
      simp only [Cell.toD, Rv]
      exact ⟨a, o, rfl, .inl ⟨kv, upd_same, Rkv.stay t _ _ rr⟩⟩
    · refine ⟨.dT kv, hv, trivial, fun o => ?_⟩
      obtain ⟨t, rl⟩ := stp _ o hv (fun z => z)
      refine ⟨rl, t, ?_⟩
      simp only [Cell.toD, Rv]
      exact ⟨a, o, rfl, .inr ⟨kv, nn, upd_same, RkT.stay t _ _ rr⟩⟩
  | ins C fs =>
    obtain ⟨dx, vs, hv, rr⟩ := hc
    refine ⟨.ins C dx vs, hv, trivial, fun o => ?_⟩
    obtain ⟨t, rl⟩ := stp _ o hv (fun z => z)
    refine ⟨rl, t, ?_⟩
    simp only [Cell.toD, Rv]
    exact ⟨a, o, dx, vs, rfl, upd_same, Rfs.stay t _ _ rr⟩
/-- the thing of a slot, given up by it -/
theorem Rel.giveUp {i : Nat} {c : Cell} (r : Rel K H0 α0 H α σ s) (e : s.δ[i]? = some (.own c)) : ∃ a, σ[i]? = some (some (.ref a)) ∧ Rel K H0 α0 H α σ { s with δ := s.δ.set i .no } ∧ RF K H0 H α σ { s with δ := s.δ.set i .no } a c := by
  obtain ⟨a, h1, h2, h3, h4⟩ := r.slots.own i c e
  refine ⟨a, h1, r.setNo i, h4, h2, h3, fun j c' e2 e3 => ?_⟩
  rcases get_set e2 with ⟨_, z, _⟩ | ⟨ne, z⟩
  · cases z
  · exact ne (r.slots.inj i j c c' a e z h1 e3)
end
/-- slot i's thing is locked for good -/
def frzAt (i : Nat) (s : S) : Option S := match s.δ[i]? with
  | some (.own .dead) => none
  | some (.own (.tab _)) => none
  | some (.own c) => some { s with δ := s.δ.set i (.val c.toD) }
  | _ => some s
def dFrzS (i : Nat) (f : FS) : FS := fun s => match f s with
  | .nx s' => (match frzAt i s' with | some s2 => .nx s2 | none => .bad)
  | r => r
theorem psGh {X : Cx} {st : Stmt} {t : TS} (h : PS X st t) : PS X st (fun D σ H => t { D with nx := fun σ' H' => Gh H' (D.nx σ') } σ H) :=
  ⟨fun pins s σ H D I q => thn (h.run pins s σ H _ I q) fun fl s1 z => by
    cases fl with
    | next =>
      obtain ⟨σ', H', I', g⟩ := z
      obtain ⟨H2, J, q⟩ := DL.Inv.gh I' g
      exact ⟨σ', H2, J, q⟩
    | ret u => exact z
    | brk => exact z
    | cont => exact z⟩
section
variable {X : Cx}
theorem frzAt_ok {K : PySem.W.Frag} {H0 H : Hp} {α0 α : List Addr} {σ : Sg} {s s2 : S} {i : Nat} {Q : Sg → Hp → Prop} (r : Rel K H0 α0 H α σ s) (e : frzAt i s = some s2) (q : ∀ H', Rel K H0 α0 H' α σ s2 → Stay H α H' α → Q σ H') : Gh H (Q σ) := by
  unfold frzAt at e
  split at e
  · cases e
  · cases e
  · rename_i c nd nt hc
    cases e
    obtain ⟨a, h1, h2, h3⟩ := r.giveUp hc
    obtain ⟨u, hu, mu, k⟩ := h2.frz h3 nd nt
    refine .inr ⟨a, u, hu, mu, fun o => ?_⟩
    obtain ⟨r2, t, rv⟩ := k o
    have r3 := r2.setV (i := i) rv
    have es : σ.set i (some (.ref a)) = σ := by
      apply List.ext_getElem?
      intro j
      by_cases hj : i = j
      · subst hj
        rw [h1, List.getElem?_set_self (List.getElem?_eq_some_iff.mp h1).1]
      · rw [List.getElem?_set_ne hj]
    rw [es] at r3
    simp only [List.set_set] at r3
    exact q _ r3 t
  · cases e
    exact .inl (q H r (Stay.refl _ _))
theorem sd_frz (i : Nat) {st : Stmt} {f : FS} (h : PSD X st f) : PSD X st (dFrzS i f) := by
  refine ⟨fun W tk => ?_⟩
  obtain ⟨t, p, q⟩ := h.run W tk
  refine ⟨_, psGh p, fun H0 α0 σ H α s D r k => q H0 α0 σ H α s _ r ?_⟩
  unfold dFrzS at k
  cases ef : f s <;> rw [ef] at k
  case nx s' =>
    simp only at k
    intro σ' H' α' r' t'
    cases e : frzAt i s' with
    | none => rw [e] at k; exact k.elim
    | some s2 =>
      rw [e] at k
      exact frzAt_ok r' e fun H2 r2 t2 => k σ' H2 α' r2 (t'.trans t2)
  all_goals exact k
/-! what is never reached -/
theorem sd_bad {st : Stmt} : PSD X st (fun _ => .bad) := ⟨fun W _ => ⟨fun _ _ _ => False, ⟨fun _ _ _ _ _ _ h => h.elim⟩, fun _ _ _ _ _ _ _ _ q => q.elim⟩⟩
theorem pd_bad {e : Expr} : PED X e (fun _ => .bad) := ⟨fun W _ => ⟨fun _ _ _ => False, ⟨fun _ _ _ _ _ _ h => h.elim⟩, fun _ _ _ _ _ _ _ _ q => q.elim⟩⟩
end
/-! ### 25. Walks over enumerate, zip -/
def enD : Nat → List D → List D
  | _, [] => []
  | k, d :: ds => .tup [.int k, d] :: enD (k + 1) ds
def zpD : List D → List D → List D
  | a :: as, b :: bs => .tup [a, b] :: zpD as bs
  | _, _ => []
theorem enD_at : ∀ (ds : List D) (k i : Nat), (enD k ds)[i]? = ds[i]?.map fun d => .tup [.int ((k + i : Nat) : Int), d]
  | [], k, i => by simp [enD]
  | d :: ds, k, 0 => by simp [enD]
  | d :: ds, k, i + 1 => by
    simp only [enD, List.getElem?_cons_succ]
    rw [enD_at ds (k + 1) i, show k + 1 + i = k + (i + 1) from by omega]
theorem enD_len : ∀ (ds : List D) (k : Nat), (enD k ds).length = ds.length
  | [], k => rfl
  | d :: ds, k => by simp [enD, enD_len ds (k + 1)]
theorem zpD_at : ∀ (as bs : List D) (i : Nat) (d : D), (zpD as bs)[i]? = some d → ∃ a b, as[i]? = some a ∧ bs[i]? = some b ∧ d = .tup [a, b]
  | [], _, i, d, h => by simp [zpD] at h
  | _ :: _, [], i, d, h => by simp [zpD] at h
  | a :: as, b :: bs, 0, d, h => by simp [zpD] at h; exact ⟨a, b, rfl, rfl, h.symm⟩
  | a :: as, b :: bs, i + 1, d, h => by
    simp only [zpD, List.getElem?_cons_succ] at h
    simpa using zpD_at as bs i d h
theorem zpD_len : ∀ (as bs : List D), (zpD as bs).length = min as.length bs.length
  | [], bs => by simp [zpD]
  | _ :: _, [] => by simp [zpD]
  | a :: as, b :: bs => by
    simp only [zpD, List.length_cons, zpD_len as bs]
    omega
section
variable {K : PySem.W.Frag} {H H' : Hp} {α α' : List Addr} {σ : Sg}
theorem SqB.stay {b : Bool} {a : Addr} {vs : List V} (t : Stay H α H' α') (h : match b with | true => SqF K H a vs | false => SqT K H a vs) : SqB b K H' a vs := by
  cases b
  · exact t.sqT h
  · exact (t.sqF h).sq
theorem fixSeq_ok {d : D} {v : V} {xs : List D} (h : Rx K H α σ d v) (e : fixSeq d = some xs) : ∃ (b : Bool) (a : Addr) (vs : List V), v = .ref a ∧ (match b with | true => SqF K H a vs | false => SqT K H a vs) ∧ Rvs K H α xs vs := by
  cases d <;> simp only [fixSeq, Option.some.injEq, reduceCtorEq] at e
  case tup ys =>
    subst e
    obtain ⟨a, vs, h1, h2, h3⟩ := asT_ok h
    exact ⟨false, a, vs, h1, h2, h3⟩
  case lst ys =>
    subst e
    have h' : Rv K H α (.lst ys) v := h
    simp only [Rv] at h'
    obtain ⟨a, vs, h1, h2, h3⟩ := h'
    exact ⟨true, a, vs, h1, h2, h3⟩
theorem walk_en {b : Bool} {a : Addr} {vs : List V} {xs : List D} (h : match b with | true => SqF K H a vs | false => SqT K H a vs) (rr : Rvs K H α xs vs) : WalkD K (JEn b K a) (enD 0 xs) H α := by
  refine ⟨fun H' α' t => ⟨vs, SqB.stay t h, by rw [enD_len, rr.length]⟩, fun H' α' i d t e => ?_, fun H0 α0 H' α' σ s i d x H2 t r e y => ?_⟩
  · rw [enD_at] at e
    simp only [Option.map_eq_some_iff] at e
    obtain ⟨d', e, rfl⟩ := e
    obtain ⟨v, ev, _⟩ := rr.at_ e
    exact ⟨vs, v, SqB.stay t h, ev⟩
  · rw [enD_at] at e
    simp only [Option.map_eq_some_iff] at e
    obtain ⟨d', e, rfl⟩ := e
    obtain ⟨T, w, rfl, hT, rfl, y⟩ := y
    obtain ⟨v, ev, rv⟩ := rr.at_ e
    have := y vs (SqB.stay t h)
    rw [ev] at this
    cases this
    have t2 : Stay H' α' (upd H' T (.tup [.int (i : Nat), w])) α' := Stay.upd_new hT
    refine ⟨r.new hT, t2, ?_⟩
    simp only [Rv]
    refine ⟨T, _, rfl, .inl (.inl upd_same), .cons ?_ (.single (Rv.stay (t.trans t2) _ _ rv))⟩
    simp only [Rv, Nat.zero_add]
theorem walk_zp {b c : Bool} {a d : Addr} {vs ws : List V} {xs ys : List D} (h : match b with | true => SqF K H a vs | false => SqT K H a vs) (rr : Rvs K H α xs vs) (h' : match c with | true => SqF K H d ws | false => SqT K H d ws) (rr' : Rvs K H α ys ws) : WalkD K (JZp b c K a d) (zpD xs ys) H α := by
  refine ⟨fun H' α' t => ⟨vs, ws, SqB.stay t h, SqB.stay t h', by rw [zpD_len, rr.length, rr'.length]⟩, fun H' α' i e t q => ?_, fun H0 α0 H' α' σ s i e x H2 t r q y => ?_⟩
  · obtain ⟨d1, d2, q1, q2, rfl⟩ := zpD_at _ _ _ _ q
    obtain ⟨v, ev, _⟩ := rr.at_ q1
    obtain ⟨w, ew, _⟩ := rr'.at_ q2
    exact ⟨vs, ws, v, w, SqB.stay t h, SqB.stay t h', ev, ew⟩
  · obtain ⟨d1, d2, q1, q2, rfl⟩ := zpD_at _ _ _ _ q
    obtain ⟨T, w1, w2, rfl, hT, rfl, y1, y2⟩ := y
    obtain ⟨v, ev, rv⟩ := rr.at_ q1
    obtain ⟨w, ew, rw⟩ := rr'.at_ q2
    have z1 := y1 vs (SqB.stay t h)
    have z2 := y2 ws (SqB.stay t h')
    rw [ev] at z1
    rw [ew] at z2
    cases z1
    cases z2
    have t2 : Stay H' α' (upd H' T (.tup [w1, w2])) α' := Stay.upd_new hT
    refine ⟨r.new hT, t2, ?_⟩
    simp only [Rv]
    exact ⟨T, _, rfl, .inl (.inl upd_same), .cons (Rv.stay (t.trans t2) _ _ rv) (.single (Rv.stay (t.trans t2) _ _ rw))⟩
end
def dIterEn (fa : FA) : FA := fun s => (fa s).bind fun ds s1 => match ds with | [d] => (match fixSeq d with | some xs => .ok (enD 0 xs) s1 | none => .bad) | _ => .bad
def dIterZp (fa : FA) : FA := fun s => (fa s).bind fun ds s1 => match ds with | [d, e] => (match fixSeq d, fixSeq e with | some xs, some ys => .ok (zpD xs ys) s1 | _, _ => .bad) | _ => .bad
section
variable {X : Cx}
theorem id_en {e : Expr} {fa : FA} {p pos tpos : Pos} {elts : List Expr} {kk : Nat} (ha : PAD X [e] fa) (hg : Gl X "enumerate") (hm : X.mg "enumerate" = none) (hs : starEach [e] X.env = [(false, eval e X.env)] := by rfl) : PID X (.Tuple elts kk tpos) (.Call (.Name "enumerate" p) [e] [] pos) (dIterEn fa) := by
  refine ⟨fun W tk => ?_⟩
  obtain ⟨t, pa, qa⟩ := ha.run W tk
  refine ⟨_, pi_enB hg hm pa hs, fun H0 α0 σ H α s R r q => qa H0 α0 σ H α s _ r ?_⟩
  unfold dIterEn at q
  cases ea : fa s with
  | bad => rw [ea] at q; exact q.elim
  | exc e s1 => rw [ea] at q; exact q
  | ok ds s1 =>
    rw [ea] at q
    intro vs H1 α1 r1 t1 rv
    simp only [Res.bind] at q
    split at q
    · rename_i d
      obtain ⟨v, rfl, rx⟩ := rv.one
      cases ef : fixSeq d with
      | none => rw [ef] at q; exact q.elim
      | some xs =>
        rw [ef] at q
        obtain ⟨b, a, vs, rfl, h1, rr⟩ := fixSeq_ok rx ef
        exact ⟨b, a, vs, rfl, SqB.stay (Stay.refl H1 α1) h1, q _ H1 α1 r1 t1 (walk_en h1 rr)⟩
    · exact q.elim
theorem id_zp {e e2 : Expr} {fa : FA} {p pos tpos : Pos} {elts : List Expr} {kk : Nat} (ha : PAD X [e, e2] fa) (hg : Gl X "zip") (hm : X.mg "zip" = none) (hs : starEach [e, e2] X.env = (false, eval e X.env) :: starEach [e2] X.env := by rfl) (hpl : (backTo pos (starEach [e2] X.env)).any (·.1) = false := by rfl) :
    PID X (.Tuple elts kk tpos) (.Call (.Name "zip" p) [e, e2] [] pos) (dIterZp fa) := by
  refine ⟨fun W tk => ?_⟩
  obtain ⟨t, pa, qa⟩ := ha.run W tk
  refine ⟨_, pi_zpB hg hm pa hs hpl, fun H0 α0 σ H α s R r q => qa H0 α0 σ H α s _ r ?_⟩
  unfold dIterZp at q
  cases ea : fa s with
  | bad => rw [ea] at q; exact q.elim
  | exc e s1 => rw [ea] at q; exact q
  | ok ds s1 =>
    rw [ea] at q
    intro vs H1 α1 r1 t1 rv
    simp only [Res.bind] at q
    split at q
    · rename_i d e
      obtain ⟨v, w, rfl, rx, ry⟩ := rv.two
      cases ef : fixSeq d with
      | none => rw [ef] at q; exact q.elim
      | some xs =>
        cases eg : fixSeq e with
        | none => rw [ef, eg] at q; exact q.elim
        | some ys =>
          rw [ef, eg] at q
          obtain ⟨b, a, vs, rfl, h1, rr⟩ := fixSeq_ok rx ef
          obtain ⟨c, a2, ws, rfl, h2, rr2⟩ := fixSeq_ok ry eg
          exact ⟨b, c, a, a2, vs, ws, rfl, SqB.stay (Stay.refl H1 α1) h1, SqB.stay (Stay.refl H1 α1) h2, q _ H1 α1 r1 t1 (walk_zp h1 rr h2 rr2)⟩
    · exact q.elim
end
end DL

namespace DL
open PySem PySem.Spec PyProof.Rows L2
variable [DLX]
/-! ### 26. List comprehensions -/
def wipeD (δ : List Slot) : List Nat → List Slot
  | [] => δ
  | v :: vs => (wipeD δ vs).set v .no
def backD (δ0 δ : List Slot) : List Nat → List Slot
  | [] => δ
  | v :: vs => (backD δ0 δ vs).set v (match δ0[v]? with | some sl => sl | none => .no)
def isOwn (δ : List Slot) (v : Nat) : Bool := match δ[v]? with | some (.own _) => true | _ => false
def dLcGo (vs : List Nat) (g : FG) (ft : FT) (fe : FE) : List D → S → Res (List D)
  | [], s => .ok [] s
  | d :: ds, s => match g d { s with δ := wipeD s.δ vs } with
    | none => .bad
    | some s1 => match ft s1 with
      | .ok true s2 => (match fe s2 with
        | .ok y s3 => if noOwn y then (dLcGo vs g ft fe ds { δ := backD s.δ s3.δ vs, μ := s3.μ }).bind fun ys s4 => .ok (y :: ys) s4 else .bad
        | _ => .bad)
      | .ok false s2 => dLcGo vs g ft fe ds { δ := backD s.δ s2.δ vs, μ := s2.μ }
      | _ => .bad
def dLc (vs : List Nat) (fi : FA) (g : FG) (ft : FT) (fe : FE) : FC := fun s => (fi s).bind fun ds s1 => if ds.length ≤ 16777216 && vs.all (fun v => !isOwn s1.δ v) then (match dLcGo vs g ft fe ds s1 with | .ok ys s2 => .ok (.lst ys) s2 | _ => .bad) else .bad
theorem wipeD_len (δ : List Slot) : ∀ vs : List Nat, (wipeD δ vs).length = δ.length
  | [] => rfl
  | v :: vs => by simp [wipeD, wipeD_len δ vs]
theorem wipeD_at {δ : List Slot} {i : Nat} {sl : Slot} : ∀ {vs : List Nat}, (wipeD δ vs)[i]? = some sl → (i ∈ vs ∧ sl = .no) ∨ (i ∉ vs ∧ δ[i]? = some sl)
  | [], h => .inr ⟨by simp, h⟩
  | v :: vs, h => by
    rcases get_set h with ⟨rfl, e, _⟩ | ⟨ne, e⟩
    · exact .inl ⟨by simp, e⟩
    · rcases wipeD_at e with ⟨a, b⟩ | ⟨a, b⟩
      · exact .inl ⟨by simp [a], b⟩
      · exact .inr ⟨by simp [a]; exact fun z => ne z.symm, b⟩
theorem backD_len (δ0 δ : List Slot) : ∀ vs : List Nat, (backD δ0 δ vs).length = δ.length
  | [] => rfl
  | v :: vs => by simp [backD, backD_len δ0 δ vs]
theorem backD_at {δ0 δ : List Slot} {i : Nat} {sl : Slot} : ∀ {vs : List Nat}, (backD δ0 δ vs)[i]? = some sl → (i ∈ vs ∧ (δ0[i]? = some sl ∨ sl = .no)) ∨ (i ∉ vs ∧ δ[i]? = some sl)
  | [], h => .inr ⟨by simp, h⟩
  | v :: vs, h => by
    rcases get_set h with ⟨rfl, e, _⟩ | ⟨ne, e⟩
    · refine .inl ⟨by simp, ?_⟩
      cases hd : δ0[v]? with
      | none => rw [hd] at e; exact .inr e
      | some s0 => rw [hd] at e; exact .inl (by rw [e])
    · rcases backD_at e with ⟨a, b⟩ | ⟨a, b⟩
      · exact .inl ⟨by simp [a], b⟩
      · exact .inr ⟨by simp [a]; exact fun z => ne z.symm, b⟩
theorem isOwn_no {δ : List Slot} {v : Nat} (h : isOwn δ v = false) {c : Cell} : δ[v]? ≠ some (.own c) := fun z => by
  unfold isOwn at h
  rw [z] at h
  cases h
section
variable {K : PySem.W.Frag} {H0 H H' : Hp} {α0 α α' : List Addr} {σ σ' : Sg} {s s' : S}
theorem wipe_at {σ : Sg} {i : Nat} : ∀ {vs : List Nat}, i ∉ vs → (wipe σ vs)[i]? = σ[i]?
  | [], _ => rfl
  | v :: vs, h => by
    simp only [List.mem_cons, not_or] at h
    unfold wipe
    rw [List.getElem?_set_ne (fun z => h.1 z.symm)]
    exact wipe_at h.2
theorem wipe_len (σ : Sg) : ∀ vs : List Nat, (wipe σ vs).length = σ.length
  | [] => rfl
  | v :: vs => by unfold wipe; rw [List.length_set, wipe_len σ vs]
theorem wipe_but {vs ws : List Nat} (b : But ws σ σ') (h : ∀ i ∈ ws, i ∈ vs) : wipe σ' vs = wipe σ vs := by
  apply List.ext_getElem?
  intro i
  by_cases hi : i ∈ vs
  · have key : ∀ (τ : Sg) (us : List Nat), i ∈ us → i < τ.length → (wipe τ us)[i]? = some none := by
      intro τ us
      induction us with
      | nil => intro h; simp at h
      | cons u us ih =>
        intro h hl
        unfold wipe
        by_cases e : u = i
        · subst e
          rw [List.getElem?_set_self (by rw [wipe_len]; exact hl)]
        · rw [List.getElem?_set_ne e]
          exact ih ((List.mem_cons.mp h).resolve_left fun z => e z.symm) hl
    by_cases hl : i < σ.length
    · rw [key σ' vs hi (by rw [b.len]; exact hl), key σ vs hi hl]
    · rw [List.getElem?_eq_none (by rw [wipe_len, b.len]; omega), List.getElem?_eq_none (by rw [wipe_len]; omega)]
  · rw [wipe_at hi, wipe_at hi]
    exact b.at_ i fun z => hi (h i z)
theorem wipe_wipe (σ : Sg) (vs : List Nat) : L2.wipe (L2.wipe σ vs) vs = L2.wipe σ vs := wipe_but (ws := vs) ⟨wipe_len _ _, fun j h => wipe_at h⟩ fun _ h => h
theorem Rel.wipe (r : Rel K H0 α0 H α σ s) (vs : List Nat) : Rel K H0 α0 H α (L2.wipe σ vs) { s with δ := wipeD s.δ vs } :=
  r.less (wipeD_len _ _) (fun i sl e => by
    rcases wipeD_at e with ⟨_, z⟩ | ⟨n, z⟩
    · exact .inl z
    · exact .inr ⟨z, wipe_at n⟩) (wipe_len _ _)
/-- the block's names given back -/
theorem Rel.back {vs ws : List Nat} (r : Rel K H0 α0 H α σ s) (no : ∀ v ∈ vs, isOwn s.δ v = false) (t : Stay H α H' α') (r' : Rel K H0 α0 H' α' σ' s') (b : But ws (L2.wipe σ vs) σ') (h : ∀ i ∈ ws, i ∈ vs) :
    Rel K H0 α0 H' α' σ { δ := backD s.δ s'.δ vs, μ := s'.μ } := by
  have hs : ∀ i, i ∉ vs → σ'[i]? = σ[i]? := fun i hi => by rw [b.at_ i (fun z => hi (h i z)), wipe_at hi]
  refine ⟨r'.cells, ⟨by rw [backD_len, ← r'.slots.len, b.len, wipe_len], fun i d e => ?_, fun i c e => ?_, fun i j c c' a e1 e2 e3 e4 => ?_⟩, r'.ot, r'.nw, r'.st⟩
  · rcases backD_at e with ⟨hi, z | z⟩ | ⟨hi, z⟩
    · obtain ⟨v, e1, e2⟩ := r.slots.val i d z
      exact ⟨v, e1, Rv.stay t _ _ e2⟩
    · cases z
    · rw [← hs i hi]
      exact r'.slots.val i d z
  · rcases backD_at e with ⟨hi, z | z⟩ | ⟨hi, z⟩
    · exact (isOwn_no (no i hi) z).elim
    · cases z
    · rw [← hs i hi]
      exact r'.slots.own i c z
  · rcases backD_at e1 with ⟨hi, z | z⟩ | ⟨hi, z1⟩
    · exact (isOwn_no (no i hi) z).elim
    · cases z
    · rcases backD_at e2 with ⟨hj, z | z⟩ | ⟨hj, z2⟩
      · exact (isOwn_no (no j hj) z).elim
      · cases z
      · rw [← hs i hi] at e3
        rw [← hs j hj] at e4
        exact r'.slots.inj i j c c' a z1 z2 e3 e4
theorem back_no {δ0 δ : List Slot} {vs : List Nat} (no : ∀ v ∈ vs, isOwn δ0 v = false) : ∀ v ∈ vs, isOwn (backD δ0 δ vs) v = false := fun v hv => by
  cases e : (backD δ0 δ vs)[v]? with
  | none => unfold isOwn; rw [e]
  | some sl =>
    unfold isOwn
    rw [e]
    rcases backD_at e with ⟨_, z | z⟩ | ⟨n, _⟩
    · have := no v hv
      unfold isOwn at this
      rw [z] at this
      exact this
    · rw [z]
    · exact (n hv).elim
/-- a new thing at p that the run leaves alone: it stands in the def's entry heap -/
theorem Rel.pin {p : Addr} {o : HO} (r : Rel K H0 α0 H α σ s) (h : H p = none) (nf : ¬ Fixed o) : Rel K (upd H0 p o) α0 (upd H p o) α σ s := by
  have h0 := r.free0 h
  have r1 := r.new (o := o) h
  refine ⟨r1.cells, ⟨r1.slots.len, r1.slots.val, fun i c e => ?_, r1.slots.inj⟩, fun a u e n => ?_, fun a ha => ?_, ⟨fun a u e f => ?_, r1.st.pre, fun a e => ?_⟩⟩
  · obtain ⟨a, e1, e2, e3, e4⟩ := r1.slots.own i c e
    obtain ⟨a', e1', _, _, e4'⟩ := r.slots.own i c e
    rw [e1] at e1'
    cases e1'
    obtain ⟨o', ho⟩ := e4'.some
    exact ⟨a, e1, e2, by rw [upd_ne (fun z => by subst z; rw [h] at ho; cases ho)]; exact e3, e4⟩
  · by_cases z : a = p
    · subst z
      rw [upd_same] at e ⊢
      exact e
    · rw [upd_ne z] at e ⊢
      exact r.ot a u e n
  · rcases r.nw a ha with z | z
    · exact .inl z
    · refine .inr ?_
      rw [upd_ne]
      · exact z
      · rintro rfl
        exact r.nota h ha
  · by_cases z : a = p
    · subst z
      rw [upd_same] at e
      cases e
      exact (nf f).elim
    · rw [upd_ne z] at e ⊢
      exact r.st.im a u e f
  · by_cases z : a = p
    · subst z
      rw [upd_same] at e
      cases e
    · rw [upd_ne z] at e ⊢
      exact r.st.dom a e
theorem Rel.pinned {p : Addr} {o : HO} (r : Rel K (upd H0 p o) α0 H α σ s) (n : p ∉ α0) : H p = some o := r.ot p o upd_same n
/-- the pinned thing changes -/
theorem Rel.repin {p : Addr} {o o' : HO} (r : Rel K (upd H0 p o) α0 H α σ s) (n : p ∉ α0) (nf : ¬ Fixed o) (nf' : ¬ Fixed o') : Rel K (upd H0 p o') α0 (upd H p o') α σ s ∧ Stay H α (upd H p o') α := by
  have hp := r.pinned n
  have na : p ∉ α := fun z => by
    rcases r.nw p z with w | w
    · exact n w
    · rw [upd_same] at w; cases w
  have t : Stay H α (upd H p o') α := ⟨fun a u e f => by
    by_cases z : a = p
    · subst z
      rw [hp] at e
      cases e
      exact (nf f).elim
    · rw [upd_ne z]; exact e, List.prefix_rfl, fun a e => by
    by_cases z : a = p
    · subst z
      rw [upd_same] at e
      cases e
    · rw [upd_ne z] at e; exact e⟩
  refine ⟨⟨⟨r.cells.len, r.cells.nd, fun m a c e1 e2 => ?_⟩, ⟨r.slots.len, fun i d e => ?_, fun i c e => ?_, r.slots.inj⟩, fun a u e m => ?_, fun a ha => ?_, ⟨fun a u e f => ?_, r.st.pre, fun a e => ?_⟩⟩, t⟩
  · refine (r.cells.at_ m a c e1 e2).stay t fun u hu _ => ?_
    rw [upd_ne]
    · exact hu
    · rintro rfl
      exact na (List.mem_of_getElem? e1)
  · obtain ⟨v, e1, e2⟩ := r.slots.val i d e
    exact ⟨v, e1, Rv.stay t _ _ e2⟩
  · obtain ⟨a, e1, e2, e3, e4⟩ := r.slots.own i c e
    have ne : a ≠ p := by
      rintro rfl
      rw [upd_same] at e3
      cases e3
    rw [upd_ne ne] at e3
    refine ⟨a, e1, e2, by rw [upd_ne ne]; exact e3, e4.stay t fun u hu _ => ?_⟩
    rw [upd_ne ne]
    exact hu
  · by_cases z : a = p
    · subst z
      rw [upd_same] at e ⊢
      exact e
    · rw [upd_ne z] at e ⊢
      exact r.ot a u (by rw [upd_ne z]; exact e) m
  · rcases r.nw a ha with z | z
    · exact .inl z
    · refine .inr ?_
      have ne : a ≠ p := by
        rintro rfl
        exact na ha
      rw [upd_ne ne] at z ⊢
      exact z
  · by_cases z : a = p
    · subst z
      rw [upd_same] at e
      cases e
      exact (nf' f).elim
    · rw [upd_ne z] at e ⊢
      exact r.st.im a u (by rw [upd_ne z]; exact e) f
  · by_cases z : a = p
    · subst z
      rw [upd_same] at e
      cases e
    · rw [upd_ne z] at e ⊢
      have := r.st.dom a e
      rw [upd_ne z] at this
      exact this
theorem Rel.unpin {p : Addr} {o : HO} (r : Rel K (upd H0 p o) α0 H α σ s) (h0 : H0 p = none) : Rel K H0 α0 H α σ s := by
  refine ⟨r.cells, ⟨r.slots.len, r.slots.val, fun i c e => ?_, r.slots.inj⟩, fun a u e m => ?_, fun a ha => ?_, ⟨fun a u e f => ?_, r.st.pre, fun a e => ?_⟩⟩
  · obtain ⟨a, e1, e2, e3, e4⟩ := r.slots.own i c e
    refine ⟨a, e1, e2, ?_, e4⟩
    by_cases z : a = p
    · subst z; exact h0
    · rw [upd_ne z] at e3; exact e3
  · have z : a ≠ p := by rintro rfl; rw [h0] at e; cases e
    exact r.ot a u (by rw [upd_ne z]; exact e) m
  · rcases r.nw a ha with w | w
    · exact .inl w
    · by_cases z : a = p
      · subst z; exact .inr h0
      · rw [upd_ne z] at w; exact .inr w
  · have z : a ≠ p := by rintro rfl; rw [h0] at e; cases e
    exact r.st.im a u (by rw [upd_ne z]; exact e) f
  · have w := r.st.dom a e
    by_cases z : a = p
    · subst z; exact h0
    · rw [upd_ne z] at w; exact w
theorem Rel.pinRF {p : Addr} {o : HO} {c : Cell} (r : Rel K (upd H0 p o) α0 H α σ s) (h0 : H0 p = none) (n : p ∉ α0) (hc : CellOk K H α p c) : RF K H0 H α σ s p c := by
  refine ⟨hc, fun z => ?_, h0, fun i c' e1 e2 => ?_⟩
  · rcases r.nw p z with w | w
    · exact n w
    · rw [upd_same] at w; cases w
  · obtain ⟨a, e3, e4, e5, e6⟩ := r.slots.own i c' e1
    rw [e2] at e3
    cases e3
    rw [upd_same] at e5
    cases e5
end
/-! tests of a clause -/
structure PTsD (X : Cx) (ifs : List Expr) (f : FT) : Prop where
  run : ∀ W, Takes X W → ∃ t, PTs X ifs t ∧ ∀ H0 α0 σ H α s Q, Rel X.K H0 α0 H α σ s → PostT X.K H0 α0 σ W H α Q (f s) → t σ H Q
def dYes : FT := fun s => .ok true s
theorem td_nil {X : Cx} : PTsD X [] dYes := ⟨fun W _ => ⟨_, pts_nil, fun H0 α0 σ H α s Q r q => q H α r (Stay.refl _ _)⟩⟩
theorem td_one {X : Cx} {c : Expr} {f : FT} (h : PTD X c f) : PTsD X [c] f := ⟨fun W tk => let ⟨t, p, q⟩ := h.run W tk; ⟨t, pts_one p, q⟩⟩
structure Blk where
  s : Shared
  H : Hp
  C : Addr
  cl : List (Str × Addr)
  fp : List Addr
abbrev CxB (X : Cx) (scope : Scope) (b : Blk) : Cx := X.blk b.s b.H scope (compEnvC scope b.cl b.C X.env) b.fp
section
variable {X : Cx} {elt tg iter : Expr} {ifs : List Expr} {scope : Scope} {own : List (Str × Nat)} {pos : Pos} {fi : FA} {g : FG} {ft : FT} {fe : FE} {ws : List Nat}
theorem lc_ex (hi : PID X tg iter fi) (hw : ws.all (fun i => (own.map (·.2)).contains i) = true) (hg : ∀ b, PGD (CxB X scope b) tg ws g) (ht : ∀ b, PTsD (CxB X scope b) ifs ft) (he : ∀ b, PED (CxB X scope b) elt fe) (W : WX) (tk : Takes X W) :
    ∃ wi tg' tt te, PI X tg iter wi ∧ (∀ b, PG (CxB X scope b) tg tg') ∧ (∀ b, PTs (CxB X scope b) ifs tt) ∧ (∀ b, PE (CxB X scope b) elt te) ∧ ∀ H0 α0 σ H α s Q, Rel X.K H0 α0 H α σ s → PostF X.K H0 α0 σ W H α Q (dLc (own.map (·.2)) fi g ft fe s) → tLc wi tg' tt te (own.map (·.2)) σ H Q := by
  obtain ⟨wi, pi, qi⟩ := hi.run W tk
  have hg' := fun b => (hg b).ex
  have ht' := fun b => (ht b).run _ Takes.none
  have he' := fun b => (he b).run _ Takes.none
  obtain ⟨tg1, hg2⟩ := Classical.axiomOfChoice hg'
  obtain ⟨tt1, ht2⟩ := Classical.axiomOfChoice ht'
  obtain ⟨te1, he2⟩ := Classical.axiomOfChoice he'
  have pg := fun b => (hg2 b).1
  have qg := fun b => (hg2 b).2
  have pt := fun b => (ht2 b).1
  have qt := fun b => (ht2 b).2
  have pe := fun b => (he2 b).1
  have qe := fun b => (he2 b).2
  refine ⟨wi, fun v σ H Q => ∀ b, tg1 b v σ H Q, fun σ H Q => ∀ b, tt1 b σ H Q, fun σ H Q => ∀ b, te1 b σ H Q, pi, fun b => ⟨fun pins s v u σ H Q I r h => (pg b).run pins s v u σ H Q I r (h b)⟩, fun b => ⟨fun pins s σ H Q I h => (pt b).run pins s σ H Q I (h b)⟩, fun b => ⟨fun pins s σ H Q I h => (pe b).run pins s σ H Q I (h b)⟩, fun H0 α0 σ H α s Q r q => qi H0 α0 σ H α s _ r ?_⟩
  unfold dLc at q
  cases ei : fi s with
  | bad => rw [ei] at q; exact q.elim
  | exc e s1 => rw [ei] at q; exact q
  | ok ds s1 =>
    rw [ei] at q
    intro J H1 α1 r1 t1 w
    simp only [Res.bind] at q
    split at q
    · rename_i hc
      rw [Bool.and_eq_true, decide_eq_true_eq] at hc
      obtain ⟨hl, hno⟩ := hc
      have no1 : ∀ v ∈ own.map (·.2), isOwn s1.δ v = false := fun v hv => by simpa using List.all_eq_true.mp hno v hv
      have hws : ∀ i ∈ ws, i ∈ own.map (·.2) := fun i h => by simpa using List.all_eq_true.mp hw i h
      generalize own.map (·.2) = vs at *
      intro Dd hD
      have h0 : H0 Dd = none := r1.free0 hD
      have n0 : Dd ∉ α0 := fun z => r1.nota hD (r1.st.pre.subset z)
      refine ⟨fun i m H => i + m = ds.length ∧ ∃ s' α' acc vacc, Rel X.K (upd H0 Dd (.lst vacc)) α0 H α' σ s' ∧ Stay H1 α1 H α' ∧ Rvs X.K H α' acc vacc ∧ acc.length ≤ i ∧ (∀ v ∈ vs, isOwn s'.δ v = false) ∧
        PostF X.K H0 α0 σ W H α' Q (match dLcGo vs g ft fe (ds.drop i) s' with | .ok ys s2 => .ok (.lst (acc ++ ys)) s2 | _ => .bad), ⟨ds.length, Nat.zero_add _, s1, α1, [], [], r1.pin hD (fun z => z), Stay.upd_new hD, .nil, Nat.zero_le _, no1, ?_⟩, ?_⟩
      · rw [List.drop_zero]
        have q2 : PostF X.K H0 α0 σ W H α Q (match dLcGo vs g ft fe ds s1 with | .ok ys s2 => .ok (.lst ys) s2 | _ => .bad) := q
        cases eg : dLcGo vs g ft fe ds s1 <;> rw [eg] at q2 <;> simp only [List.nil_append] at q2 ⊢
        · exact fun a H' α' r' t' rf => q2 a H' α' r' (t1.trans ((Stay.upd_new hD).trans t')) rf
        · exact q2
        · exact q2
      · rintro i m H2 ⟨hm, s', α', acc, vacc, rl, st, ra, hai, no, k⟩
        cases m with
        | zero =>
          have e : i = ds.length := by omega
          subst e
          rw [List.drop_length] at k
          simp only [dLcGo, List.append_nil] at k
          refine .inl ⟨w.stop H2 α' st, k Dd H2 α' (rl.unpin h0) (Stay.refl _ _) (rl.pinRF h0 n0 ⟨vacc, rl.pinned n0, ra⟩)⟩
        | succ m =>
          have hi : i < ds.length := by omega
          have ed := List.getElem?_eq_getElem hi
          rw [List.drop_eq_getElem_cons hi] at k
          refine .inr ⟨w.go H2 α' i _ st ed, fun H' => ∃ m', m' < m + 1 ∧ (i + 1) + m' = ds.length ∧ ∃ s' α' acc vacc, Rel X.K (upd H0 Dd (.lst vacc)) α0 H' α' σ s' ∧ Stay H1 α1 H' α' ∧ Rvs X.K H' α' acc vacc ∧ acc.length ≤ i + 1 ∧ (∀ v ∈ vs, isOwn s'.δ v = false) ∧
            PostF X.K H0 α0 σ W H' α' Q (match dLcGo vs g ft fe (ds.drop (i + 1)) s' with | .ok ys s2 => .ok (.lst (acc ++ ys)) s2 | _ => .bad), fun _ z => z, fun x H3 hy => ?_⟩
          obtain ⟨r3, t3, rv⟩ := w.yld _ α0 H2 α' σ s' i _ x H3 st rl ed hy
          unfold dLcGo at k
          cases eg : g ds[i] { s' with δ := wipeD s'.δ vs } with
          | none => rw [eg] at k; exact k.elim
          | some s4 =>
            rw [eg] at k
            intro b
            refine qg b _ α0 _ H3 α' _ _ x s4 _ (r3.wipe vs) rv eg fun σ4 H4 r4 t4 b4 => ⟨by rw [wipe_but b4 hws]; exact wipe_wipe σ vs, fun b => ?_⟩
            refine qt b _ α0 σ4 H4 α' s4 _ r4 ?_
            simp only at k
            cases et : ft s4 with
            | bad => rw [et] at k; exact k.elim
            | exc e s5 => rw [et] at k; exact k.elim
            | ok bb s5 =>
              rw [et] at k
              intro H5 α5 r5 t5
              have t35 := (t3.trans t4).trans t5
              cases bb with
              | false =>
                simp only at k
                rw [if_neg Bool.false_ne_true]
                refine ⟨m, Nat.lt_succ_self m, by omega, _, α5, acc, vacc, r3.back no (t4.trans t5) r5 b4 hws, st.trans t35, Rvs.stay t35 _ _ ra, by omega, back_no no, ?_⟩
                cases eq : dLcGo vs g ft fe (ds.drop (i + 1)) { δ := backD s'.δ s5.δ vs, μ := s5.μ } <;> rw [eq] at k <;> simp only at k ⊢
                · exact fun a H' α' r' t' rf => k a H' α' r' (t35.trans t') rf
                · exact k
                · exact k
              | true =>
                simp only at k
                rw [if_pos rfl]
                intro b
                refine qe b _ α0 σ4 H5 α5 s5 _ r5 ?_
                cases ee : fe s5 with
                | bad => rw [ee] at k; exact k.elim
                | exc e s6 => rw [ee] at k; exact k.elim
                | ok y s6 =>
                  rw [ee] at k
                  intro v H6 α6 r6 t6 rx
                  simp only at k
                  cases hny : noOwn y with
                  | false => rw [hny, if_neg Bool.false_ne_true] at k; exact k.elim
                  | true =>
                    rw [hny, if_pos rfl] at k
                    have rvy := noOwn_rv rx hny
                    have rb := r3.back no ((t4.trans t5).trans t6) r6 b4 hws
                    obtain ⟨rp, tp⟩ := rb.repin (o' := .lst (vacc ++ [v])) n0 (fun z => z) (fun z => z)
                    have t36 := (t35.trans t6).trans tp
                    have hlen : acc.length < sizeLine := by rw [sizeLine_eq]; omega
                    refine ⟨vacc, r6.pinned n0, by rw [ra.length]; exact hlen, m, Nat.lt_succ_self m, by omega, _, α6, acc ++ [y], vacc ++ [v], rp, st.trans t36, (Rvs.stay t36 _ _ ra).append (.single (Rv.stay tp _ _ rvy)), by simp; omega, back_no no, ?_⟩
                    cases eq : dLcGo vs g ft fe (ds.drop (i + 1)) { δ := backD s'.δ s6.δ vs, μ := s6.μ } <;> rw [eq] at k <;> simp only [Res.bind] at k ⊢
                    · rw [List.append_assoc]
                      exact fun a H' α' r' t' rf => k a H' α' r' (t36.trans t') rf
                    · exact k
                    · exact k
    · exact q.elim
theorem pf_lc (hc : X.calm = true) (hN : X.N.Nodup) (ok : blkC X.N X.env.scope scope own = true) (hi : PID X tg iter fi) (hg : ∀ b, PGD (CxB X scope b) tg ws g) (ht : ∀ b, PTsD (CxB X scope b) ifs ft) (he : ∀ b, PED (CxB X scope b) elt fe) (hw : ws.all (fun i => (own.map (·.2)).contains i) = true := by rfl)
    (hs : ∀ x, foldedSetIterable iter X.env x = pure x := by intro _; rfl) : PFD X (.ListComp elt [⟨tg, iter, ifs, 0⟩] scope pos) (dLc (own.map (·.2)) fi g ft fe) := by
  refine ⟨fun W tk => ?_⟩
  obtain ⟨wi, tg', tt, te, h1, h2, h3, h4, h5⟩ := lc_ex hi hw hg ht he W tk
  exact ⟨_, pe_lc hc hN h1 (blkOk_by ok) (fun s H C cl fp => h2 ⟨s, H, C, cl, fp⟩) (fun s H C cl fp => h3 ⟨s, H, C, cl, fp⟩) (fun s H C cl fp => h4 ⟨s, H, C, cl, fp⟩) hs, h5⟩
/-- name = [..] on one line: the name's own -/
theorem sd_setLc {i : Nat} {y : Str} {py spos : Pos} (hc : X.calm = true) (hN : X.N.Nodup) (hy : X.N[i]? = some y) (hyl : X.env.scope.names.lookup y = some .local) (hsw : swapsWith (.ListComp elt [⟨tg, iter, ifs, 0⟩] scope pos) (some (.Name y py)) spos.line X.env = pure true)
    (ok : blkC X.N X.env.scope scope own = true) (hi : PID X tg iter fi) (hg : ∀ b, PGD (CxB X scope b) tg ws g) (ht : ∀ b, PTsD (CxB X scope b) ifs ft) (he : ∀ b, PED (CxB X scope b) elt fe) (hw : ws.all (fun i => (own.map (·.2)).contains i) = true := by rfl)
    (hs : ∀ x, foldedSetIterable iter X.env x = pure x := by intro _; rfl) : PSD X (.Assign [.Name y py] (.ListComp elt [⟨tg, iter, ifs, 0⟩] scope pos) spos) (dAsgO i (dLc (own.map (·.2)) fi g ft fe)) := by
  refine ⟨fun W tk => ?_⟩
  obtain ⟨wi, tg', tt, te, h1, h2, h3, h4, h5⟩ := lc_ex hi hw hg ht he W tk
  refine ⟨_, ps_setLc hc hN hy hyl hsw h1 (blkOk_by ok) (fun s H C cl fp => h2 ⟨s, H, C, cl, fp⟩) (fun s H C cl fp => h3 ⟨s, H, C, cl, fp⟩) (fun s H C cl fp => h4 ⟨s, H, C, cl, fp⟩) hs, fun H0 α0 σ H α s D r k => h5 H0 α0 σ H α s _ r ?_⟩
  unfold dAsgO at k
  cases ea : dLc (own.map (·.2)) fi g ft fe s with
  | bad => rw [ea] at k; exact k.elim
  | exc e s1 => rw [ea] at k; exact fun cls dd H' α' r' x => k cls dd σ H' α' r' x
  | ok c s1 =>
    rw [ea] at k
    exact fun a H1 α1 r1 t1 rf => k _ H1 α1 (r1.setO rf) t1
end
end DL

namespace DL
open PySem PySem.Spec PyProof.Rows L2
variable [DLX]
/-! ### 27. Things that change: methods, stores -/
def mutAt (s : S) : D → Option Cell
  | .own i => (match s.δ[i]? with | some (.own c) => some c | _ => none)
  | .ref n => s.μ[n]?
  | _ => none
def setAt (s : S) (o : D) (c : Cell) : S := match o with
  | .own i => { s with δ := s.δ.set i (.own c) }
  | .ref n => { s with μ := s.μ.set n c }
  | _ => s
theorem cell_mut {K : PySem.W.Frag} {H : Hp} {α : List Addr} {a : Addr} {c : Cell} (h : CellOk K H α a c) (nd : c ≠ .dead) : ∃ u, H a = some u ∧ ¬ Fixed u := by
  cases c with
  | lst xs => obtain ⟨vs, h, _⟩ := h; exact ⟨_, h, fun z => z⟩
  | dct kvs =>
    rcases h with ⟨kv, h, _⟩ | ⟨kv, _, h, _⟩
    · exact ⟨_, h, fun z => z⟩
    · exact ⟨_, h, fun z => z⟩
  | ins C fs => obtain ⟨_, _, h, _⟩ := h; exact ⟨_, h, fun z => z⟩
  | dead => exact absurd rfl nd
  | tab n => obtain ⟨_, _, _, h, _⟩ := h; exact ⟨_, h, fun z => z⟩
section
variable {K : PySem.W.Frag} {H0 H H' : Hp} {α0 α : List Addr} {σ : Sg} {s : S}
theorem stay_mut {a : Addr} {u : HO} (hu : H a = some u) (nf : ¬ Fixed u) (k : ∀ b o, b ≠ a → H b = some o → H' b = some o) (dm : ∀ b, H' b = none → H b = none) : Stay H α H' α :=
  ⟨fun b o e f => k b o (fun z => by subst z; rw [hu] at e; cases e; exact nf f) e, List.prefix_rfl, dm⟩
theorem mut_at {o : D} {v : V} {c : Cell} (r : Rel K H0 α0 H α σ s) (rx : Rx K H α σ o v) (e : mutAt s o = some c) : ∃ a, v = .ref a ∧ CellOk K H α a c ∧
    ∀ H' c', (∀ b u, b ≠ a → H b = some u → H' b = some u) → Stay H α H' α → CellOk K H' α a c' → Rel K H0 α0 H' α σ (setAt s o c') := by
  unfold mutAt at e
  split at e
  · rename_i i
    split at e
    · rename_i c0 hc
      cases e
      obtain ⟨a, h1, h2, h3, h4⟩ := r.slots.own i c hc
      have h' : σ[i]? = some (some v) := rx
      rw [h1] at h'
      cases h'
      refine ⟨a, rfl, h4, fun H' c' k t hc' => ?_⟩
      refine ⟨⟨r.cells.len, r.cells.nd, fun n b x e1 e2 => ?_⟩, ⟨by simpa [setAt] using r.slots.len, fun j d e => ?_, fun j x e => ?_, fun j l x y b e1 e2 e3 e4 => ?_⟩, fun b u e m => ?_, r.nw, r.st.trans t⟩
      · exact (r.cells.at_ n b x e1 e2).stay t fun u hu _ => k b u (fun z => h2 (z ▸ List.mem_of_getElem? e1)) hu
      · rcases get_set e with ⟨_, z, _⟩ | ⟨ne, z⟩
        · cases z
        · obtain ⟨w, e1, e2⟩ := r.slots.val j d z
          exact ⟨w, e1, Rv.stay t _ _ e2⟩
      · rcases get_set e with ⟨rfl, z, _⟩ | ⟨ne, z⟩
        · cases z
          exact ⟨a, h1, h2, h3, hc'⟩
        · obtain ⟨b, e1, e2, e3, e4⟩ := r.slots.own j x z
          refine ⟨b, e1, e2, e3, e4.stay t fun u hu _ => k b u (fun w => ?_) hu⟩
          subst w
          exact ne (r.slots.inj i j c x b hc z h1 e1)
      · have back : ∀ {j : Nat} {x : Cell}, (s.δ.set i (.own c'))[j]? = some (.own x) → ∃ y, s.δ[j]? = some (.own y) := fun {j x} e => by
          rcases get_set e with ⟨rfl, _, _⟩ | ⟨_, z⟩
          · exact ⟨_, hc⟩
          · exact ⟨_, z⟩
        obtain ⟨x', z1⟩ := back e1
        obtain ⟨y', z2⟩ := back e2
        exact r.slots.inj j l x' y' b z1 z2 e3 e4
      · exact k b u (fun z => by subst z; rw [h3] at e; cases e) (r.ot b u e m)
    · cases e
  · rename_i n
    have h' : Rv K H α (.ref n) v := rx
    simp only [Rv] at h'
    obtain ⟨a, ha, rfl⟩ := h'
    refine ⟨a, rfl, r.cells.at_ n a c ha e, fun H' c' k t hc' => ?_⟩
    have hm := List.mem_of_getElem? ha
    refine ⟨⟨by simpa [setAt] using r.cells.len, r.cells.nd, fun m b x e1 e2 => ?_⟩, ⟨r.slots.len, fun j d e => ?_, fun j x e => ?_, r.slots.inj⟩, fun b u e m => ?_, r.nw, r.st.trans t⟩
    · rcases get_set e2 with ⟨rfl, z, _⟩ | ⟨ne, z⟩
      · rw [ha] at e1
        cases e1
        rw [z]
        exact hc'
      · refine (r.cells.at_ m b x e1 z).stay t fun u hu _ => k b u (fun w => ?_) hu
        subst w
        exact ne ((List.getElem?_inj (List.getElem?_eq_some_iff.mp ha).1 r.cells.nd).mp (ha.trans e1.symm))
    · obtain ⟨w, e1, e2⟩ := r.slots.val j d e
      exact ⟨w, e1, Rv.stay t _ _ e2⟩
    · obtain ⟨b, e1, e2, e3, e4⟩ := r.slots.own j x e
      exact ⟨b, e1, e2, e3, e4.stay t fun u hu _ => k b u (fun w => e2 (w ▸ hm)) hu⟩
    · refine k b u (fun z => ?_) (r.ot b u e m)
      subst z
      rcases r.nw b hm with w | w
      · exact m w
      · rw [w] at e; cases e
  · cases e
/-- the thing at a becomes o -/
theorem mut_upd {a : Addr} {u o : HO} (hu : H a = some u) (nf : ¬ Fixed u) : (∀ b w, b ≠ a → H b = some w → upd H a o b = some w) ∧ Stay H α (upd H a o) α := by
  have k : ∀ b w, b ≠ a → H b = some w → upd H a o b = some w := fun b w ne e => by rw [upd_ne ne]; exact e
  refine ⟨k, stay_mut hu nf k fun b e => ?_⟩
  by_cases z : b = a
  · subst z; rw [upd_same] at e; cases e
  · rw [upd_ne z] at e; exact e
end
/-- a method does g -/
def MB (X : Cx) (id : String) (g : S → D → List D → Option (D × S)) : Prop :=
  ∀ (pins : List (Addr × Obj)) (s : Shared) (σ0 : Sg) (H : Hp) (xv : V) (xs : List V) (v : Value) (us : List Value) (Q : VK) (H0 : Hp) (σ : Sg) (α0 α : List Addr) (st : S) (o : D) (ds : List D) (d : D) (st' : S), Inv X pins σ0 H s → Rel X.K H0 α0 H α σ st → Rx X.K H α σ o xv → Rxs X.K H α σ ds xs → RelV xv v → Vals xs us → g st o ds = some (d, st') →
    (∀ w H' α', Rel X.K H0 α0 H' α' σ st' → Stay H α H' α' → Rx X.K H' α' σ d w → Q w H') → wpAny (model X.prog X.w) X.A (call (.builtin id) (v :: us)) (EP X pins σ0 Q) X.xe s
def rMB (K : PySem.W.Frag) (g : S → D → List D → Option (D × S)) : V → List V → Hp → VK → Prop := fun xv xs H Q => ∃ H0 σ α0 α st o ds d st', Rel K H0 α0 H α σ st ∧ Rx K H α σ o xv ∧ Rxs K H α σ ds xs ∧ g st o ds = some (d, st') ∧ ∀ w H' α', Rel K H0 α0 H' α' σ st' → Stay H α H' α' → Rx K H' α' σ d w → Q w H'
theorem MB.mt {X : Cx} {id : String} {g : S → D → List D → Option (D × S)} (h : MB X id g) : MtM X id (rMB X.K g) := fun pins s σ0 H xv xs v us Q I rv rvs ⟨H0, σ, α0, α, st, o, ds, d, st', rl, rx, rxs, e, q⟩ => h pins s σ0 H xv xs v us Q H0 σ α0 α st o ds d st' I rl rx rxs rv rvs e q
theorem MB.of {X : Cx} {id : String} {r : V → List V → Hp → VK → Prop} {g : S → D → List D → Option (D × S)} (hm : MtM X id r)
    (h : ∀ (H0 : Hp) (α0 : List Addr) (σ : Sg) (H : Hp) (α : List Addr) (s : S) (xv : V) (xs : List V) (o : D) (ds : List D) (d : D) (s' : S) (Q : VK), Rel X.K H0 α0 H α σ s → Rx X.K H α σ o xv → Rxs X.K H α σ ds xs → g s o ds = some (d, s') →
      (∀ w H' α', Rel X.K H0 α0 H' α' σ s' → Stay H α H' α' → Rx X.K H' α' σ d w → Q w H') → r xv xs H Q) : MB X id g :=
  fun pins s σ0 H xv xs v us Q H0 σ α0 α st o ds d st' I rl rx rxs rv rvs e q => hm pins s σ0 H xv xs v us Q I rv rvs (h H0 α0 σ H α st xv xs o ds d st' Q rl rx rxs e q)
theorem MB.or {X : Cx} {id : String} {g g' : S → D → List D → Option (D × S)} (h : MB X id g) (h' : MB X id g') : MB X id (fun s o ds => (g s o ds).or (g' s o ds)) := fun pins s σ0 H xv xs v us Q H0 σ α0 α st o ds d st' I rl rx rxs rv rvs eg q => by
  dsimp only at eg
  cases e : g st o ds with
  | some d' =>
    rw [e] at eg
    obtain rfl : d' = (d, st') := Option.some.inj eg
    exact h pins s σ0 H xv xs v us Q H0 σ α0 α st o ds d st' I rl rx rxs rv rvs e q
  | none =>
    rw [e] at eg
    exact h' pins s σ0 H xv xs v us Q H0 σ α0 α st o ds d st' I rl rx rxs rv rvs eg q
/-- the type of data, as a method call reads it -/
theorem typ_d {X : Cx} {pins : List (Addr × Obj)} {s : Shared} {σ0 σ : Sg} {H H0 : Hp} {α0 α : List Addr} {st : S} {d : D} {v : V} {u : Value} {T : String} (I : Inv X pins σ0 H s) (rl : Rel X.K H0 α0 H α σ st) (h : Rx X.K H α σ d v) (r : RelV v u) (e : tyD st d = some T) (ne : T = "list" ∨ T = "dict" ∨ T = "str" ∨ T = "int") :
    s.TypeIs u T ∧ ∀ a, u = .ref a → ∃ ob, s.heap.get? a = some ob ∧ ob.dict = none := by
  have lst : ∀ {a : Addr} {vs : List V}, SqL X.K H a vs → s.TypeIs (.ref a) "list" ∧ ∀ b, (Value.ref a) = .ref b → ∃ ob, s.heap.get? b = some ob ∧ ob.dict = none := fun {a vs} hq => by
    obtain ⟨its, _, pl, _⟩ := I.list hq
    refine ⟨pl.isList.typeIs, fun b e => ?_⟩
    cases e
    obtain ⟨o, n, e, c, hd, _⟩ := pl
    exact ⟨o, e, hd⟩
  have dct : ∀ {a : Addr}, (∃ o, s.heap.get? a = some o ∧ o.ExactDict) → s.TypeIs (.ref a) "dict" ∧ ∀ b, (Value.ref a) = .ref b → ∃ ob, s.heap.get? b = some ob ∧ ob.dict = none := fun {a} ⟨o, e, ex⟩ => by
    refine ⟨⟨o, e, ex.1⟩, fun b e2 => ?_⟩
    cases e2
    exact ⟨o, e, ex.2.1⟩
  have viaC : ∀ (a : Addr) (c : Cell), CellOk X.K H α a c → (match c with | .lst _ => some "list" | .dct _ => some "dict" | _ => none) = some T → s.TypeIs (.ref a) T ∧ ∀ b, (Value.ref a) = .ref b → ∃ ob, s.heap.get? b = some ob ∧ ob.dict = none := by
    intro a c hc e
    cases c <;> simp only [Option.some.injEq, reduceCtorEq] at e
    · subst e
      obtain ⟨vs, ha, _⟩ := hc
      exact lst (.of ha)
    · subst e
      rcases hc with ⟨kv, ha, _⟩ | ⟨kv, _, ha, _⟩
      · obtain ⟨_, _, _, _, o, _, _, e, ex, _⟩ := I.hok a _ ha
        exact dct ⟨o, e, ex⟩
      · obtain ⟨_, _, _, _, o, _, _, e, ex, _⟩ := I.hok a _ ha
        exact dct ⟨o, e, ex⟩
  cases d <;> simp only [tyD, Option.some.injEq, reduceCtorEq] at e
  case non => subst e; simp at ne
  case bl b => subst e; simp at ne
  case tup b => subst e; simp at ne
  case int i =>
    subst e
    rw [rx_int h] at r
    obtain ⟨t, rfl⟩ := r
    exact ⟨typeIs_int s i t, fun _ e => nomatch e⟩
  case str z =>
    subst e
    rw [rx_str h] at r
    obtain ⟨t, rfl⟩ := r
    exact ⟨typeIs_str s z t, fun _ e => nomatch e⟩
  case ref n =>
    have h' : Rv X.K H α (.ref n) v := h
    simp only [Rv] at h'
    obtain ⟨a, ha, rfl⟩ := h'
    cases r
    simp only [cellAt] at e
    cases hc : st.μ[n]? with
    | none => rw [hc] at e; cases e
    | some c =>
      rw [hc] at e
      exact viaC a c (rl.cells.at_ n a c ha hc) (by cases c <;> simpa using e)
  case own n =>
    have h' : σ[n]? = some (some v) := h
    simp only [cellAt] at e
    cases hc : st.δ[n]? with
    | none => rw [hc] at e; simp at e
    | some c =>
      rw [hc] at e
      cases c with
      | no => simp at e
      | val _ => simp at e
      | own c =>
        obtain ⟨a, ha, _, _, q⟩ := rl.slots.own n c hc
        rw [h'] at ha
        cases ha
        cases r
        exact viaC a c q (by cases c <;> simpa using e)
  case lst xs =>
    subst e
    have h' : Rv X.K H α (.lst xs) v := h
    simp only [Rv] at h'
    obtain ⟨a, vs, rfl, hs, _⟩ := h'
    cases r
    exact lst hs.sq
  case dct kvs =>
    subst e
    have h' : Rv X.K H α (.dct kvs) v := h
    simp only [Rv] at h'
    obtain ⟨a, o, rfl, ⟨kv, hf, _⟩ | ⟨kv, _, hf, _⟩⟩ := h'
    · cases r
      obtain ⟨_, h2, h3, _⟩ := I.frzK hf
      exact dct ⟨o, h2, h3⟩
    · cases r
      obtain ⟨_, h2, h3, _⟩ := I.frzT hf
      exact dct ⟨o, h2, h3⟩
/-- o.m(..) -/
def dM (T : String) (g : S → D → List D → Option (D × S)) (fo : FE) (fa : FA) : FE := fun s => (fo s).bind fun o s1 => if tyD s1 o = some T then (fa s1).bind fun ds s2 => match g s2 o ds with | some (d, s3) => .ok d s3 | none => .bad else .bad
def tDM (X : Cx) (T : String) (r : V → List V → Hp → VK → Prop) (to : TE) (t : TA) : TE := fun σ H Q => to σ H fun x H1 => (∀ (pins : List (Addr × Obj)) (s : Shared) (u : Value), Inv X pins σ H1 s → RelV x u → s.TypeIs u T ∧ ∀ a, u = .ref a → ∃ ob, s.heap.get? a = some ob ∧ ob.dict = none) ∧ t σ H1 fun xs H2 => r x xs H2 Q
section
variable {X : Cx} {o e : Expr} {es : List Expr} {name : Str} {apos cpos : Pos} {T id : String}
theorem pe_dm0 {to : TE} {r : V → List V → Hp → VK → Prop} (pa : PlainAttrs T) (slot : PySem.Slot T name id) (hty : typeOf (.builtin id) = pure (.type "method_descriptor")) (hm : MtM X id r) (ho : PE X o to)
    (hbase : attributeBase o name X.env (eval o X.env) = eval o X.env := by rfl) (hline : (apos.endLine == cpos.line) = true := by rfl) : PE X (.Call (.Attribute o name apos) [] [] cpos) (tDM X T r to tNil) := by
  refine ⟨fun pins s σ H Q I h => ?_⟩
  refine wpAny_Call_method0_late hbase hline (thn (ho.run pins s σ H _ I h) fun v s1 ⟨x, H1, I1, r1, ty, q1⟩ => ?_)
  obtain ⟨h1, h2⟩ := ty pins s1 v I1 r1
  exact ⟨T, id, pa, slot, hty, h1, h2, Calls.callWith_builtin rfl (PySem.evalArgs_none (hm pins s1 σ H1 x [] v [] Q I1 r1 .nil q1))⟩
theorem pe_dm {to : TE} {t : TA} {r : V → List V → Hp → VK → Prop} (pa : PlainAttrs T) (slot : PySem.Slot T name id) (hty : typeOf (.builtin id) = pure (.type "method_descriptor")) (hm : MtM X id r) (ho : PE X o to) (ha : PA X (e :: es) t)
    (hbase : attributeBase o name X.env (eval o X.env) = eval o X.env := by rfl)
    (hfew : ((backTo cpos (starEach (e :: es) X.env)).all (fun x => !x.1) && (backToKw cpos (keywordEach [] X.env)).all (fun x => x.1.isSome)
      && decide ((e :: es).length + ([] : List Keyword).length + (if ([] : List Keyword).isEmpty then 0 else 1) < 30)) = true := by rfl)
    (hline : (apos.endLine == cpos.line) = true := by rfl) (hs : starEach (e :: es) X.env = (false, eval e X.env) :: starEach es X.env := by rfl) (hplain : (backTo cpos (starEach es X.env)).any (·.1) = false := by rfl) :
    PE X (.Call (.Attribute o name apos) (e :: es) [] cpos) (tDM X T r to t) := by
  refine ⟨fun pins s σ H Q I h => ?_⟩
  refine wpAny_Call_method_late hbase hfew hline rfl (thn (ho.run pins s σ H _ I h) fun v s1 ⟨x, H1, I1, r1, ty, q1⟩ => ?_)
  obtain ⟨h1, h2⟩ := ty pins s1 v I1 r1
  refine ⟨T, id, pa, slot, hty, h1, h2, ?_⟩
  have hA := ha.run cpos pins s1 σ H1 _ I1 q1
  rw [hs] at hA ⊢
  refine Calls.callWith_builtin (by show (false || (backTo cpos (starEach es X.env)).any (·.1)) = false; rw [hplain] <;> rfl) (Calls.evalArgs_plain ?_)
  exact thn hA fun us s2 ⟨vs, H2, I2, r2, q2⟩ => hm pins s2 σ H2 x vs v us Q I2 r1 r2 q2
theorem dm_core {fo : FE} {fa : FA} {g : S → D → List D → Option (D × S)} {to : TE} {t : TA} {W : WX} {H0 : Hp} {α0 : List Addr} (hT : T = "list" ∨ T = "dict" ∨ T = "str" ∨ T = "int")
    (qo : ∀ H0 α0 σ H α s Q, Rel X.K H0 α0 H α σ s → PostE X.K H0 α0 σ W H α Q (fo s) → to σ H Q) (qa : ∀ H0 α0 σ H α s Q, Rel X.K H0 α0 H α σ s → PostA X.K H0 α0 σ W H α Q (fa s) → t σ H Q)
    {σ : Sg} {H : Hp} {α : List Addr} {s : S} {Q : VK} (r : Rel X.K H0 α0 H α σ s) (q : PostE X.K H0 α0 σ W H α Q (dM T g fo fa s)) : tDM X T (rMB X.K g) to t σ H Q := by
  refine qo H0 α0 σ H α s _ r ?_
  unfold dM at q
  cases eo : fo s with
  | bad => rw [eo] at q; exact q.elim
  | exc e s1 => rw [eo] at q; exact q
  | ok o s1 =>
    rw [eo] at q
    intro x H1 α1 r1 t1 rx
    simp only [Res.bind] at q
    split at q
    · rename_i hty
      refine ⟨fun pins s u I ru => typ_d I r1 rx ru hty hT, ?_⟩
      refine qa H0 α0 σ H1 α1 s1 _ r1 ?_
      cases ea : fa s1 with
      | bad => rw [ea] at q; exact q.elim
      | exc e s2 => rw [ea] at q; exact q
      | ok ds s2 =>
        rw [ea] at q
        intro vs H2 α2 r2 t2 rv
        simp only at q
        split at q
        · rename_i d s3 eg
          exact ⟨H0, σ, α0, α2, s2, o, ds, d, s3, r2, rx.stay t2, rv, eg, fun w H' α' r' t' rx' => q w H' α' r' ((t1.trans t2).trans t') rx'⟩
        · exact q.elim
    · exact q.elim
theorem pd_m {fo : FE} {fa : FA} {g : S → D → List D → Option (D × S)} (hT : T = "list" ∨ T = "dict" ∨ T = "str" ∨ T = "int") (pa : PlainAttrs T) (slot : PySem.Slot T name id) (hty : typeOf (.builtin id) = pure (.type "method_descriptor")) (hm : MB X id g) (ho : PED X o fo) (ha : PAD X (e :: es) fa)
    (hbase : attributeBase o name X.env (eval o X.env) = eval o X.env := by rfl)
    (hfew : ((backTo cpos (starEach (e :: es) X.env)).all (fun x => !x.1) && (backToKw cpos (keywordEach [] X.env)).all (fun x => x.1.isSome)
      && decide ((e :: es).length + ([] : List Keyword).length + (if ([] : List Keyword).isEmpty then 0 else 1) < 30)) = true := by rfl)
    (hline : (apos.endLine == cpos.line) = true := by rfl) (hs : starEach (e :: es) X.env = (false, eval e X.env) :: starEach es X.env := by rfl) (hplain : (backTo cpos (starEach es X.env)).any (·.1) = false := by rfl) :
    PED X (.Call (.Attribute o name apos) (e :: es) [] cpos) (dM T g fo fa) := by
  refine ⟨fun W tk => ?_⟩
  obtain ⟨to, po, qo⟩ := ho.run W tk
  obtain ⟨t, p, qa⟩ := ha.run W tk
  exact ⟨_, pe_dm pa slot hty hm.mt po p hbase hfew hline hs hplain, fun H0 α0 σ H α s Q r q => dm_core hT qo qa r q⟩
theorem pd_m0 {fo : FE} {g : S → D → List D → Option (D × S)} (hT : T = "list" ∨ T = "dict" ∨ T = "str" ∨ T = "int") (pa : PlainAttrs T) (slot : PySem.Slot T name id) (hty : typeOf (.builtin id) = pure (.type "method_descriptor")) (hm : MB X id g) (ho : PED X o fo)
    (hbase : attributeBase o name X.env (eval o X.env) = eval o X.env := by rfl) (hline : (apos.endLine == cpos.line) = true := by rfl) : PED X (.Call (.Attribute o name apos) [] [] cpos) (dM T g fo dNil) := by
  refine ⟨fun W tk => ?_⟩
  obtain ⟨to, po, qo⟩ := ho.run W tk
  exact ⟨_, pe_dm0 pa slot hty hm.mt po hbase hline, fun H0 α0 σ H α s Q r q => dm_core hT qo (t := tNil) (W := W) (fa := dNil) (fun H0 α0 σ H α s Q r (q : PostA X.K H0 α0 σ W H α Q (.ok [] s)) => q [] H α r (Stay.refl _ _) .nil) r q⟩
/-! the list's methods -/
def gAppend : S → D → List D → Option (D × S) := fun s o ds => match ds, mutAt s o with
  | [d], some (.lst xs) => if noOwn d && decide (xs.length < 16777216) then some (.non, setAt s o (.lst (xs ++ [d]))) else none
  | _, _ => none
theorem mb_append : MB X "list.append" gAppend := .of mt_append fun H0 α0 σ H α s xv xs o ds d s' Q r rx rxs e q => by
  unfold gAppend at e
  split at e
  · rename_i x ys em
    split at e
    · rename_i hc
      cases e
      rw [Bool.and_eq_true, decide_eq_true_eq, ← sizeLine_eq] at hc
      obtain ⟨w, rfl, rw⟩ := rxs.one
      obtain ⟨a, rfl, hcell, k⟩ := mut_at r rx em
      obtain ⟨vs, hv, rr⟩ := hcell
      obtain ⟨k1, t⟩ := mut_upd (α := α) (o := .lst (vs ++ [w])) hv (fun z => z)
      exact ⟨a, vs, w, rfl, rfl, hv, by rw [rr.length]; exact hc.2, q .non _ α (k _ _ k1 t ⟨_, upd_same, (Rvs.stay t _ _ rr).append (.single (Rv.stay t _ _ (noOwn_rv rw hc.1)))⟩) t ox_non⟩
    · cases e
  · cases e
theorem pd_append {fo : FE} {fa : FA} (ho : PED X o fo) (ha : PAD X (e :: es) fa) (hbase : attributeBase o "append" X.env (eval o X.env) = eval o X.env := by rfl)
    (hfew : ((backTo cpos (starEach (e :: es) X.env)).all (fun x => !x.1) && (backToKw cpos (keywordEach [] X.env)).all (fun x => x.1.isSome)
      && decide ((e :: es).length + ([] : List Keyword).length + (if ([] : List Keyword).isEmpty then 0 else 1) < 30)) = true := by rfl)
    (hline : (apos.endLine == cpos.line) = true := by rfl) (hs : starEach (e :: es) X.env = (false, eval e X.env) :: starEach es X.env := by rfl) (hplain : (backTo cpos (starEach es X.env)).any (·.1) = false := by rfl) :
    PED X (.Call (.Attribute o "append" apos) (e :: es) [] cpos) (dM "list" gAppend fo fa) := pd_m (.inl rfl) F.plainAttrs_list F.slot_list_append F.type_list_append mb_append ho ha hbase hfew hline hs hplain
def gPop0 : S → D → List D → Option (D × S) := fun s o ds => match ds, mutAt s o with
  | [], some (.lst xs) => xs.getLast?.map fun d => (d, setAt s o (.lst xs.dropLast))
  | _, _ => none
theorem Rvs.dropLast {K : PySem.W.Frag} {H : Hp} {α : List Addr} {ds : List D} {vs : List V} (h : Rvs K H α ds vs) : Rvs K H α ds.dropLast vs.dropLast := by
  rw [List.dropLast_eq_take, List.dropLast_eq_take, h.length]
  exact h.take _
theorem mb_pop0 : MB X "list.pop" gPop0 := .of mt_pop fun H0 α0 σ H α s xv xs o ds d s' Q r rx rxs e q => by
  unfold gPop0 at e
  split at e
  · rename_i ys em
    simp only [Option.map_eq_some_iff, Prod.mk.injEq] at e
    obtain ⟨d', e, rfl, rfl⟩ := e
    cases rxs
    obtain ⟨a, rfl, hcell, k⟩ := mut_at r rx em
    obtain ⟨vs, hv, rr⟩ := hcell
    rw [List.getLast?_eq_getElem?] at e
    obtain ⟨w, ew, rw⟩ := rr.at_ e
    obtain ⟨k1, t⟩ := mut_upd (α := α) (o := .lst vs.dropLast) hv (fun z => z)
    exact ⟨a, vs, w, rfl, rfl, hv, by rw [rr.length]; exact ew, q w _ α (k _ _ k1 t ⟨_, upd_same, (Rvs.stay t _ _ rr).dropLast⟩) t (Rv.x (Rv.stay t _ _ rw))⟩
  · cases e
/-! o[i] = e -/
def gSetI : S → D → D → D → Option S := fun s o i d => match i, mutAt s o with
  | .int k, some (.lst xs) => (ixN xs.length k).map fun j => setAt s o (.lst (xs.set j d))
  | _, _ => none
def SetS (X : Cx) (r : TSet) (g : S → D → D → D → Option S) : Prop :=
  ∀ (H0 : Hp) (α0 : List Addr) (σ : Sg) (H : Hp) (α : List Addr) (s : S) (x y v : V) (a b d : D) (s' : S) (Q : Hp → Prop), Rel X.K H0 α0 H α σ s → Rx X.K H α σ a x → Rx X.K H α σ b y → Rv X.K H α d v → g s a b d = some s' → (∀ H' α', Rel X.K H0 α0 H' α' σ s' → Stay H α H' α' → Q H') → r x y v H Q
theorem ss_list : SetS X rSetL gSetI := fun H0 α0 σ H α s x y v a b d s' Q r rx ry rv e q => by
  unfold gSetI at e
  split at e
  · rename_i k xs em
    simp only [Option.map_eq_some_iff] at e
    obtain ⟨j, ej, rfl⟩ := e
    obtain ⟨p, rfl, hcell, kk⟩ := mut_at r rx em
    obtain ⟨vs, hv, rr⟩ := hcell
    obtain ⟨k1, t⟩ := mut_upd (α := α) (o := .lst (vs.set j v)) hv (fun z => z)
    rw [rx_int ry]
    exact ⟨p, vs, k, j, rfl, rfl, hv, by rw [rr.length]; exact ej, q _ α (kk _ _ k1 t ⟨_, upd_same, (Rvs.stay t _ _ rr).set (Rv.stay t _ _ rv) j⟩) t⟩
  · cases e
def dSetI (g : S → D → D → D → Option S) (fe fo fi : FE) : FS := fun s => match fe s with
  | .ok d s1 => if noOwn d then (match ((fo s1).bind fun o s2 => (fi s2).bind fun i s3 => match g s3 o i d with | some s4 => Res.ok () s4 | none => Res.bad) with
    | .ok _ s4 => .nx s4
    | .exc e s1 => .exc e s1
    | .bad => .bad) else .bad
  | .exc e s1 => .exc e s1
  | .bad => .bad
theorem sd_setI {a b : Expr} {st : Stmt} {r : TSet} {g : S → D → D → D → Option S} {tpos : Pos} {fe fo fi : FE} (hp : ∀ te t, PE X e te → PG X (.Subscript a b tpos) t → PS X st (tAsg te t)) (hr : PSet X r) (hs : SetS X r g) (he : PED X e fe) (ho : PED X a fo) (hi : PED X b fi)
    (ha : ∀ v, assign (.Subscript a b tpos) X.env v = (do
      let ov ← holding [v] (eval a X.env)
      let iv ← holding [v, ov] (eval b X.env)
      standAt tpos
      holding [v, ov, iv] (setItem ov iv v)
      release [v, ov, iv] []) := by intro _; rfl) : PSD X st (dSetI g fe fo fi) := by
  refine ⟨fun W tk => ?_⟩
  obtain ⟨te, pe, qe⟩ := he.run W tk
  obtain ⟨to, po, qo⟩ := ho.run W tk
  obtain ⟨ti, pi, qi⟩ := hi.run W tk
  refine ⟨_, hp te _ pe (pg_sub po pi hr ha), fun H0 α0 σ H α s D rl k => qe H0 α0 σ H α s _ rl ?_⟩
  unfold dSetI at k
  cases ee : fe s with
  | bad => rw [ee] at k; exact k.elim
  | exc e s1 => rw [ee] at k; exact fun cls dd H' α' r' x => k cls dd σ H' α' r' x
  | ok d s1 =>
    rw [ee] at k
    simp only at k
    intro v H1 α1 r1 t1 rv
    split at k
    · rename_i hn
      refine qo H0 α0 σ H1 α1 s1 _ r1 ?_
      cases eo : fo s1 with
      | bad => rw [eo] at k; exact k.elim
      | exc e s2 => rw [eo] at k; exact fun cls dd H' α' r' x => k cls dd σ H' α' r' x
      | ok o s2 =>
        rw [eo] at k
        intro x H2 α2 r2 t2 rx
        refine qi H0 α0 σ H2 α2 s2 _ r2 ?_
        simp only [Res.bind] at k
        cases ei : fi s2 with
        | bad => rw [ei] at k; exact k.elim
        | exc e s3 => rw [ei] at k; exact fun cls dd H' α' r' x => k cls dd σ H' α' r' x
        | ok i s3 =>
          rw [ei] at k
          intro y H3 α3 r3 t3 ry
          simp only at k
          cases eg : g s3 o i d with
          | none => rw [eg] at k; exact k.elim
          | some s4 =>
            rw [eg] at k
            exact hs H0 α0 σ H3 α3 s3 x y v o i d s4 _ r3 (rx.stay t3) ry (Rv.stay (t2.trans t3) _ _ (noOwn_rv rv hn)) eg fun H' α' r' t' => k σ H' α' r' (((t1.trans t2).trans t3).trans t')
    · exact k.elim
end
end DL

namespace DL
open PySem PySem.Spec PyProof.Rows L2
variable [DLX]
/-! ### 28. Chains, minus, turned around, times -/
def dChain (g g' : S → D → D → Option D) (fa fb fc : FE) : FE := fun s => (fa s).bind fun a s1 => (fb s1).bind fun b s2 => match g s2 a b with
  | some (.bl true) => (fc s2).bind fun c s3 => (match g' s3 b c with | some d => .ok d s3 | none => .bad)
  | some (.bl false) => .ok (.bl false) s2
  | _ => .bad
def dChainT (g g' : S → D → D → Option D) (fa fb fc : FE) : FT := fun s => match dChain g g' fa fb fc s with | .ok (.bl b) s1 => .ok b s1 | .exc e s1 => .exc e s1 | _ => .bad
def rOpS (K : PySem.W.Frag) (g : S → D → D → Option D) (r : R2) : R2 := r
section
variable {X : Cx}
theorem chain_core {r r' : R2} {g g' : S → D → D → Option D} {fa fb fc : FE} {ta tb tc : TE} {W : WX} (hs : OpS X r g) (hs' : OpS X r' g')
    (qa : ∀ H0 α0 σ H α s Q, Rel X.K H0 α0 H α σ s → PostE X.K H0 α0 σ W H α Q (fa s) → ta σ H Q) (qb : ∀ H0 α0 σ H α s Q, Rel X.K H0 α0 H α σ s → PostE X.K H0 α0 σ W H α Q (fb s) → tb σ H Q)
    (qc : ∀ H0 α0 σ H α s Q, Rel X.K H0 α0 H α σ s → PostE X.K H0 α0 σ W H α Q (fc s) → tc σ H Q) {H0 : Hp} {α0 : List Addr} {σ : Sg} {H : Hp} {α : List Addr} {s : S} {Q : VK} (r0 : Rel X.K H0 α0 H α σ s)
    (q : PostE X.K H0 α0 σ W H α Q (dChain g g' fa fb fc s)) : tChain (fun x y H Q => r x y H fun v H1 => Gh H1 (Q v)) (fun x y H Q => r' x y H fun v H1 => Gh H1 (Q v)) ta tb tc σ H Q := by
  unfold dChain at q
  refine two_run (a := .Constant .none 0 default) (b := .Constant .none 0 default) (W := W) qa qb r0 q fun u w x y s2 H2 α2 r2 t2 rx ry q2 => ?_
  split at q2
  · rename_i eg
    refine hs H0 α0 σ H2 α2 s2 x y u w _ _ r2 rx ry eg fun v H3 α3 r3 t3 rv => ?_
    rw [rx_bl rv]
    refine ⟨true, rfl, ?_⟩
    rw [if_pos rfl]
    refine qc H0 α0 σ H3 α3 s2 _ r3 ?_
    cases ec : fc s2 with
    | bad => rw [ec] at q2; exact q2.elim
    | exc e s4 => rw [ec] at q2; exact q2
    | ok c s4 =>
      rw [ec] at q2
      intro z H4 α4 r4 t4 rz
      simp only [Res.bind] at q2
      cases eg2 : g' s4 w c with
      | none => rw [eg2] at q2; exact q2.elim
      | some d =>
        rw [eg2] at q2
        exact hs' H0 α0 σ H4 α4 s4 y z w c d _ r4 (ry.stay (t3.trans t4)) rz eg2 fun v H' α' r' t' rv => q2 v H' α' r' (((t2.trans t3).trans t4).trans t') rv
  · rename_i eg
    refine hs H0 α0 σ H2 α2 s2 x y u w _ _ r2 rx ry eg fun v H3 α3 r3 t3 rv => ?_
    rw [rx_bl rv]
    refine ⟨false, rfl, ?_⟩
    rw [if_neg Bool.false_ne_true]
    exact q2 _ H3 α3 r3 (t2.trans t3) ox_bl
  · exact q2.elim
theorem pd_chain {op op' : CmpOp} {a b c : Expr} {pos : Pos} {g g' : S → D → D → Option D} {fa fb fc : FE} (h1 : Cmp X op g) (h2 : Cmp X op' g') (ha : PED X a fa) (hb : PED X b fb) (hc : PED X c fc)
    (hm : lastMarks [op, op'] [b, c] = false := by with_unfolding_all rfl) : PED X (.Compare a [op, op'] [b, c] pos) (dChain g g' fa fb fc) := by
  obtain ⟨r, o1, s1⟩ := h1.ex
  obtain ⟨r', o2, s2⟩ := h2.ex
  refine ⟨fun W tk => ?_⟩
  obtain ⟨ta, pa, qa⟩ := ha.run W tk
  obtain ⟨tb, pb, qb⟩ := hb.run W tk
  obtain ⟨tc, pc, qc⟩ := hc.run W tk
  exact ⟨_, pe_chain (opGh o1) (opGh o2) pa pb pc hm, fun H0 α0 σ H α s Q r q => chain_core s1 s2 qa qb qc r q⟩
theorem pt_chain {op op' : CmpOp} {a b c : Expr} {pos : Pos} {g g' : S → D → D → Option D} {fa fb fc : FE} (h1 : Cmp X op g) (h2 : Cmp X op' g') (ha : PED X a fa) (hb : PED X b fb) (hc : PED X c fc)
    (hm : lastMarks [op, op'] [b, c] = false := by with_unfolding_all rfl) : PTD X (.Compare a [op, op'] [b, c] pos) (dChainT g g' fa fb fc) := by
  obtain ⟨r, o1, s1⟩ := h1.ex
  obtain ⟨r', o2, s2⟩ := h2.ex
  refine ⟨fun W tk => ?_⟩
  obtain ⟨ta, pa, qa⟩ := ha.run W tk
  obtain ⟨tb, pb, qb⟩ := hb.run W tk
  obtain ⟨tc, pc, qc⟩ := hc.run W tk
  refine ⟨_, L2.pt_chain (opGh o1) (opGh o2) pa pb pc hm, fun H0 α0 σ H α s Q r q => chain_core s1 s2 qa qb qc r ?_⟩
  unfold dChainT at q
  cases e : dChain g g' fa fb fc s with
  | bad => rw [e] at q; exact q.elim
  | exc x s1 => rw [e] at q; exact q
  | ok d s1 =>
    rw [e] at q
    cases d <;> try exact q.elim
    intro v H' α' r' t' rv
    rw [rx_bl rv]
    exact ⟨_, rfl, q H' α' r' t'⟩
/-! -e -/
def dNeg (fa : FE) : FE := fun s => (fa s).bind fun a s1 => match a with | .int i => .ok (.int (-i)) s1 | _ => .bad
theorem pd_neg {a : Expr} {pos : Pos} {fa : FE} (ha : PED X a fa) : PED X (.UnaryOp .USub a pos) (dNeg fa) := by
  refine ⟨fun W tk => ?_⟩
  obtain ⟨t, p, q⟩ := ha.run W tk
  refine ⟨_, pe_un un_neg p, fun H0 α0 σ H α s Q r k => q H0 α0 σ H α s _ r ?_⟩
  unfold dNeg at k
  cases ea : fa s with
  | bad => rw [ea] at k; exact k.elim
  | exc e s1 => rw [ea] at k; exact k
  | ok d s1 =>
    rw [ea] at k
    simp only [Res.bind] at k
    intro v H1 α1 r1 t1 rv
    cases d <;> simp only at k <;> try exact k.elim
    rw [rx_int rv]
    exact ⟨_, rfl, k _ H1 α1 r1 t1 ox_int⟩
end
/-! t[::-1] -/
theorem rev_places (n : Nat) : Builtin.Slice.slicePlaces ((n : Int) - 1) (-1) (-1) = n := by
  unfold Builtin.Slice.slicePlaces
  rw [if_neg (by decide)]
  by_cases h : (n : Int) - 1 > -1
  · rw [if_pos h, show (- -1 : Int) = 1 from rfl, Int.ediv_one]
    omega
  · rw [if_neg h]
    omega
theorem fm_congr {α β : Type} {f g : α → Option β} : ∀ {l : List α}, (∀ x ∈ l, f x = g x) → l.filterMap f = l.filterMap g
  | [], _ => rfl
  | x :: l, h => by rw [List.filterMap_cons, List.filterMap_cons, h x (by simp), fm_congr fun y hy => h y (by simp [hy])]
theorem rev_pick (xs : Array Value) : ((List.range xs.size).filterMap fun (m : Nat) => xs[((xs.size : Int) - 1 + (m : Int) * (-1)).toNat]?).toArray = xs.toList.reverse.toArray := by
  congr 1
  have e : ∀ m ∈ List.range xs.size, xs[((xs.size : Int) - 1 + (m : Int) * (-1)).toNat]? = (fun i => xs[i]?) (xs.size - 1 - m) := fun m hm => by
    have := List.mem_range.mp hm
    show xs[_]? = xs[_]?
    congr 1
    omega
  rw [fm_congr e]
  have := PySem.W.krv_range xs.size
  have e2 : (List.range xs.size).filterMap (fun m => (fun i => xs[i]?) (xs.size - 1 - m)) = ((List.range xs.size).map (fun k => xs.size - 1 - k)).filterMap (fun i => xs[i]?) := by
    rw [List.filterMap_map]
    rfl
  rw [e2, this, List.filterMap_reverse, PySem.W.krv_all]
theorem applied_rev {prog : Program} {w : World} {A : Around} {E : Value → Shared → Prop} {s : Shared} {sl : Addr} {vl vu vs : Value} {n : Nat} {Q : Int × Int × Nat → Shared → Prop} (hs : s.heap.IsSliceOf sl vl vu vs) (pl : IsPart vl none) (pu : IsPart vu none) (ps : IsPart vs (some (-1)))
    (h : Q ((n : Int) - 1, -1, n) s) : wpAny (model prog w) A (Builtin.Slice.sliceApplied (.ref sl) (pure (n : Int))) Q E s := by
  obtain ⟨os, hos, hcs, hds⟩ := id hs
  unfold Builtin.Slice.sliceApplied Builtin.Slice.sliceFields
  refine wpAny_bind (wpAny_bind (wpAny_field hos hds (x := vl) rfl (wpAny_bind (wpAny_field hos hds (x := vu) rfl (wpAny_bind (wpAny_field hos hds (x := vs) rfl (wpAny_pure ?_)))))))
  refine wpAny_bind (HT.slicePart_ ps ?_)
  show wpAny _ _ (if ((-1 : Int) == 0) = true then _ else _) _ _ s
  rw [if_neg (by decide)]
  refine wpAny_bind (HT.slicePart_ pl (wpAny_bind (HT.slicePart_ pu (wpAny_bind (wpAny_pure ?_)))))
  show wpAny _ _ (match Builtin.Slice.sliceAdjust none none (-1) (n : Int) with | (lo, hi) => pure (lo, (-1 : Int), Builtin.Slice.slicePlaces lo hi (-1))) _ _ s
  show wpAny _ _ (pure ((n : Int) - 1, (-1 : Int), Builtin.Slice.slicePlaces ((n : Int) - 1) (-1) (-1))) _ _ s
  rw [rev_places]
  exact wpAny_pure h
theorem getItem_tuple_rev {prog : Program} {w : World} {A : Around} {E : Value → Shared → Prop} {s : Shared} {t sl : Addr} {items : Array Value} {vl vu vs : Value} {Q : Value → Shared → Prop} (ht : IsTup s.heap t items) (hs : s.heap.IsSliceOf sl vl vu vs) (pl : IsPart vl none) (pu : IsPart vu none) (ps : IsPart vs (some (-1)))
    (h : Q (.ref s.heap.objs.size) { s with heap := s.heap.push { cls := .type "tuple", data := .seq items.toList.reverse.toArray } }) (hsz : items.size ≤ sizeLine) : wpAny (model prog w) A (getItem (.ref t) (.ref sl)) Q E s := by
  have htake : sizeOk (.seq items.toList.reverse.toArray) := by
    show items.toList.reverse.toArray.size ≤ sizeLine
    simpa using hsz
  obtain ⟨os, hos, hcs, hds⟩ := id hs
  have hTs : s.TypeIs (.ref sl) "slice" := ⟨os, hos, hcs⟩
  unfold getItem
  try with_reducible refine wpAny_holding ?_
  first | refine wpAny_bind (wpAny_pure ?_) | skip
  refine wpAny_bind (wpAny_sequenceKey ht.typeIs (by decide) ?_)
  refine wpAny_bind (wpAny_callSpecial?_slot (name := Str.ofString "__getitem__") ht.typeIs PyProof.Rows.slot_tuple_getitem
    (wpAny_call_entry PyProof.Rows.slot_tuple_getitem ht.typeIs entry_tuple_getitem ?_ (args_tuple_getitem _ _)))
  show wpAny _ _ (Builtin.Tuple.tupleItemsOf (.ref t) >>= _) _ _ s
  refine wpAny_bind (tupleItemsOf_ ht ?_)
  refine wpAny_bind (wpAny_typeOf hTs ?_)
  rw [if_pos (by decide)]
  refine wpAny_bind (applied_rev hs pl pu ps ?_)
  have hno : ¬ ((((items.size : Nat) : Int) - 1 == 0 && (-1 : Int) == 1 && items.size == items.size) = true) := by
    rw [show ((-1 : Int) == 1) = false from rfl, Bool.and_false, Bool.false_and]
    exact Bool.false_ne_true
  show wpAny _ _ (if ((((items.size : Nat) : Int) - 1 == 0 && (-1 : Int) == 1 && items.size == items.size)) = true then _ else _) _ _ s
  rw [if_neg hno, rev_pick]
  first
    | exact wpAny_bind (m := Builtin.Tuple.tupleExact _) (wpAny_newObj_type (wpAny_pure ⟨_, rfl, wpAny_pure h⟩) htake)
    | exact wpAny_bind (m := Builtin.Tuple.tupleExact _) (wpAny_newObj_type (wpAny_bind (wpAny_pure (wpAny_pure ⟨_, rfl, wpAny_pure h⟩))) htake)
    | exact wpAny_bind (wpAny_bind (m := Builtin.Tuple.tupleExact _) (wpAny_newObj_type (wpAny_pure (wpAny_pure ⟨_, rfl, wpAny_pure h⟩)) htake))
    | exact wpAny_bind (wpAny_bind (m := Builtin.Tuple.tupleExact _) (wpAny_newObj_type (wpAny_pure ⟨_, rfl, wpAny_pure h⟩) htake))
def tRevB (K : PySem.W.Frag) (te : TE) : TE := fun σ H Q => te σ H fun x H1 => ∃ a xs, x = .ref a ∧ ((SqL K H1 a xs ∧ ∀ p, H1 p = none → Q (.ref p) (upd H1 p (.lst xs.reverse))) ∨ (SqT K H1 a xs ∧ ∀ p, H1 p = none → Q (.ref p) (upd H1 p (.tup xs.reverse))))
def dRev (fa : FE) : FE := fun s => (fa s).bind fun a s1 => match a with
  | .tup xs => .ok (.tup xs.reverse) s1
  | a => match asL s1 a with | some xs => .ok (.lst xs.reverse) s1 | none => .bad
theorem Rvs.reverse {K : PySem.W.Frag} {H : Hp} {α : List Addr} : ∀ {ds : List D} {vs : List V}, Rvs K H α ds vs → Rvs K H α ds.reverse vs.reverse
  | [], _, h => by simp only [Rvs] at h; subst h; simp [Rvs]
  | d :: ds, l, h => by
    simp only [Rvs] at h
    obtain ⟨v, r, rfl, h1, h2⟩ := h
    rw [List.reverse_cons, List.reverse_cons]
    exact (Rvs.reverse h2).append (.single h1)
section
variable {X : Cx}
theorem pe_revB {e : Expr} {te : TE} {k : Nat} {p1 p2 p3 pos : Pos} (he : PE X e te) : PE X (.Subscript e (.Slice none none (some (.UnaryOp .USub (.Constant (.int 1) k p1) p2)) p3) pos) (tRevB X.K te) := by
  refine ⟨fun pins s σ H Q I h => ?_⟩
  refine Subscript_ (thn (he.run pins s σ H _ I h) fun v s1 ⟨x, H1, I1, r1, q1⟩ => ?_)
  obtain ⟨a, xs, rfl, q⟩ := q1
  cases r1
  have hst : PO X (some (.UnaryOp .USub (.Constant (.int 1) k p1) p2)) (tPart (tUn (rU fun i => .int (-i)) (tC (.int 1)))) := po_some (pe_un un_neg pe_int)
  refine wpAny_Slice (thn (po_none.run pins s1 σ H1 (fun o H2 => o = none ∧ H2 = H1) I1 ⟨rfl, rfl⟩) fun vl s2 ⟨l, H2, I2, pl, el, e2⟩ => ?_)
  subst el e2
  refine thn (po_none.run pins s2 σ H2 (fun o H3 => o = none ∧ H3 = H2) I2 ⟨rfl, rfl⟩) fun vu s3 ⟨u, H3, I3, pu, eu, e3⟩ => ?_
  subst eu e3
  refine thn (hst.run pins s3 σ H3 (fun o H4 => o = some (-1) ∧ H4 = H3) I3 ⟨1, rfl, -1, rfl, rfl, rfl⟩) fun vs s4 ⟨o, H4, I4, ps, eo, e4⟩ => ?_
  subst eo e4
  have I5 : Inv X pins σ H4 { s4 with heap := s4.heap.push { cls := .type "slice", data := .fields #[vl, vu, vs] } } := I4.kept (t' := s4.toks) fun b ob q => Heap.get?_push_of_some _ q
  show wpAny (model X.prog X.w) X.A (subscriptTail e (.Slice none none (some (.UnaryOp .USub (.Constant (.int 1) k p1) p2)) p3) (.ref a) (.ref s4.heap.objs.size)) (EP X pins σ Q) X.xe { s4 with heap := s4.heap.push { cls := .type "slice", data := .fields #[vl, vu, vs] } }
  rcases q with ⟨hx, q⟩ | ⟨hx, q⟩
  · obtain ⟨its, r, ht, hz⟩ := I5.list hx
    have hlen := r.length
    refine tail_any (ops := [.ref a, .ref s4.heap.objs.size]) ht.isList.typeIs (PySem.slot_list_getitem.lookup) ?_ (by with_unfolding_all rfl)
    refine wpAny_getItem_list_slice ht.isList (Heap.IsSliceOf.new _ vl vu vs) pl pu ps (by decide) ?_ (by rw [List.size_toArray]; omega)
    rw [PySem.W.krv_pick]
    refine ⟨.ref _, _, I5.laid (t' := s4.toks) (o := .lst xs.reverse) (fun b ob q => Heap.get?_push_of_some _ q) (Nat.le_refl _) ?_, rfl, q _ (I5.hok.fresh (Nat.le_refl _))⟩
    exact ⟨by rw [List.length_reverse]; exact hz, _, 0, r.reverse, Heap.get?_push_size _ rfl⟩
  · obtain ⟨its, r, ht, hz⟩ := I5.tuple hx
    have hlen := r.length
    refine tail_any (ops := [.ref a, .ref s4.heap.objs.size]) ht.typeIs (PyProof.Rows.slot_tuple_getitem.lookup) ?_ (by with_unfolding_all rfl)
    refine getItem_tuple_rev ht (Heap.IsSliceOf.new _ vl vu vs) pl pu ps ?_ (by rw [List.size_toArray]; omega)
    refine ⟨.ref _, _, I5.laid (t' := s4.toks) (o := .tup xs.reverse) (fun b ob q => Heap.get?_push_of_some _ q) (Nat.le_refl _) ?_, rfl, q _ (I5.hok.fresh (Nat.le_refl _))⟩
    exact ⟨by rw [List.length_reverse]; exact hz, _, r.reverse, IsTup.new _ _⟩
theorem pd_rev {e : Expr} {fa : FE} {k : Nat} {p1 p2 p3 pos : Pos} (ha : PED X e fa) : PED X (.Subscript e (.Slice none none (some (.UnaryOp .USub (.Constant (.int 1) k p1) p2)) p3) pos) (dRev fa) := by
  refine ⟨fun W tk => ?_⟩
  obtain ⟨t, p, q⟩ := ha.run W tk
  refine ⟨_, peGh (pe_revB p), fun H0 α0 σ H α s Q r k => q H0 α0 σ H α s _ r ?_⟩
  unfold dRev at k
  cases ea : fa s with
  | bad => rw [ea] at k; exact k.elim
  | exc e s1 => rw [ea] at k; exact k
  | ok d s1 =>
    rw [ea] at k
    simp only [Res.bind] at k
    intro v H1 α1 r1 t1 rv
    split at k
    · obtain ⟨a, vs, rfl, h1, rr⟩ := asT_ok rv
      exact ⟨a, vs, rfl, .inr ⟨h1, fun p hp => .inl (new_tup r1 hp rr.reverse fun v H' α' r' t' rx => k v H' α' r' (t1.trans t') rx)⟩⟩
    · cases ex : asL s1 d with
      | none => rw [ex] at k; exact k.elim
      | some xs =>
        rw [ex] at k
        obtain ⟨a, vs, rfl, h1, rr⟩ := asL_ok r1 rv ex
        exact ⟨a, vs, rfl, .inl ⟨h1, fun p hp => gh_list r1 hp rr.reverse fun v H' α' r' t' rx => k v H' α' r' (t1.trans t') rx⟩⟩
end
/-! times -/
theorem tuple_mul_self (l : Addr) (items : Array Value) (n : Nat) (dd : Option Addr) (sl : Array (Option Value)) (x : Int) (u : Tok) (c0 : (decide (x < -(2 ^ 63)) || decide (x ≥ 2 ^ 63)) = false) (c1 : (items.isEmpty || x == 1) = true) :
    Meets (Builtin.«tuple.__mul__» ⟨[.ref l, .int x u], []⟩) (fun _ R s => s.heap.get? l = some { cls := .type "tuple", dict := dd, data := .seq items n, slots := sl } ∧ R (.ok (.ret (.ref l))) s) :=
  .of_wp fun prog w A R s h => by
    obtain ⟨hp, g, d, tk, os⟩ := s
    obtain ⟨hl, h⟩ := h
    have f1 := AutoSeq1.idx_int
    wp_walk using wpAny_loadPart' hl
    repeat (first
      | (refine wpAny_ite_false (decide_eq_false (by rw [c0]; exact Bool.false_ne_true)) ?_; wp_walk using wpAny_loadPart' hl)
      | (refine wpAny_ite_true (decide_eq_true (by rw [c1])) ?_; wp_walk using wpAny_loadPart' hl))
    exact ⟨_, rfl, h⟩
def rRepS (K : PySem.W.Frag) : R2 := fun x y H Q => ∃ l k xs, x = .ref l ∧ y = .int k ∧ SqT K H l xs ∧ (xs = [] ∨ k = 1) ∧ -(2 ^ 63) ≤ k ∧ k < 2 ^ 63 ∧ Q (.ref l) H
section
variable {X : Cx}
theorem op_repS : OpR X (binaryOp .Mult) (rRepS X.K) := by
  intro pins s σ H x y v u Q I rx ry h
  obtain ⟨l, k, xs, rfl, rfl, hT, hne, h1, h2, q⟩ := h
  cases rx
  obtain ⟨t, rfl⟩ := ry
  obtain ⟨its, r, ⟨⟨cls, dd, data, sl⟩, ho, hc, n, hd⟩, hs⟩ := I.tuple hT
  simp only at hc hd
  subst hc hd
  have hle : its.length = xs.length := r.length.symm
  have c0 : (decide (k < -(2 ^ 63)) || decide (k ≥ 2 ^ 63)) = false := by
    rw [decide_eq_false (by omega), decide_eq_false (by omega)] <;> rfl
  have c1 : (its.toArray.isEmpty || k == 1) = true := by
    rcases hne with rfl | rfl
    · cases its with
      | nil => rfl
      | cons a b => simp at hle
    · simp
  exact wpAny_binaryOp_repeat_ref (T := "tuple") (U := "int") (by decide) ⟨_, ho, rfl⟩ (fun s' => typeIs_int s' k t) noFill_tuple_mul F.fills_int_mul F.slot_int_rmul repeat_tuple F.slot_int_index.lookup
    (call_meets F.slot_int_rmul (typeIs_int s k t) F.entry_int_rmul (F.args_int_rmul_2 _ _) (int_rmul_tuple k t l its.toArray n dd sl)
      ⟨ho, rfl, ⟨_, ho, rfl⟩, call_meets F.slot_tuple_mul ⟨_, ho, rfl⟩ F.entry_tuple_mul (F.args_tuple_mul_2 _ _) (tuple_mul_self l its.toArray n dd sl k t c0 c1) ⟨ho, ⟨.ref l, H, I, rfl, q⟩⟩⟩)
end
theorem tuple_mul_nil (l : Addr) (items : Array Value) (n : Nat) (dd : Option Addr) (sl : Array (Option Value)) (x : Int) (u : Tok) (c0 : (decide (x < -(2 ^ 63)) || decide (x ≥ 2 ^ 63)) = false) (c1 : (items.isEmpty || x == 1) = false) (c2 : (decide (x ≤ 0) || items.isEmpty) = true) :
    Meets (Builtin.«tuple.__mul__» ⟨[.ref l, .int x u], []⟩) (fun _ R s => s.heap.get? l = some { cls := .type "tuple", dict := dd, data := .seq items n, slots := sl } ∧
      R (.ok (.ret (Value.ref s.heap.objs.size))) { s with heap := s.heap.push { cls := Value.type "tuple", data := Data.seq #[] }, toks := s.toks }) :=
  .of_wp fun prog w A R s h => by
    obtain ⟨hp, g, d, tk, os⟩ := s
    obtain ⟨hl, h⟩ := h
    have f1 := AutoSeq1.idx_int
    wp_walk using wpAny_loadPart' hl
    repeat (first
      | (refine wpAny_ite_false (decide_eq_false (by rw [c0]; exact Bool.false_ne_true)) ?_; wp_walk using wpAny_loadPart' hl)
      | (refine wpAny_ite_false (decide_eq_false (by rw [c1]; exact Bool.false_ne_true)) ?_; wp_walk using wpAny_loadPart' hl)
      | (refine wpAny_ite_true (decide_eq_true (by rw [c2])) ?_; wp_walk using wpAny_loadPart' hl)
      | (refine wpAny_ite_false (decide_eq_false (by simp)) ?_; wp_walk using wpAny_loadPart' hl))
    exact ⟨_, rfl, h⟩
def rRepN (K : PySem.W.Frag) : R2 := fun x y H Q => ∃ l k xs, x = .ref l ∧ y = .int k ∧ SqT K H l xs ∧ xs ≠ [] ∧ k ≤ 0 ∧ -(2 ^ 63) ≤ k ∧ ∀ p, H p = none → Q (.ref p) (upd H p (.tup []))
section
variable {X : Cx}
theorem op_repN : OpR X (binaryOp .Mult) (rRepN X.K) := by
  intro pins s σ H x y v u Q I rx ry h
  obtain ⟨l, k, xs, rfl, rfl, hT, hne, h1, h2, q⟩ := h
  cases rx
  obtain ⟨t, rfl⟩ := ry
  obtain ⟨its, r, ⟨⟨cls, dd, data, sl⟩, ho, hc, n, hd⟩, hs⟩ := I.tuple hT
  simp only at hc hd
  subst hc hd
  have hle : its.length = xs.length := r.length.symm
  have hn : its ≠ [] := fun e => hne (by
    rw [e] at hle
    exact List.eq_nil_of_length_eq_zero hle.symm)
  have hi : its.toArray.isEmpty = false := by
    cases its with
    | nil => exact absurd rfl hn
    | cons a b => rfl
  have c0 : (decide (k < -(2 ^ 63)) || decide (k ≥ 2 ^ 63)) = false := by
    rw [decide_eq_false (by omega), decide_eq_false (by omega)] <;> rfl
  have c1 : (its.toArray.isEmpty || k == 1) = false := by
    rw [hi, Bool.false_or]
    exact beq_eq_false_iff_ne.mpr (by omega)
  have c2 : (decide (k ≤ 0) || its.toArray.isEmpty) = true := by
    rw [decide_eq_true h1]; rfl
  refine wpAny_binaryOp_repeat_ref (T := "tuple") (U := "int") (by decide) ⟨_, ho, rfl⟩ (fun s' => typeIs_int s' k t) noFill_tuple_mul F.fills_int_mul F.slot_int_rmul repeat_tuple F.slot_int_index.lookup
    (call_meets F.slot_int_rmul (typeIs_int s k t) F.entry_int_rmul (F.args_int_rmul_2 _ _) (int_rmul_tuple k t l its.toArray n dd sl)
      ⟨ho, rfl, ⟨_, ho, rfl⟩, call_meets F.slot_tuple_mul ⟨_, ho, rfl⟩ F.entry_tuple_mul (F.args_tuple_mul_2 _ _) (tuple_mul_nil l its.toArray n dd sl k t c0 c1 c2) ⟨ho, ?_⟩⟩)
  refine ⟨.ref s.heap.objs.size, _, I.laid (t' := s.toks) (o := .tup []) (fun b ob q => Heap.get?_push_of_some _ q) (Nat.le_refl _) ?_, rfl, q _ (I.hok.fresh (Nat.le_refl _))⟩
  exact ⟨by simp, [], .nil, IsTup.new _ _⟩
end
section
variable {X : Cx}
def gMul : S → D → D → Option D := fun s a b => match a, b with
  | .int i, .int j => if mulOk i j then some (.int (i * j)) else none
  | .tup xs, .int k => if xs.isEmpty || k == 1 then (if decide (-(2 ^ 63) ≤ k) && decide (k < 2 ^ 63) then some (.tup xs) else none)
    else if decide (2 ≤ k) && decide (k ≤ 1000) && decide (xs.length ≤ 1000) then some (.tup (List.replicate k.toNat xs).flatten)
    else if decide (k ≤ 0) && decide (-(2 ^ 63) ≤ k) then some (.tup []) else none
  | _, _ => none
theorem Rvs.rep {K : PySem.W.Frag} {H : Hp} {α : List Addr} {ds : List D} {vs : List V} (h : Rvs K H α ds vs) : ∀ n : Nat, Rvs K H α (List.replicate n ds).flatten (List.replicate n vs).flatten
  | 0 => by simp [Rvs]
  | n + 1 => by
    rw [List.replicate_succ, List.replicate_succ, List.flatten_cons, List.flatten_cons]
    exact h.append (Rvs.rep h n)
def rMul3 (K : PySem.W.Frag) : R2 := fun x y H Q => rI (fun i j => mulOk i j = true) (fun i j => .int (i * j)) x y H Q ∨ rRepT K x y H Q ∨ rRepS K x y H Q ∨ rRepN K x y H Q
theorem op_mul3 : OpR X (binaryOp .Mult) (rMul3 X.K) := op_mulY.or (OpR.or (r := rRepT X.K) op_repT (OpR.or (r := rRepS X.K) op_repS op_repN))
theorem os_mul : OpS X (rMul3 X.K) gMul := fun H0 α0 σ H α s x y a b d Q r rx ry e q => by
  unfold gMul at e
  split at e
  · split at e
    · rename_i hc
      cases e
      rw [rx_int rx, rx_int ry]
      exact .inl ⟨_, _, rfl, rfl, hc, .inl (q _ _ _ r (Stay.refl _ _) ox_int)⟩
    · cases e
  · rename_i xs k
    obtain ⟨p, vs, rfl, h1, r1⟩ := asT_ok rx
    rw [rx_int ry]
    split at e
    · rename_i h2
      split at e
      · rename_i h3
        cases e
        rw [Bool.and_eq_true, decide_eq_true_eq, decide_eq_true_eq] at h3
        refine .inr (.inr (.inl ⟨p, k, vs, rfl, rfl, h1, ?_, h3.1, h3.2, .inl (q _ _ _ r (Stay.refl _ _) rx)⟩))
        rw [Bool.or_eq_true, List.isEmpty_iff] at h2
        rcases h2 with h2 | h2
        · exact .inl (r1.nil_iff.mpr h2)
        · exact .inr (by simpa using h2)
      · cases e
    · rename_i h2
      split at e
      · rename_i h3
        cases e
        simp only [Bool.and_eq_true, decide_eq_true_eq] at h3
        refine .inr (.inl ⟨p, k, vs, rfl, rfl, h1, fun z => ?_, h3.1.1, h3.1.2, by rw [r1.length]; exact h3.2, fun l hl => .inl (new_tup r hl (r1.rep _) q)⟩)
        have := r1.nil_iff.mp z
        subst this
        simp at h2
      · rename_i h4
        split at e
        · rename_i h3
          cases e
          simp only [Bool.and_eq_true, decide_eq_true_eq] at h3
          refine .inr (.inr (.inr ⟨p, k, vs, rfl, rfl, h1, fun z => ?_, h3.1, h3.2, fun l hl => .inl (new_tup r hl (by simp only [Rvs]) q)⟩))
          have := r1.nil_iff.mp z
          subst this
          simp at h2
        · cases e
  · cases e
theorem pd_mul {a b : Expr} {pos : Pos} {fa fb : FE} (ha : PED X a fa) (hb : PED X b fb) : PED X (.BinOp a .Mult b pos) (dOp gMul fa fb) := pd_op op_mul3 os_mul ha hb
end
/-! a fresh list times an int -/
theorem Rel.pinF {K : PySem.W.Frag} {H0 H : Hp} {α0 α : List Addr} {σ : Sg} {s : S} {a : Addr} {c : Cell} {o : HO} (r : Rel K H0 α0 H α σ s) (h : RF K H0 H α σ s a c) (ho : H a = some o) (nf : ¬ Fixed o) : Rel K (upd H0 a o) α0 H α σ s ∧ a ∉ α0 ∧ H0 a = none := by
  obtain ⟨h1, h2, h3, h4⟩ := h
  have n0 : a ∉ α0 := fun z => h2 (r.st.pre.subset z)
  refine ⟨⟨r.cells, ⟨r.slots.len, r.slots.val, fun i c e => ?_, r.slots.inj⟩, fun b u e m => ?_, fun b hb => ?_, ⟨fun b u e f => ?_, r.st.pre, fun b e => ?_⟩⟩, n0, h3⟩
  · obtain ⟨b, e1, e2, e3, e4⟩ := r.slots.own i c e
    refine ⟨b, e1, e2, ?_, e4⟩
    rw [upd_ne]
    · exact e3
    · rintro rfl
      exact h4 i c e e1
  · by_cases z : b = a
    · subst z
      rw [upd_same] at e
      rw [← e]
      exact ho
    · rw [upd_ne z] at e
      exact r.ot b u e m
  · rcases r.nw b hb with z | z
    · exact .inl z
    · refine .inr ?_
      rw [upd_ne]
      · exact z
      · rintro rfl
        exact h2 hb
  · by_cases z : b = a
    · subst z
      rw [upd_same] at e
      cases e
      exact (nf f).elim
    · rw [upd_ne z] at e
      exact r.st.im b u e f
  · by_cases z : b = a
    · subst z
      rw [ho] at e
      cases e
    · rw [upd_ne z]
      exact r.st.dom b e
def repD (c : Cell) (b : D) : Option (List D) := match c, b with
  | .lst xs, .int k => if decide (-(2 ^ 63) ≤ k) && decide (k < 2 ^ 63) && decide (xs.length * k.toNat ≤ 16777216) then some (List.replicate k.toNat xs).flatten else none
  | _, _ => none
def dRepF (fa : FC) (fb : FE) : FC := fun s => (fa s).bind fun c s1 => (fb s1).bind fun b s2 => match repD c b with | some ys => .ok (.lst ys) s2 | none => .bad
section
variable {X : Cx}
theorem pf_rep {a b : Expr} {pos : Pos} {fa : FC} {fb : FE} (ha : PFD X a fa) (hb : PED X b fb) : PFD X (.BinOp a .Mult b pos) (dRepF fa fb) := by
  refine ⟨fun W tk => ?_⟩
  obtain ⟨t, p, q⟩ := ha.run W tk
  obtain ⟨tb, pb, qb⟩ := hb.run W tk
  refine ⟨_, pe_op op_rep p pb, fun H0 α0 σ H α s Q r k => q H0 α0 σ H α s _ r ?_⟩
  unfold dRepF at k
  cases ea : fa s with
  | bad => rw [ea] at k; exact k.elim
  | exc e s1 => rw [ea] at k; exact k
  | ok c s1 =>
    rw [ea] at k
    intro l H1 α1 r1 t1 rf
    have k : PostF X.K H0 α0 σ W H α Q ((fb s1).bind fun b s2 => match repD c b with | some ys => .ok (.lst ys) s2 | none => .bad) := k
    have fin : ∀ (o : HO), H1 l = some o → ¬ Fixed o → (∀ H' α', Stay H1 α1 H' α' → H' l = some o → CellOk X.K H' α' l c) → tb σ H1 fun y H2 => rRep (.ref l) y H2 Q := fun o ho nf hcell => by
      obtain ⟨rp, n0, h0⟩ := r1.pinF rf ho nf
      refine qb _ α0 σ H1 α1 s1 _ rp ?_
      cases eb : fb s1 with
      | bad => rw [eb] at k; exact k.elim
      | exc e s2 => rw [eb] at k; exact fun cls dd H' α' r' x => k cls dd H' α' (r'.unpin h0) x
      | ok b s2 =>
        rw [eb] at k
        simp only [Res.bind] at k
        intro y H2 α2 r2 t2 ry
        have hl := r2.pinned n0
        cases er : repD c b with
        | none => rw [er] at k; exact k.elim
        | some ys =>
          rw [er] at k
          unfold repD at er
          split at er
          · rename_i xs kk
            split at er
            · rename_i hk
              cases er
              simp only [Bool.and_eq_true, decide_eq_true_eq] at hk
              obtain ⟨vs, hv, rr⟩ := hcell H2 α2 t2 hl
              rw [rx_int ry]
              refine ⟨l, kk, vs, rfl, rfl, hv, hk.1.1, hk.1.2, by rw [rr.length, sizeLine_eq]; exact hk.2, fun p hp => ?_⟩
              exact new_lst (r2.unpin h0) hp (rr.rep _) fun a H' α' r' t' rf' => k a H' α' r' ((t1.trans t2).trans t') rf'
            · cases er
          · cases er
    cases c with
    | lst xs =>
      obtain ⟨vs, hv, rr⟩ := rf.1
      exact fin _ hv (fun z => z) fun H' α' t h => ⟨vs, h, Rvs.stay t _ _ rr⟩
    | dct kvs =>
      rcases rf.1 with ⟨kv, hv, rr⟩ | ⟨kv, nn, hv, rr⟩
      · exact fin _ hv (fun z => z) fun H' α' t h => .inl ⟨kv, h, Rkv.stay t _ _ rr⟩
      · exact fin _ hv (fun z => z) fun H' α' t h => .inr ⟨kv, nn, h, RkT.stay t _ _ rr⟩
    | ins C fs =>
      obtain ⟨dx, vs, hv, rr⟩ := rf.1
      exact fin _ hv (fun z => z) fun H' α' t h => ⟨dx, vs, h, Rfs.stay t _ _ rr⟩
    | tab n =>
      refine qb _ α0 σ H1 α1 s1 _ r1 ?_
      cases eb : fb s1 with
      | bad => rw [eb] at k; exact k.elim
      | exc e s2 => rw [eb] at k; exact k
      | ok b s2 => rw [eb] at k; simp only [Res.bind, repD] at k; exact k.elim
    | dead =>
      obtain ⟨o, ho⟩ := rf.1
      refine qb _ α0 σ H1 α1 s1 _ r1 ?_
      cases eb : fb s1 with
      | bad => rw [eb] at k; exact k.elim
      | exc e s2 => rw [eb] at k; exact k
      | ok b s2 => rw [eb] at k; simp only [Res.bind, repD] at k; exact k.elim
end
end DL

namespace DL
open PySem PySem.Spec PyProof.Rows L2
variable [DLX]
/-! ### 29. Built-ins that give a fresh thing -/
def BIF (X : Cx) (f : Value) (g : S → List D → Option Cell) : Prop :=
  ∀ (pins : List (Addr × Obj)) (s : Shared) (σ0 : Sg) (H : Hp) (xs : List V) (us : List Value) (Q : VK) (H0 : Hp) (σ : Sg) (α0 α : List Addr) (st : S) (ds : List D) (c : Cell), Inv X pins σ0 H s → Rel X.K H0 α0 H α σ st → Rxs X.K H α σ ds xs → Vals xs us → g st ds = some c →
    (∀ a H' α', Rel X.K H0 α0 H' α' σ st → Stay H α H' α' → RF X.K H0 H' α' σ st a c → Q (.ref a) H') → wpAny (model X.prog X.w) X.A (call f us) (EP X pins σ0 Q) X.xe s
def rBIF (K : PySem.W.Frag) (g : S → List D → Option Cell) : List V → Hp → VK → Prop := fun xs H Q => ∃ H0 σ α0 α st ds c, Rel K H0 α0 H α σ st ∧ Rxs K H α σ ds xs ∧ g st ds = some c ∧ ∀ a H' α', Rel K H0 α0 H' α' σ st → Stay H α H' α' → RF K H0 H' α' σ st a c → Q (.ref a) H'
theorem BIF.call {X : Cx} {f : Value} {g : S → List D → Option Cell} (h : BIF X f g) : CallR X f (rBIF X.K g) := fun pins s σ0 H xs us Q I rv ⟨H0, σ, α0, α, st, ds, d, rl, rx, eg, q⟩ => h pins s σ0 H xs us Q H0 σ α0 α st ds d I rl rx rv eg q
theorem BIF.of {X : Cx} {f : Value} {r : List V → Hp → VK → Prop} {g : S → List D → Option Cell} (hc : CallR X f r)
    (h : ∀ (H0 : Hp) (α0 : List Addr) (σ : Sg) (H : Hp) (α : List Addr) (s : S) (xs : List V) (ds : List D) (c : Cell) (Q : VK), Rel X.K H0 α0 H α σ s → Rxs X.K H α σ ds xs → g s ds = some c →
      (∀ a H' α', Rel X.K H0 α0 H' α' σ s → Stay H α H' α' → RF X.K H0 H' α' σ s a c → Q (.ref a) H') → r xs H Q) : BIF X f g :=
  fun pins s σ0 H xs us Q H0 σ α0 α st ds d I rl rx rv eg q => hc pins s σ0 H xs us Q I rv (h H0 α0 σ H α st xs ds d Q rl rx eg q)
theorem BIF.or {X : Cx} {f : Value} {g g' : S → List D → Option Cell} (h : BIF X f g) (h' : BIF X f g') : BIF X f (fun s ds => (g s ds).or (g' s ds)) := fun pins s σ0 H xs us Q H0 σ α0 α st ds d I rl rx rv eg q => by
  dsimp only at eg
  cases e : g st ds with
  | some d' =>
    rw [e] at eg
    obtain rfl : d' = d := Option.some.inj eg
    exact h pins s σ0 H xs us Q H0 σ α0 α st ds d' I rl rx rv e q
  | none =>
    rw [e] at eg
    have eg : g' st ds = some d := eg
    exact h' pins s σ0 H xs us Q H0 σ α0 α st ds d I rl rx rv eg q
def dBF (g : S → List D → Option Cell) (fa : FA) : FC := fun s => (fa s).bind fun ds s1 => match g s1 ds with | some d => .ok d s1 | none => .bad
section
variable {X : Cx} {x : Str} {p pos : Pos} {e : Expr} {es : List Expr} {fa : FA} {g : S → List D → Option Cell} {id T : String}
theorem bif_core {t : TA} {W : WX} {H0 : Hp} {α0 : List Addr} (qa : ∀ H0 α0 σ H α s Q, Rel X.K H0 α0 H α σ s → PostA X.K H0 α0 σ W H α Q (fa s) → t σ H Q) {σ : Sg} {H : Hp} {α : List Addr} {s : S} {Q : VK} (r : Rel X.K H0 α0 H α σ s) (q : PostF X.K H0 α0 σ W H α Q (dBF g fa s)) : tCB (rBIF X.K g) t σ H Q := by
  refine qa H0 α0 σ H α s _ r ?_
  unfold dBF at q
  cases ea : fa s with
  | bad => rw [ea] at q; exact q.elim
  | exc e s1 => rw [ea] at q; exact q
  | ok ds s1 =>
    rw [ea] at q
    intro vs H1 α1 r1 t1 rv
    simp only [Res.bind] at q
    split at q
    · rename_i d eg
      exact ⟨H0, σ, α0, α1, s1, ds, d, r1, rv, eg, fun a H' α' r' t' rx => q a H' α' r' (t1.trans t') rx⟩
    · exact q.elim
theorem pf_b (hc : BIF X (.builtin id) g) (hg : Gl X x) (hm : X.mg x = none) (hv : bootBuiltins x = some (.builtin id)) (ha : PAD X (e :: es) fa) (hn : x ≠ "__name__" := by decide) (hdb : (x == ("__debug__" : Str)) = false := by decide)
    (he : starEach (e :: es) X.env = (false, eval e X.env) :: starEach es X.env := by rfl) (hpl : (backTo pos (starEach es X.env)).any (·.1) = false := by rfl) : PFD X (.Call (.Name x p) (e :: es) [] pos) (dBF g fa) := by
  refine ⟨fun W tk => ?_⟩
  obtain ⟨t, pa, qa⟩ := ha.run W tk
  exact ⟨_, pe_callB hc.call hg hm hv pa hn hdb he hpl, fun H0 α0 σ H α s Q r q => bif_core qa r q⟩
theorem pf_ty (hc : BIF X (.type T) g) (hg : Gl X x) (hm : X.mg x = none) (hv : bootBuiltins x = some (.type T)) (ha : PAD X (e :: es) fa) (hn : x ≠ "__name__" := by decide) (hdb : (x == ("__debug__" : Str)) = false := by decide)
    (he : starEach (e :: es) X.env = (false, eval e X.env) :: starEach es X.env := by rfl) (hpl : (backTo pos (starEach es X.env)).any (·.1) = false := by rfl) : PFD X (.Call (.Name x p) (e :: es) [] pos) (dBF g fa) := by
  refine ⟨fun W tk => ?_⟩
  obtain ⟨t, pa, qa⟩ := ha.run W tk
  exact ⟨_, pe_callTy hc.call hg hm hv pa hn hdb he hpl, fun H0 α0 σ H α s Q r q => bif_core qa r q⟩
/-- list(x) of a list, a tuple -/
def gList : S → List D → Option Cell := fun s ds => match ds with | [d] => (asSeq s d).map .lst | _ => none
theorem bif_list : BIF X (.type "list") gList := .of L2.call_list_of fun H0 α0 σ H α s xs ds c Q r rx e q => by
  unfold gList at e
  split at e
  · obtain ⟨v, rfl, rv⟩ := rx.one
    simp only [Option.map_eq_some_iff] at e
    obtain ⟨ys, e, rfl⟩ := e
    obtain ⟨a, vs, rfl, hs, rr⟩ := asSeq_ok r rv e
    exact ⟨a, vs, rfl, hs, fun l hl => new_lst r hl rr q⟩
  · cases e
/-! min, max of a list of ints -/
def minD : List Int → Option D | [] => none | n :: ns => some (.int (ns.foldl min n))
def maxD : List Int → Option D | [] => none | n :: ns => some (.int (ns.foldl max n))
def gMin : S → List D → Option D := fun s ds => match ds with | [d] => (asL s d).bind fun xs => (intsD xs).bind minD | _ => none
def gMax : S → List D → Option D := fun s ds => match ds with | [d] => (asL s d).bind fun xs => (intsD xs).bind maxD | _ => none
theorem foldl_min_le : ∀ (ns : List Int) (n : Int), ns.foldl min n ≤ n ∧ (∀ y ∈ ns, ns.foldl min n ≤ y) ∧ (ns.foldl min n = n ∨ ns.foldl min n ∈ ns)
  | [], n => ⟨Int.le_refl _, by simp, .inl rfl⟩
  | m :: ns, n => by
    obtain ⟨h1, h2, h3⟩ := foldl_min_le ns (min n m)
    rw [List.foldl_cons]
    refine ⟨by omega, fun y hy => ?_, ?_⟩
    · rcases List.mem_cons.mp hy with rfl | hy
      · omega
      · exact h2 y hy
    · rcases h3 with h3 | h3
      · by_cases e : n ≤ m
        · exact .inl (by rw [h3]; omega)
        · exact .inr (by rw [h3, show min n m = m from by omega]; simp)
      · exact .inr (List.mem_cons_of_mem _ h3)
theorem foldl_max_le : ∀ (ns : List Int) (n : Int), n ≤ ns.foldl max n ∧ (∀ y ∈ ns, y ≤ ns.foldl max n) ∧ (ns.foldl max n = n ∨ ns.foldl max n ∈ ns)
  | [], n => ⟨Int.le_refl _, by simp, .inl rfl⟩
  | m :: ns, n => by
    obtain ⟨h1, h2, h3⟩ := foldl_max_le ns (max n m)
    rw [List.foldl_cons]
    refine ⟨by omega, fun y hy => ?_, ?_⟩
    · rcases List.mem_cons.mp hy with rfl | hy
      · omega
      · exact h2 y hy
    · rcases h3 with h3 | h3
      · by_cases e : m ≤ n
        · exact .inl (by rw [h3]; omega)
        · exact .inr (by rw [h3, show max n m = m from by omega]; simp)
      · exact .inr (List.mem_cons_of_mem _ h3)
theorem bi_min (hc : X.calm = true) : BI X (.builtin "min") gMin := .of (L2.cr_min hc) fun H0 α0 σ H α s xs ds d Q r rx e q => by
  unfold gMin at e
  split at e
  · obtain ⟨v, rfl, rv⟩ := rx.one
    simp only [Option.bind_eq_some_iff] at e
    obtain ⟨ys, e1, ns, e2, e3⟩ := e
    obtain ⟨a, vs, rfl, hs, rr⟩ := asL_ok r rv e1
    obtain rfl := rvs_ints ys e2 rr
    cases ns with
    | nil => cases e3
    | cons n ns =>
      cases e3
      refine ⟨a, n :: ns, rfl, hs, by simp, fun m hm hle => ?_⟩
      obtain ⟨h1, h2, h3⟩ := foldl_min_le ns n
      have : m = ns.foldl min n := by
        have a1 : m ≤ ns.foldl min n := hle _ (by rcases h3 with h3 | h3; · rw [h3]; simp
                                                  · exact List.mem_cons_of_mem _ h3)
        have a2 : ns.foldl min n ≤ m := by
          rcases List.mem_cons.mp hm with rfl | hm
          · exact h1
          · exact h2 m hm
        omega
      subst this
      exact .inl (q _ _ _ r (Stay.refl _ _) ox_int)
  · cases e
theorem bi_max (hc : X.calm = true) : BI X (.builtin "max") gMax := .of (L2.cr_max hc) fun H0 α0 σ H α s xs ds d Q r rx e q => by
  unfold gMax at e
  split at e
  · obtain ⟨v, rfl, rv⟩ := rx.one
    simp only [Option.bind_eq_some_iff] at e
    obtain ⟨ys, e1, ns, e2, e3⟩ := e
    obtain ⟨a, vs, rfl, hs, rr⟩ := asL_ok r rv e1
    obtain rfl := rvs_ints ys e2 rr
    cases ns with
    | nil => cases e3
    | cons n ns =>
      cases e3
      refine ⟨a, n :: ns, rfl, hs, by simp, fun m hm hle => ?_⟩
      obtain ⟨h1, h2, h3⟩ := foldl_max_le ns n
      have : m = ns.foldl max n := by
        have a1 : ns.foldl max n ≤ m := hle _ (by rcases h3 with h3 | h3; · rw [h3]; simp
                                                  · exact List.mem_cons_of_mem _ h3)
        have a2 : m ≤ ns.foldl max n := by
          rcases List.mem_cons.mp hm with rfl | hm
          · exact h1
          · exact h2 m hm
        omega
      subst this
      exact .inl (q _ _ _ r (Stay.refl _ _) ox_int)
  · cases e
/-! {} -/
def dEmp : FC := fun s => .ok (.dct []) s
theorem pf_emp {pos : Pos} : PFD X (.Dict [] [] pos) dEmp := ⟨fun W tk => ⟨_, pe_dnewK, fun H0 α0 σ H α s Q r q p hp => by
  have t : Stay H α (upd H p (.dK [])) α := Stay.upd_new hp
  refine q p _ α (r.new hp) t ⟨.inl ⟨[], upd_same, by simp only [Rkv]⟩, r.nota hp, r.free0 hp, fun i c' h1 h2 => ?_⟩
  obtain ⟨a, e1, _, _, e2⟩ := r.slots.own i c' h1
  rw [h2] at e1
  cases e1
  obtain ⟨o, e3⟩ := e2.some
  rw [hp] at e3
  cases e3⟩⟩
/-! sorted(xs) by what data says -/
def encD (d : D) : PyData := match toPy d with | some p => p | none => .none
def sortOk (ps : List PyData) : Bool := ps.all (fun p => ps.all fun q => PySem.W.alike p q) && (ps.all (fun p => match p with | .tuple (_ :: _) => true | _ => false) || ps.all (fun p => match p with | .tuple _ => false | .none => false | _ => true)) && ps.all (fun p => decide (p.depth ≤ 60))
def gSorted : S → List D → Option Cell := fun s ds => match ds with
  | [d] => (asL s d).bind fun xs => (toPyL xs).bind fun ps => if sortOk ps && decide (xs.length ≤ 16777216) then some (.lst (xs.mergeSort (PySem.W.dataLe false encD))) else none
  | _ => none
theorem toPyL_map : ∀ {xs : List D} {ps : List PyData}, toPyL xs = some ps → ps = xs.map encD
  | [], ps, h => by simp only [toPyL, Option.some.injEq] at h; subst h; rfl
  | x :: xs, ps, h => by
    unfold toPyL at h
    split at h
    · rename_i y ys h1 h2
      cases h
      rw [List.map_cons, ← toPyL_map h2]
      unfold encD
      rw [h1]
    · cases h
theorem each_of {K : PySem.W.Frag} {H : Hp} {α : List Addr} : ∀ {xs : List D} {vs : List V} {us : List Value}, Rvs K H α xs vs → Vals vs us → PySem.W.EachIs (fun u d => ∃ v, RelV v u ∧ Rv K H α d v) us xs
  | [], vs, us, h, r => by
    simp only [Rvs] at h
    subst h
    cases r
    exact .nil
  | d :: ds, vs, us, h, r => by
    simp only [Rvs] at h
    obtain ⟨v, l, rfl, h1, h2⟩ := h
    cases r with
    | cons a b => exact .cons ⟨v, a, h1⟩ (each_of h2 b)
theorem of_each {K : PySem.W.Frag} {H : Hp} {α : List Addr} : ∀ {xs : List D} {us : List Value}, PySem.W.EachIs (fun u d => ∃ v, RelV v u ∧ Rv K H α d v) us xs → ∃ vs, Rvs K H α xs vs ∧ Vals vs us
  | _, _, .nil => ⟨[], .nil, .nil⟩
  | _, _, .cons ⟨v, a, b⟩ t => by
    obtain ⟨vs, h1, h2⟩ := of_each t
    exact ⟨v :: vs, .cons b h1, .cons a h2⟩
theorem each_reads {h : Heap} : ∀ {xs : List D} {us : List Value} {as : List Addr}, ReadsAll h us (xs.map encD) as → PySem.W.EachIs (fun v b => ∃ as, Reads h v (encD b) as) us xs := fun h => PySem.W.readsAll_each encD h
theorem bif_sorted (hu : X.A.units + 65 < cLine) : BIF X (.builtin "sorted") gSorted := by
  intro pins s σ0 H xs us Q H0 σ α0 α st ds c I rl rx rv eg q
  unfold gSorted at eg
  split at eg
  · simp only [Option.bind_eq_some_iff] at eg
    obtain ⟨ys, e1, ps, e2, e3⟩ := eg
    split at e3
    · rename_i hc
      cases e3
      rw [Bool.and_eq_true, decide_eq_true_eq] at hc
      obtain ⟨hs, hl⟩ := hc
      obtain ⟨v, rfl, rx1⟩ := rx.one
      obtain ⟨u, rfl, rv1⟩ := vals1 rv
      obtain ⟨a, vs, rfl, hq, rr⟩ := asL_ok rl rx1 e1
      cases (show u = Value.ref a from rv1)
      obtain ⟨its, rv2, pl, hz⟩ := I.list hq
      obtain ⟨as, rd, _⟩ := readsL_ok I ys vs its ps rr rv2 e2
      have ep := toPyL_map e2
      subst ep
      unfold sortOk at hs
      simp only [Bool.and_eq_true, Bool.or_eq_true, List.all_eq_true, decide_eq_true_eq] at hs
      obtain ⟨⟨h1, h2⟩, h3⟩ := hs
      refine PySem.W.sorted_data (β := D) (enc := encD) (bs := ys) pl.isList (each_of rr rv2) (each_reads rd) (fun d hd d' hd' => h1 d hd d' hd') ?_ (by rw [sizeLine_eq]; exact hl) (fun b hb => ?_) fun out hlen hout => ?_
      · rcases h2 with h2 | h2
        · refine .inl fun d hd => ?_
          have := h2 d hd
          split at this
          · exact ⟨_, _, rfl⟩
          · cases this
        · refine .inr fun d hd => ?_
          have := h2 d hd
          refine ⟨fun z => ?_, fun xs z => ?_⟩ <;> rw [z] at this <;> cases this
      · have := h3 _ (List.mem_map_of_mem hb)
        omega
      · obtain ⟨ws, r1, r2⟩ := of_each hout
        obtain ⟨ep, he'⟩ := PyProof.Rows.sortedAll_at s.heap its out.toArray
        have hlen2 : ws.length ≤ sizeLine := by rw [r1.length, List.length_mergeSort, sizeLine_eq]; exact hl
        have hn : H (s.heap.objs.size + 1) = none := I.hok.fresh (Nat.le_succ _)
        refine ⟨.ref _, upd H (s.heap.objs.size + 1) (.lst ws), I.laid (t' := s.toks) (fun _ _ => PyProof.Rows.sortedAll_old) (Nat.le_succ _) ⟨hlen2, out, ep, r2, he'⟩, rfl, ?_⟩
        exact new_lst rl hn r1 q
    · cases e3
  · cases eg
end
/-! set of ints, sorted at once -/
def gSortSet : S → D → Option (List Int) := fun s d => (asL s d).bind fun xs => (intsD xs).bind fun ns => if ns.length < 63 then some ns else none
end DL

namespace DL
open PySem PySem.Spec PyProof.Rows L2
variable [DLX]
open Builtin in
/-- the empty set's object -/
abbrev set0 (w : World) : Obj := { cls := .type "set", dict := none, data := .set #[] 0 (.fresh 0 0 (!w.params.followText "set-order")) }
/-- set(l), l a list of ints -/
theorem set_of_list {P : Program} {w : World} {A : Around} {E : Value → Shared → Prop} {s : Shared} {l : Addr} {items : Array Value} (ns : List Int) {Q : Value → Shared → Prop} (hh : A.handled = none) (hl : s.heap.IsList l items) (hit : IntsAre items.toList ns) (hb : ns.length + 1 < scanBound)
    (h : ∀ (h' : Heap) (tk c : Nat), SetR w h' s.heap.objs.size (fun j => decide (j ∈ ns)) c → c ≤ ns.length → (∀ b o, s.heap.get? b = some o → h'.get? b = some o) → Q (.ref s.heap.objs.size) { s with heap := h', toks := tk }) :
    wpAny (model P w) A (call (.type "set") [.ref l]) Q E s := by
  have hisz : items.size = ns.length := by
    have q := IntsAre.length hit
    rwa [Array.length_toList] at q
  obtain ⟨c, tl, hmro⟩ := F.called_set.mro
  have hmade := F.called_set.made
  have hsub := F.called_set.sub
  refine wpAny_call (codeAny_of_tree ?_)
  show wpAny _ _ (callAny (.type "set") _) _ _ _
  refine wpAny_pure ⟨Code.quiet_builtin _ (by decide +kernel), codeAny_builtin F.entry_type_call ?_⟩
  rw [Around.under_plain (weight_type_call_type "set" [.ref l] []) rfl]
  have h1 := F.called_set.notType
  have h2 := F.called_set.canCreate
  have hct := F.typeCall_set_1 (.ref l)
  repeat (any_goals (first | assumption | wp_step))
  refine codeAny_mono (code_set_led1 (.ref l) (E := E) (Q₁ := fun obj s₁ => obj = .ref s.heap.objs.size ∧ s₁ = { s with heap := s.heap.push (set0 w) }) ⟨rfl, rfl⟩) fun r s₁ hr => ?_
  cases r with
  | error e => exact hr
  | ok fl =>
    cases fl with
    | ret obj =>
      obtain ⟨rfl, rfl⟩ := hr
      have hS : (s.heap.push (set0 w)).get? s.heap.objs.size = some (set0 w) := Heap.get?_push_size _ rfl
      have hT : Shared.TypeIs { s with heap := s.heap.push (set0 w) } (.ref s.heap.objs.size) "set" := ⟨_, hS, rfl⟩
      have hli := F.called_set.init.lookup
      have hbi := F.called_set.init.bind (.ref s.heap.objs.size)
      repeat (any_goals (first | assumption | wp_step))
      refine codeAny_mono (codeAny_call_builtin (R := wants (fun r s₂ => r = .none ∧ ∃ h' tk c, s₂ = { s with heap := h', toks := tk } ∧ SetR w h' s.heap.objs.size (fun j => decide (j ∈ ns)) c ∧ c ≤ ns.length ∧
          (∀ b o, s.heap.get? b = some o → h'.get? b = some o)) E) F.called_set.init.plain F.entry_set_init (check_set_init_1 hT ?_)) fun r₂ s₂ hr₂ => ?_
      · obtain ⟨⟨ocls, odict, odata, oslots⟩, hol, hcl, nl, hdl⟩ := hl
        simp only at hcl hdl
        subst hcl hdl
        have hl1 : (s.heap.push (set0 w)).IsList l items := ⟨_, Heap.get?_push_of_some _ hol, rfl, nl, rfl⟩
        have hol' := hl1
        have hsls := F.sub_list_set
        have hslf := F.sub_list_frozenset
        have hne : (Value.type "list" == Value.type "dict") = false := by decide
        have hol2 : (s.heap.push (set0 w)).get? l = some { cls := .type "list", dict := odict, data := .seq items nl, slots := oslots } := Heap.get?_push_of_some _ hol
        unfold Builtin.«set.__init__» noKeywords Builtin.Frozenset.updateFrom
        generalize hPI : pyIter = PI
        wp_walk
        subst hPI
        refine wpAny_pyIter_list hl1 ?_
        refine wpAny_bind (wpAny_runValue ?_)
        have hlS : l < s.heap.objs.size := Heap.lt_size hol
        have hz1 : (s.heap.push (set0 w)).objs.size = s.heap.objs.size + 1 := Heap.size_push ..
        have hval : ∀ (i : Nat) (v : Value), items[i]? = some v → ∃ k t, ns[i]? = some k ∧ v = .int k t := fun i v hv => by
          have hi : i < ns.length := by rw [← hisz]; exact (Array.getElem?_eq_some_iff.mp hv).1
          obtain ⟨t, e⟩ := PyProof.Rows.IntsAre.int_at hit i v (by rw [Array.getElem?_toList]; exact hv)
          refine ⟨ns[i], t, List.getElem?_eq_getElem hi, ?_⟩
          rw [e, List.getD_eq_getElem?_getD, List.getElem?_eq_getElem hi] <;> rfl
        refine set_update_ints ((Walks.list (A := A.in1.in1.in1) (by simp [hh]) _ l (by rw [hz1]; exact nlt 1 hlS) items).toS) s.heap.objs.size
          (by rw [hz1]; intro z; rcases mem2 z with z | z; exact nad 0 1 (by decide) z; exact nlt 0 hlS z.symm) ns hisz hb hval (items.size - 0) 0 _ (by omega) (Nat.zero_le _)
          ⟨⟨_, Heap.get?_push_size _ rfl, rfl, rfl⟩, (hl1.push _)⟩ ⟨0, Nat.le_refl 0, setR_new_at (Heap.get?_push_of_some _ hS)⟩ ?_
        intro s' c' hm hc' hS'
        obtain ⟨h', g2, d', tk', os'⟩ := s'
        have eg : g2 = s.gens := hm.gens
        have ed : d' = s.drawn := hm.drawn
        have eo : os' = s.os := hm.os
        subst eg ed eo
        show wpAny _ _ _ _ _ _
        refine wpAny_pure ?_
        show wpAny _ _ (ret Value.none) _ _ _
        rw [hisz] at hc'
        refine wpAny_pure ⟨rfl, h', tk', c', rfl, hS', hc', fun b o e => ?_⟩
        have hb0 : b < s.heap.objs.size := Heap.lt_size e
        refine hm.heap b o (fun z => ?_) (Heap.get?_push_of_some _ (Heap.get?_push_of_some _ e))
        simp only [List.mem_cons, List.not_mem_nil, or_false] at z
        rcases z with z | z
        · exact nlt 0 hb0 z
        · rw [hz1] at z
          exact nlt 1 hb0 z
      · cases r₂ with
        | error e => exact hr₂
        | ok fl₂ =>
          cases fl₂ with
          | ret r =>
            obtain ⟨rfl, h', tk, c', rfl, hS', hc', hk'⟩ := hr₂
            repeat (any_goals (first | assumption | wp_step))
            exact h _ _ _ hS' hc' hk'
          | next => exact hr₂.elim
          | brk => exact hr₂.elim
          | cont => exact hr₂.elim
    | next => exact hr.elim
    | brk => exact hr.elim
    | cont => exact hr.elim
end DL

namespace DL
open PySem PySem.Spec PyProof.Rows L2
variable [DLX]
def rSetI (K : PySem.W.Frag) (w : World) : List V → Hp → VK → Prop := fun xs H Q => ∃ (l : Addr) (ns : List Int), xs = [.ref l] ∧ SqL K H l (ns.map V.int) ∧ ns.length < 63 ∧ ∀ p c, H p = none → c ≤ ns.length → Q (.ref p) (upd H p (SetO w p (fun j => decide (j ∈ ns)) c))
section
variable {X : Cx}
theorem cr_setI (hc : X.calm = true) : CallR X (.type "set") (rSetI X.K X.w) := by
  intro pins s σ H xs us Q I r h
  obtain ⟨l, ns, rfl, hq, hl, q⟩ := h
  rw [Vals.ref1 r]
  obtain ⟨its, rv, pl, hz⟩ := I.list hq
  refine set_of_list ns (I.ok.hd hc) pl.isList (by simpa using rv.ints) (by unfold scanBound; omega) fun h' tk c R hcn k => ?_
  exact ⟨.ref _, _, I.laid (t' := tk) k (Nat.le_refl _) (setO_new R), rfl, q _ c (I.hok.fresh (Nat.le_refl _)) hcn⟩
end
/-- the members, rising -/
def insU (k : Int) : List Int → List Int
  | [] => [k]
  | n :: ns => if k < n then k :: n :: ns else if k = n then n :: ns else n :: insU k ns
def sortU (ns : List Int) : List Int := ns.foldr insU []
theorem insU_mem {k j : Int} : ∀ {ns : List Int}, j ∈ insU k ns ↔ j = k ∨ j ∈ ns
  | [] => by simp [insU]
  | n :: ns => by
    unfold insU
    split
    · simp
    · split
      · rename_i h
        subst h
        simp
      · simp only [List.mem_cons, insU_mem]
        constructor
        · rintro (h | h | h) <;> simp [h]
        · rintro (h | h | h) <;> simp [h]
theorem insU_sorted {k : Int} : ∀ {ns : List Int}, ns.Pairwise (· < ·) → (insU k ns).Pairwise (· < ·)
  | [], _ => by simp [insU]
  | n :: ns, h => by
    rw [List.pairwise_cons] at h
    unfold insU
    split
    · rename_i hk
      rw [List.pairwise_cons]
      refine ⟨fun a ha => ?_, List.pairwise_cons.mpr h⟩
      rcases List.mem_cons.mp ha with rfl | ha
      · exact hk
      · have := h.1 a ha
        omega
    · split
      · exact List.pairwise_cons.mpr h
      · rename_i h1 h2
        rw [List.pairwise_cons]
        refine ⟨fun a ha => ?_, insU_sorted h.2⟩
        rcases insU_mem.mp ha with rfl | ha
        · omega
        · exact h.1 a ha
theorem sortU_mem {j : Int} : ∀ {ns : List Int}, j ∈ sortU ns ↔ j ∈ ns
  | [] => by simp [sortU]
  | n :: ns => by
    show j ∈ insU n (sortU ns) ↔ _
    rw [insU_mem, sortU_mem, List.mem_cons]
theorem sortU_sorted : ∀ {ns : List Int}, (sortU ns).Pairwise (· < ·)
  | [] => List.Pairwise.nil
  | n :: ns => insU_sorted (ns := sortU ns) sortU_sorted
theorem rising_uniq : ∀ {as bs : List Int}, as.Pairwise (· < ·) → bs.Pairwise (· < ·) → (∀ j, j ∈ as ↔ j ∈ bs) → as = bs
  | [], [], _, _, _ => rfl
  | [], b :: bs, _, _, h => by have := (h b).mpr (by simp); simp at this
  | a :: as, [], _, _, h => by have := (h a).mp (by simp); simp at this
  | a :: as, b :: bs, h1, h2, h => by
    rw [List.pairwise_cons] at h1 h2
    have e : a = b := by
      have x := (h a).mp (by simp)
      have y := (h b).mpr (by simp)
      rcases List.mem_cons.mp x with x | x
      · exact x
      · rcases List.mem_cons.mp y with y | y
        · exact y.symm
        · have := h2.1 a x
          have := h1.1 b y
          omega
    subst e
    congr 1
    refine rising_uniq h1.2 h2.2 fun j => ⟨fun hj => ?_, fun hj => ?_⟩
    · rcases List.mem_cons.mp ((h j).mp (List.mem_cons_of_mem _ hj)) with z | z
      · have := h1.1 j hj
        omega
      · exact z
    · rcases List.mem_cons.mp ((h j).mpr (List.mem_cons_of_mem _ hj)) with z | z
      · have := h2.1 j hj
        omega
      · exact z
/-- sorted(set(e)) -/
def dSortSet (fa : FE) : FC := fun s => (fa s).bind fun d s1 => match (asL s1 d).bind intsD with | some ns => if ns.length < 63 then .ok (.lst ((sortU ns).map .int)) s1 else .bad | none => .bad
section
variable {X : Cx}
theorem rvs_map_int {K : PySem.W.Frag} {H : Hp} {α : List Addr} : ∀ (ns : List Int), Rvs K H α (ns.map D.int) (ns.map V.int)
  | [] => .nil
  | n :: ns => .cons (by simp only [Rv]) (rvs_map_int ns)
theorem pf_sortSet {e : Expr} {p p2 q pos : Pos} {fa : FE} (hc : X.calm = true) (hg : Gl X "sorted") (hm : X.mg "sorted" = none) (hg2 : Gl X "set") (hm2 : X.mg "set" = none) (ha : PED X e fa)
    (he1 : starEach [.Call (.Name "set" p2) [e] [] q] X.env = (false, eval (.Call (.Name "set" p2) [e] [] q) X.env) :: starEach [] X.env := by rfl)
    (he : starEach [e] X.env = (false, eval e X.env) :: starEach [] X.env := by rfl) : PFD X (.Call (.Name "sorted" p) [.Call (.Name "set" p2) [e] [] q] [] pos) (dSortSet fa) := by
  refine ⟨fun W tk => ?_⟩
  obtain ⟨t, pe, qe⟩ := ha.run W tk
  refine ⟨_, pe_callB (cr_sortedSet hc) hg hm rfl (pa_cons (pe_callTy (cr_setI hc) hg2 hm2 rfl (pa_cons pe pa_nil he) (by decide) (by decide) he rfl) pa_nil he1) (by decide) (by decide) he1 rfl, fun H0 α0 σ H α s Q r k => qe H0 α0 σ H α s _ r ?_⟩
  unfold dSortSet at k
  cases ea : fa s with
  | bad => rw [ea] at k; exact k.elim
  | exc e s1 => rw [ea] at k; exact k
  | ok d s1 =>
    rw [ea] at k
    intro v H1 α1 r1 t1 rv
    simp only [Res.bind] at k
    cases en : (asL s1 d).bind intsD with
    | none => rw [en] at k; exact k.elim
    | some ns =>
      rw [en] at k
      simp only at k
      split at k
      · rename_i hl
        rw [Option.bind_eq_some_iff] at en
        obtain ⟨ys, e1, e2⟩ := en
        obtain ⟨a, vs, rfl, hs, rr⟩ := asL_ok r1 rv e1
        obtain rfl := rvs_ints ys e2 rr
        refine ⟨a, ns, rfl, hs, hl, fun p c hp hcl => ?_⟩
        have t2 : Stay H1 α1 (upd H1 p (SetO X.w p (fun j => decide (j ∈ ns)) c)) α1 := Stay.upd_new hp
        have r2 := r1.new (o := SetO X.w p (fun j => decide (j ∈ ns)) c) hp
        refine ⟨p, _, c, rfl, upd_same, by omega, fun ns' l h1 h2 h3 hl => ?_⟩
        have e : ns' = sortU ns := rising_uniq h1 sortU_sorted fun j => by rw [h2 j, sortU_mem, decide_eq_true_eq]
        subst e
        exact new_lst r2 hl (rvs_map_int _) fun a H' α' r' t' rf => k a H' α' r' ((t1.trans t2).trans t') rf
      · exact k.elim
end
end DL

namespace DL
open PySem PySem.Spec PyProof.Rows L2
variable [DLX]
/-! ### 30. A slot's thing given away; three targets at once -/
def dTake (i : Nat) : FC := fun s => match s.δ[i]? with
  | some (.own c) => .ok c { s with δ := s.δ.set i .no }
  | _ => .bad
section
variable {X : Cx}
theorem pf_take (i : Nat) {e : Expr} (h : PE X e (tVar i)) : PFD X e (dTake i) := ⟨fun W _ => ⟨_, h, fun H0 α0 σ H α s Q r q => by
  unfold dTake at q
  cases e : s.δ[i]? with
  | none => rw [e] at q; exact q.elim
  | some sl =>
    rw [e] at q
    cases sl with
    | no => exact q.elim
    | val d => exact q.elim
    | own c =>
      obtain ⟨a, h1, h2, h3⟩ := r.giveUp e
      exact ⟨_, h1, q a H α h2 (Stay.refl _ _) h3⟩⟩⟩
def dPar3 (i j l : Nat) (fa : FA) : FS := fun s => match fa s with
  | .ok [a, b, c] s1 => if noOwn a && noOwn b && noOwn c then .nx { s1 with δ := ((s1.δ.set i (.val a)).set j (.val b)).set l (.val c) } else .bad
  | .exc e s1 => .exc e s1
  | _ => .bad
theorem sd_par3 {es : List Expr} {st : Stmt} {i j l : Nat} {fa : FA} (hp : ∀ ta, PA X es ta → PS X st (tPar3 i j l ta)) (ha : PAD X es fa) : PSD X st (dPar3 i j l fa) := by
  refine ⟨fun W tk => ?_⟩
  obtain ⟨t, p, q⟩ := ha.run W tk
  refine ⟨_, hp t p, fun H0 α0 σ H α s D r k => q H0 α0 σ H α s _ r ?_⟩
  unfold dPar3 at k
  cases ea : fa s with
  | bad => rw [ea] at k; exact k.elim
  | exc e s1 => rw [ea] at k; exact fun cls dd H' α' r' x => k cls dd σ H' α' r' x
  | ok ds s1 =>
    rw [ea] at k
    intro vs H1 α1 r1 t1 rv
    match ds, vs, rv with
    | [], _, _ => exact k.elim
    | [_], _, _ => exact k.elim
    | [_, _], _, _ => exact k.elim
    | [a, b, c], [u, v, w], .cons ra (.cons rb (.cons rc .nil)) =>
      simp only at k
      split at k
      · rename_i hn
        simp only [Bool.and_eq_true] at hn
        exact ⟨u, v, w, rfl, k _ H1 α1 (((r1.setV (noOwn_rv ra hn.1.1)).setV (noOwn_rv rb hn.1.2)).setV (noOwn_rv rc hn.2)) t1⟩
      · exact k.elim
    | _ :: _ :: _ :: _ :: _, _, _ => exact k.elim
end
end DL

namespace DL
open PySem PySem.Spec PyProof.Rows L2
variable [DLX]
theorem room_u {k : Nat} {A : Around} (h : Room k A) : A.units + 65 < cLine := by
  have := h.un
  omega
/-! ### 31. A fresh sum of lists; sorted with a key -/
def dCat (fa fb : FE) : FC := fun s => (fa s).bind fun a s1 => (fb s1).bind fun b s2 => match asL s2 a, asL s2 b with
  | some x, some y => if x.length + y.length ≤ 16777216 then .ok (.lst (x ++ y)) s2 else .bad
  | _, _ => .bad
/-- two expressions, then k, to a fresh thing -/
theorem two_runF {X : Cx} {fa fb : FE} {W : WX} {ta tb : TE} (ha : ∀ H0 α0 σ H α s Q, Rel X.K H0 α0 H α σ s → PostE X.K H0 α0 σ W H α Q (fa s) → ta σ H Q)
    (hb : ∀ H0 α0 σ H α s Q, Rel X.K H0 α0 H α σ s → PostE X.K H0 α0 σ W H α Q (fb s) → tb σ H Q) {H0 : Hp} {α0 : List Addr} {σ : Sg} {H : Hp} {α : List Addr} {s : S} {Q : VK} {k : D → D → S → Res Cell} {R : V → V → Hp → Prop} (r : Rel X.K H0 α0 H α σ s)
    (q : PostF X.K H0 α0 σ W H α Q ((fa s).bind fun a s1 => (fb s1).bind fun b s2 => k a b s2))
    (hk : ∀ a b x y s2 H2 α2, Rel X.K H0 α0 H2 α2 σ s2 → Stay H α H2 α2 → Rx X.K H2 α2 σ a x → Rx X.K H2 α2 σ b y → PostF X.K H0 α0 σ W H α Q (k a b s2) → R x y H2) : ta σ H fun x H1 => tb σ H1 fun y H2 => R x y H2 := by
  refine ha H0 α0 σ H α s _ r ?_
  cases ea : fa s with
  | bad => rw [ea] at q; exact q.elim
  | exc e s1 => rw [ea] at q; exact q
  | ok a s1 =>
    rw [ea] at q
    intro x H1 α1 r1 t1 rx
    refine hb H0 α0 σ H1 α1 s1 _ r1 ?_
    have q' : PostF X.K H0 α0 σ W H α Q ((fb s1).bind fun b s2 => k a b s2) := q
    cases eb : fb s1 with
    | bad => rw [eb] at q'; exact q'.elim
    | exc e s2 => rw [eb] at q'; exact q'
    | ok b s2 =>
      rw [eb] at q'
      intro y H2 α2 r2 t2 ry
      exact hk a b x y s2 H2 α2 r2 (t1.trans t2) (rx.stay t2) ry q'
section
variable {X : Cx}
theorem pf_cat {a b : Expr} {pos : Pos} {fa fb : FE} (ha : PED X a fa) (hb : PED X b fb) : PFD X (.BinOp a .Add b pos) (dCat fa fb) := by
  refine ⟨fun W tk => ?_⟩
  obtain ⟨ta, pa, qa⟩ := ha.run W tk
  obtain ⟨tb, pb, qb⟩ := hb.run W tk
  refine ⟨_, pe_op op_catS pa pb, fun H0 α0 σ H α s Q r q => ?_⟩
  refine two_runF (W := W) qa qb r q fun u w x y s2 H2 α2 r2 t2 rx ry q2 => ?_
  split at q2
  · rename_i xs ys e1 e2
    split at q2
    · rename_i hz
      rw [← sizeLine_eq] at hz
      obtain ⟨p, vs, rfl, h1, r1⟩ := asL_ok r2 rx e1
      obtain ⟨p2, vs2, rfl, h2, r2'⟩ := asL_ok r2 ry e2
      exact ⟨p, p2, vs, vs2, rfl, rfl, h1, h2, by rw [r1.length, r2'.length]; exact hz, fun l hl => new_lst r2 hl (r1.append r2') fun a H' α' r' t' rf => q2 a H' α' r' (t2.trans t') rf⟩
    · exact q2.elim
  · exact q2.elim
end
def keysI (F : FF) : List D → List Cell → Option (List Int × List Cell)
  | [], μ => some ([], μ)
  | x :: xs, μ => match F [x] μ with
    | .ok (.int k) μ' => (keysI F xs μ').map fun r => (k :: r.1, r.2)
    | _ => none
def dSortKey (F : FF) (fa : FE) : FC := fun s => (fa s).bind fun d s1 => match asL s1 d with
  | some xs => if xs.length ≤ 16777216 then (match keysI F xs s1.μ with
    | some (ks, μ) => .ok (.lst (((ks.zip xs).mergeSort fun p q => decide (p.1 ≤ q.1)).map (·.2))) { s1 with μ := μ }
    | none => .bad) else .bad
  | none => .bad
end DL

namespace DL
open PySem PySem.Spec PyProof.Rows L2
variable [DLX]
/-! ### 33. sorted(xs, key=f), f a def -/
/-- the context within a built-in's work, where nothing is raised -/
def inn (X : Cx) : Cx := { X with A := X.A.in1.in1, xe := fun _ _ => False }
section
variable {X : Cx} {pins : List (Addr × Obj)} {σ0 : Sg} {H : Hp} {s : Shared}
theorem inn_to (I : Inv X pins σ0 H s) : Inv (inn X) pins σ0 H s :=
  ⟨⟨I.ok.mod, I.ok.kind, I.ok.glob, I.ok.blt, I.ok.above, I.ok.inj, I.ok.has, I.ok.cab, I.ok.hd, I.ok.frames, I.ok.stk, I.ok.exf, I.ok.bs, I.ok.bsz, I.ok.noex, I.ok.exfs, I.ok.funs, I.ok.frf⟩, I.os, I.bare, I.base, I.loc, I.cell, I.free, I.freeC, I.pin, I.hok, I.len⟩
theorem inn_of (ok : X.Ok) (I : Inv (inn X) pins σ0 H s) : Inv X pins σ0 H s := ⟨ok, I.os, I.bare, I.base, I.loc, I.cell, I.free, I.freeC, I.pin, I.hok, I.len⟩
theorem key_call {k : Nat} {f : Addr} {fd : FuncData} {ps : List Str} {F : FF} (F3 : FnG X.prog X.w X.K X.mg X.base k f fd ps (spD X.K 1 F)) (hb : Binds X.K fd ps []) (hr : Room k (inn X).A) (hgu : X.A.guards = some []) {H0 : Hp} {α0 α : List Addr} {σ : Sg} {st : S} {d : D} {v : V} {u : Value} {i : Int} {μ' : List Cell}
    (I : Inv (inn X) pins σ0 H s) (rl : Rel X.K H0 α0 H α σ st) (rv : Rv X.K H α d v) (ru : RelV v u) (e : F [d] st.μ = .ok (.int i) μ') :
    wpAny (model X.prog X.w) X.A.in1.in1 (call (.ref f) [u]) (fun w s' => ∃ t H' α', w = .int i t ∧ Inv (inn X) pins σ0 H' s' ∧ Rel X.K H0 α0 H' α' σ { st with μ := μ' } ∧ Stay H α H' α') (fun _ _ => False) s := by
  refine wpAny_mono (run_fnG (X := inn X) (E := WE fun _ _ _ _ => False) (Q := fun w H' => w = .int i ∧ ∃ α', Rel X.K H0 α0 H' α' σ { st with μ := μ' } ∧ Stay H α H' α') F3 hr hgu hb (passAt Takes.none σ0) I (.cons ru .nil) ⟨rfl, α, [d], st.μ, rl.cells, .single rv, ?_⟩) (fun w s' h => ?_) fun _ _ z => z
  · rw [e]
    intro w H' α' tc rc rw
    simp only [Rv] at rw
    exact ⟨rw, α', rl.after tc rc, tc.st⟩
  · obtain ⟨w', H', I', r', rfl, α', h1, h2⟩ := h
    obtain ⟨t, rfl⟩ := r'
    exact ⟨t, H', α', rfl, I', h1, h2⟩
end
theorem hok_add {P : Program} {w : World} {H : Hp} {h : Heap} {a : Addr} {o : HO} (x : HOk P w H h) (hn : H a = none) (new : ObjOk P w (upd H a o) h a o) : HOk P w (upd H a o) h := fun b u e => by
  by_cases hb : b = a
  · subst hb
    rw [upd_same] at e
    cases e
    exact new
  · rw [upd_ne hb] at e
    refine (x b u e).stay (fun c v _ q => q) (fun c q => ?_) fun c xs q => ?_
    · rw [upd_ne (ne_of_none q hn)]; exact q
    · rw [upd_ne (ne_of_none q hn)]; exact q
theorem vals_get' : ∀ {xs : List V} {us : List Value} {i : Nat} {u : Value}, Vals xs us → us[i]? = some u → ∃ x, xs[i]? = some x ∧ RelV x u
  | _, _, i, u, .nil, e => by simp at e
  | _, _, 0, u, .cons a b, e => by simp at e; subst e; exact ⟨_, rfl, a⟩
  | _, _, i + 1, u, .cons a b, e => by simpa using vals_get' (i := i) b (by simpa using e)
theorem keysI_len {F : FF} : ∀ {xs : List D} {μ : List Cell} {ks : List Int} {μ' : List Cell}, keysI F xs μ = some (ks, μ') → ks.length = xs.length
  | [], μ, ks, μ', h => by cases h; rfl
  | x :: xs, μ, ks, μ', h => by
    unfold keysI at h
    split at h
    · simp only [Option.map_eq_some_iff] at h
      obtain ⟨r, h1, h2⟩ := h
      cases h2
      simp [keysI_len (μ' := r.2) (ks := r.1) h1]
    · cases h
theorem keysI_cons {F : FF} {x : D} {xs : List D} {μ : List Cell} {ks : List Int} {μ' : List Cell} (h : keysI F (x :: xs) μ = some (ks, μ')) : ∃ k r μ1, ks = k :: r ∧ F [x] μ = .ok (.int k) μ1 ∧ keysI F xs μ1 = some (r, μ') := by
  unfold keysI at h
  split at h
  · rename_i k μ1 e
    simp only [Option.map_eq_some_iff] at h
    obtain ⟨r, h1, h2⟩ := h
    cases h2
    exact ⟨k, r.1, μ1, rfl, e, h1⟩
  · cases h
theorem each_zip {K : PySem.W.Frag} {H : Hp} {α : List Addr} : ∀ {xs : List D} {vs : List V} {us : List Value} (ks : List Int), ks.length = xs.length → Rvs K H α xs vs → Vals vs us → PySem.W.EachIs (fun u (p : Int × D) => ∃ v, RelV v u ∧ Rv K H α p.2 v) us (ks.zip xs)
  | [], vs, us, ks, hl, h, r => by
    simp only [Rvs] at h
    subst h
    cases r
    rw [List.zip_nil_right]
    exact .nil
  | d :: ds, vs, us, [], hl, h, r => by simp at hl
  | d :: ds, vs, us, k :: ks, hl, h, r => by
    simp only [Rvs] at h
    obtain ⟨v, l, rfl, h1, h2⟩ := h
    cases r with
    | cons a b =>
      rw [List.zip_cons_cons]
      exact .cons ⟨v, a, h1⟩ (each_zip ks (by simpa using hl) h2 b)
theorem of_zip {K : PySem.W.Frag} {H : Hp} {α : List Addr} : ∀ {ps : List (Int × D)} {us : List Value}, PySem.W.EachIs (fun u (p : Int × D) => ∃ v, RelV v u ∧ Rv K H α p.2 v) us ps → ∃ vs, Rvs K H α (ps.map (·.2)) vs ∧ Vals vs us
  | _, _, .nil => ⟨[], .nil, .nil⟩
  | _, _, .cons ⟨v, a, b⟩ t => by
    obtain ⟨vs, h1, h2⟩ := of_zip t
    exact ⟨v :: vs, .cons b h1, .cons a h2⟩
theorem ints_reads {h : Heap} : ∀ {vs : List Value} {ks : List Int}, IntsAre vs ks → PySem.W.EachIs (fun v d => ∃ as, Reads h v d as) vs (ks.map PyData.int)
  | _, _, .nil => .nil
  | _, _, .cons n t r => .cons ⟨[], .int n t⟩ (ints_reads r)
/-- what sorted(xs, key=f) wants -/
def rSK (K : PySem.W.Frag) (F : FF) (f : Addr) : List V → List V → Hp → VK → Prop := fun vs zs H Q => zs = [.ref f] ∧ ∃ H0 σ α0 α st d xs ks μ', Rel K H0 α0 H α σ st ∧ Rxs K H α σ [d] vs ∧ asL st d = some xs ∧ xs.length ≤ 16777216 ∧ keysI F xs st.μ = some (ks, μ') ∧
  ∀ a H' α', Rel K H0 α0 H' α' σ { st with μ := μ' } → Stay H α H' α' → RF K H0 H' α' σ { st with μ := μ' } a (.lst (((ks.zip xs).mergeSort fun p q => decide (p.1 ≤ q.1)).map (·.2))) → Q (.ref a) H'
theorem cr_sk {X : Cx} {k : Nat} {f : Addr} {fd : FuncData} {ps : List Str} {F : FF} (F3 : FnG X.prog X.w X.K X.mg X.base k f fd ps (spD X.K 1 F)) (hb : Binds X.K fd ps []) (hr : Room (k + 1) X.A) (hgu : X.A.guards = some []) : CallRK X (.builtin "sorted") [Str.ofString "key"] (rSK X.K F f) := by
  intro pins s σ0 H xs0 zs us ws Q I rv rz h
  obtain ⟨rfl, H0, σ, α0, α, st, d, xs, ks, μ', rl, rx, ea, hlen, ek, q⟩ := h
  obtain ⟨v, rfl, rx1⟩ := rx.one
  obtain ⟨u, rfl, rv1⟩ := vals1 rv
  obtain ⟨z, rfl, rz1⟩ := vals1 rz
  cases (show z = Value.ref f from rz1)
  obtain ⟨l, vs, rfl, hq, rr⟩ := asL_ok rl rx1 ea
  cases (show u = Value.ref l from rv1)
  obtain ⟨its, rv2, pl, hz⟩ := I.list hq
  have kl := keysI_len ek
  have il : its.length = xs.length := by rw [← rv2.length, rr.length]
  have hL : its.length ≤ sizeLine := by rw [il, sizeLine_eq]; exact hlen
  have hr' : Room k (inn X).A := ⟨hr.hd, by have := hr.dp; show X.A.depth + 3 * k + 5 < _; omega, by have := hr.un; show X.A.units + 1 + 1 + 16 * k + 200 < _; omega⟩
  show wpAny (model X.prog X.w) X.A (call (.builtin "sorted") [.ref l] [(Str.ofString "key", .ref f)]) _ _ _
  refine PySem.W.sorted_of_sort pl.isList hL (by unfold argsOk; kernel_rfl) (fun x => by unfold argsOk; kernel_rfl) fun E' => ?_
  rw [ksk_t1]
  have ho := PySem.W.copyHeap_at s.heap its
  generalize ha : s.heap.objs.size + 1 = a at ho ⊢
  have old0 : ∀ b o, s.heap.get? b = some o → (PySem.W.copyHeap s.heap its).get? b = some o := fun b o e => PySem.W.copyHeap_old e
  generalize PySem.W.copyHeap s.heap its = hc at ho old0 ⊢
  have alt : a < hc.objs.size := Heap.lt_size ho
  obtain ⟨e1, ho1⟩ : ∃ e1, (hc.update a (Obj.mapSeq fun _ => (#[] : Array Value))).get? a = some (seqObj "list" #[] e1) := ⟨_, get?_update_seq ho fun _ => #[]⟩
  have sz : ((hc.update a (Obj.mapSeq fun _ => (#[] : Array Value))).push (seqObj "tuple" its.toArray 0)).objs.size = hc.objs.size + 1 := by rw [size_push', Heap.size_update]
  unfold ksk_tree
  refine wpAny_bind (listItems_at ho rfl ?_)
  refine wpAny_bind (listUpdate_at ho rfl ?_ (by rw [List.size_toArray]; exact hL) (Nat.zero_le _))
  refine wpAny_bind (seqEpoch_at ho1 rfl ?_)
  refine wpAny_bind (wpAny_newTuple ?_ (by show its.length ≤ _; exact hL))
  refine wpAny_bind (wpAny_newList ?_ (Nat.zero_le _))
  refine wpAny_holding ?_
  have nk0 := Heap.get?_push_size ((hc.update a (Obj.mapSeq fun _ => (#[] : Array Value))).push (seqObj "tuple" its.toArray 0)) (o := seqObj "list" #[] 0) rfl
  have na0 : (((hc.update a (Obj.mapSeq fun _ => (#[] : Array Value))).push (seqObj "tuple" its.toArray 0)).push (seqObj "list" #[] 0)).get? a = some (seqObj "list" #[] e1) := Heap.get?_push_of_some _ (Heap.get?_push_of_some _ ho1)
  have old2 : ∀ b o, s.heap.get? b = some o → (((hc.update a (Obj.mapSeq fun _ => (#[] : Array Value))).push (seqObj "tuple" its.toArray 0)).push (seqObj "list" #[] 0)).get? b = some o := fun b o e => by
    have nb : b ≠ a := by rw [← ha]; exact nlt 1 (Heap.lt_size e)
    exact Heap.get?_push_of_some _ (Heap.get?_push_of_some _ ((Heap.get?_update_ne _ _ _ _ nb).trans (old0 b o e)))
  rw [sz] at nk0 ⊢
  generalize ((hc.update a (Obj.mapSeq fun _ => (#[] : Array Value))).push (seqObj "tuple" its.toArray 0)).push (seqObj "list" #[] 0) = h2 at nk0 na0 old2 ⊢
  generalize hkS : hc.objs.size + 1 = kS at nk0 ⊢
  have hka : kS ≠ a := by rw [← hkS]; exact (nlt 1 alt).symm
  have ka : s.heap.objs.size ≤ a := by rw [← ha]; exact Nat.le_add_right _ _
  have kk : s.heap.objs.size ≤ kS := Nat.le_trans ka (by rw [← hkS]; exact Nat.le_succ_of_le (Nat.le_of_lt alt))
  have fpa : ∀ (b : Addr) (H' : Hp), s.heap.objs.size ≤ b → H' b = none → FpOk X pins H' b := fun b H' h1 h2 => I.fpOk h1 h2
  have I2 : Inv (inn X) pins σ0 H { s with heap := h2 } := inn_to (I.kept (t' := s.toks) old2)
  have seqNo : ∀ (n : String) (xs : Array Value) (e : Nat) (w : Option Value), (seqObj n xs e).data ≠ .cell w := fun n xs e w z => nomatch z
  have pinned : ∀ {H' : Hp} {s' : Shared} {kA : Array Value} {e : Nat}, Inv (inn X) pins σ0 H' s' → H' kS = none → H' a = none → s'.heap.get? kS = some (seqObj "list" kA e) → s'.heap.get? a = some (seqObj "list" #[] e1) → Inv (inn X) ((kS, seqObj "list" kA e) :: (a, seqObj "list" #[] e1) :: pins) σ0 H' s' := fun {H' s' kA e} J n1 n2 g1 g2 => J.pins_of fun p hp => by
    rcases List.mem_cons.mp hp with rfl | hp
    · have q := fpa kS H' kk n1
      exact ⟨g1, q.1, q.2.1, q.2.2.1, seqNo _ _ _⟩
    · rcases List.mem_cons.mp hp with rfl | hp
      · have q := fpa a H' ka n2
        exact ⟨g2, q.1, q.2.1, q.2.2.1, seqNo _ _ _⟩
      · exact J.pin p (List.mem_append_right _ hp)
  have unp : ∀ {H' : Hp} {s' : Shared} {kA : Array Value} {e : Nat}, Inv (inn X) ((kS, seqObj "list" kA e) :: (a, seqObj "list" #[] e1) :: pins) σ0 H' s' → Inv (inn X) pins σ0 H' s' ∧ H' kS = none ∧ H' a = none ∧ s'.heap.get? kS = some (seqObj "list" kA e) ∧ s'.heap.get? a = some (seqObj "list" #[] e1) := fun {H' s' kA e} J =>
    ⟨J.pins_of fun p hp => J.pin p (List.mem_append_right _ (List.mem_cons_of_mem _ (List.mem_cons_of_mem _ hp))), (J.pin _ (List.mem_append_right _ List.mem_cons_self)).2.1, (J.pin _ (List.mem_append_right _ (List.mem_cons_of_mem _ List.mem_cons_self))).2.1,
      (J.pin _ (List.mem_append_right _ List.mem_cons_self)).1, (J.pin _ (List.mem_append_right _ (List.mem_cons_of_mem _ List.mem_cons_self))).1⟩
  unfold ksk_rest
  refine wpAny_bind (wpAny_rule ?_)
  first
    | rw [List.forIn_toArray]
    | (rw [← Array.forIn_toList]; simp only [List.toList_toArray])
  refine wpAny_bind (ksk_fold (fun i s' => ∃ H' α' μi kA e, Inv (inn X) ((kS, seqObj "list" kA e) :: (a, seqObj "list" #[] e1) :: pins) σ0 H' s' ∧ Rel X.K H0 α0 H' α' σ { st with μ := μi } ∧ Stay H α H' α' ∧ IntsAre kA.toList (ks.take i) ∧ keysI F (xs.drop i) μi = some (ks.drop i, μ')) its 0 _
    ⟨H, α, st.μ, #[], 0, pinned I2 (I.hok.fresh kk) (I.hok.fresh ka) nk0 na0, rl, Stay.refl _ _, by rw [List.take_zero]; exact .nil, by rw [List.drop_zero, List.drop_zero]; exact ek⟩ ?step ?done)
  case step =>
    rintro j x s' hx ⟨H', α', μi, kA, e, J, rl', t', hk, ek'⟩
    simp only [Nat.zero_add] at hk ek' ⊢
    have hj : j < its.length := (List.getElem?_eq_some_iff.mp hx).1
    obtain ⟨v, ev, rvx⟩ := vals_get' rv2 hx
    obtain ⟨dx, ed, rdx⟩ := rr.at' ev
    have hdx : xs.drop j = dx :: xs.drop (j + 1) := by
      have hj' := (List.getElem?_eq_some_iff.mp ed)
      rw [List.drop_eq_getElem_cons hj'.1, hj'.2]
    rw [hdx] at ek'
    obtain ⟨k1, r1, μ1, e3, e4, e5⟩ := keysI_cons ek'
    have hkz : kA.size ≤ its.length := by
      have h1 := hk.length
      rw [Array.length_toList, List.length_take] at h1
      omega
    refine wpAny_bind (wpAny_attempt (wpAny_mono (key_call F3 hb hr' hgu J rl' (Rv.stay t' _ _ rdx) rvx e4) (fun w s'' he => ?_) fun _ _ z => z.elim))
    obtain ⟨tk, H2, α2, rfl, J2, rl2, t2⟩ := he
    obtain ⟨J3, n1, n2, g1, g2⟩ := unp J2
    have s1 := Heap.SameBut.update s''.heap kS (Obj.mapSeq (·.push (.int k1 tk)))
    obtain ⟨c2, hc2⟩ : ∃ c2, (s''.heap.update kS (Obj.mapSeq (·.push (.int k1 tk)))).get? kS = some (seqObj "list" (kA.push (.int k1 tk)) c2) := ⟨_, get?_update_seq g1 (·.push (.int k1 tk))⟩
    refine wpAny_bind (listUpdate_at g1 rfl ?_ (Nat.le_trans hkz hL) (Nat.le_trans (Nat.le_of_eq (Array.size_push ..)) (Nat.succ_le_succ (Nat.le_trans hkz hL))))
    refine wpAny_pure ⟨rfl, H2, α2, μ1, kA.push (.int k1 tk), c2, pinned ?_ n1 n2 hc2 ((s1.2 a hka.symm).trans g2), rl2, t'.trans t2, ?_, ?_⟩
    · exact J3.turnedL (t' := s''.toks) (ch := [kS]) (fun b o hb e => (s1.2 b (fun z => hb (by simp [z]))).trans e) fun b hb => by
        have : b = kS := by simpa using hb
        subst this
        exact fpa b H2 kk n1
    · have ekj : ks[j]? = some k1 := by
        have := congrArg (·[0]?) e3
        simpa using this
      have ea2 : (kA.push (.int k1 tk)).toList = kA.toList ++ [.int k1 tk] := by simp
      rw [ea2, List.take_add_one, ekj]
      exact ksk_snoc hk
    · have : ks.drop (j + 1) = r1 := by
        have := congrArg (·.drop 1) e3
        simpa using this
      rw [this]
      exact e5
  case done =>
    rintro s' ⟨H', α', μi, kA, e, J, rl', t', hk, ek'⟩
    simp only [Nat.zero_add] at hk ek'
    rw [show xs.drop its.length = [] from List.drop_of_length_le (by omega)] at ek'
    have em : μi = μ' := by
      have h9 := Option.some.inj ek'
      exact (Prod.ext_iff.mp h9).2
    subst em
    rw [List.take_of_length_le (by omega)] at hk
    obtain ⟨J3, n1, n2, g1, g2⟩ := unp J
    have hsz : kA.size = its.length := by
      have h1 := hk.length
      rw [Array.length_toList] at h1
      omega
    obtain ⟨G, gp, gn⟩ := restrict s'.heap fun b => decide (b ≠ kS)
    refine wpAny_bind (listItems_at g1 rfl ?_)
    have al : PySem.W.AllAlike (ks.map PyData.int) := fun d hd d' hd' => by
      obtain ⟨i, _, rfl⟩ := List.mem_map.mp hd
      obtain ⟨i', _, rfl⟩ := List.mem_map.mp hd'
      rfl
    have hur : X.A.units + 1 + 1 < cLine := by have := hr.un; omega
    refine PySem.W.keyH_end (κ := PySem.W.dataKind s'.heap (ks.map PyData.int)) (h₁ := G) (fun b o _ e => ?_) (gn kS (by simp)) g1 g2 hka (PySem.W.SortsAt.data (s := s') (ints_reads hk) al (.inr fun d hd => ?_) fun d hd => ?_) hsz hL fun h3 tk3 c k3 n3 => ⟨rfl, ?_⟩
    · by_cases hb : b = kS
      · subst hb
        rw [gn b (by simp)] at e
        cases e
      · rw [gp b (by simpa using hb)] at e
        exact e
    · obtain ⟨i, _, rfl⟩ := List.mem_map.mp hd
      exact ⟨(fun z => nomatch z), (fun _ z => nomatch z)⟩
    · obtain ⟨i, _, rfl⟩ := List.mem_map.mp hd
      show X.A.units + 1 + 1 + 0 < cLine
      omega
    · have keep : ∀ b o, b ≠ kS → b ≠ a → s'.heap.get? b = some o → h3.get? b = some o := fun b o h1 h2 e => k3 b o h2 (by rw [gp b (by simpa using h1)]; exact e)
      have J4 : Inv (inn X) pins σ0 H' { s' with heap := h3, toks := tk3 } := J3.turnedL (t' := tk3) (ch := [kS, a]) (fun b o hb e => keep b o (fun z => hb (by simp [z])) (fun z => hb (by simp [z])) e) fun b hb => by
        rcases mem2 hb with z | z
        · rw [z]; exact fpa kS H' kk n1
        · rw [z]; exact fpa a H' ka n2
      have bm : (ks.zip xs).map (fun p : Int × D => PyData.int p.1) = ks.map PyData.int := by
        show (ks.zip xs).map (PyData.int ∘ Prod.fst) = _
        rw [← List.map_map, List.map_fst_zip (by omega)]
      have outE := PySem.W.keyedOut_each (rev := false) (fun p : Int × D => PyData.int p.1) (bs := ks.zip xs) (R := fun u p => ∃ v, RelV v u ∧ Rv X.K H' α' p.2 v) (vs := its) (out := PySem.W.sortVals (PySem.W.dataKind s'.heap (ks.map PyData.int)) false kA.toList its) (by rw [bm]; exact ⟨s'.heap, kA.toList, al, rfl, ints_reads hk⟩) ((each_zip ks kl rr rv2).mono fun u p ⟨v, h1, h2⟩ => ⟨v, h1, Rv.stay t' _ _ h2⟩)
      rw [PySem.W.dataLe_int] at outE
      obtain ⟨ws, w1, w2⟩ := of_zip outE
      have wl : ws.length ≤ sizeLine := by
        rw [w1.length, List.length_map, List.length_mergeSort, List.length_zip]
        omega
      have J5 : Inv (inn X) pins σ0 (upd H' a (.lst ws)) { s' with heap := h3, toks := tk3 } := by
        have hf := fpa a H' ka n2
        refine L2.Inv.step (s := { s' with heap := h3, toks := tk3 }) (h' := h3) (g' := s'.gens) (d' := s'.drawn) (t' := tk3) (ch := [a]) J4 (fun b hb => ?_) (fun b o _ _ _ e _ => e) (fun b o _ _ _ e _ => ⟨o.slots, e⟩) (fun b o hb e n => ?_) (fun b o _ e => ⟨o, e⟩) (fun b ys e => ?_) (fun b o u e => ?_) (fun b ps e => ⟨#[], ?_⟩) (fun m hm => hm) (hok_add J4.hok n2 ⟨wl, _, c, w2, n3⟩) J4.bare
        · have : b = a := by simpa using hb
          subst this
          exact ⟨hf.2.2.2.1, hf.2.1, hf.2.2.2.2.1, hf.2.2.2.2.2⟩
        · rw [upd_ne (fun z => hb (by simp [z]))]
          exact n
        · rw [upd_ne (ne_of_none e n2)]; exact e
        · rw [upd_ne (ne_of_none e n2)]; exact e
        · rw [upd_ne (ne_of_none e n2), e]; simp
      exact ⟨.ref a, upd H' a (.lst ws), inn_of I.ok J5, rfl, new_lst rl' n2 w1 fun b H'' α'' r'' t'' rf => q b H'' α'' r'' (t'.trans t'') rf⟩
theorem pf_sortKey {X : Cx} {x : Str} {k : Nat} {F : FF} {e : Expr} {p p2 q pos : Pos} {fa : FE} (f : FnD X.prog X.w X.K X.mg X.base x k 1 F) (hr : Room (k + 1) X.A) (hgu : X.A.guards = some []) (hg : Gl X x) (hgs : Gl X "sorted") (hms : X.mg "sorted" = none) (ha : PED X e fa) (hdb : (x == ("__debug__" : Str)) = false := by decide)
    (he : backTo pos (starEach [e] X.env) = (false, eval e X.env) :: backTo pos (starEach [] X.env) := by rfl) (hpl : (backTo pos (starEach [e] X.env)).any (·.1) = false := by rfl) (he2 : starEach [e] X.env = (false, eval e X.env) :: starEach [] X.env := by rfl)
    (hall : (backToKw pos (keywordEach [⟨some "key", .Name x p2, q⟩] X.env)).all (·.1.isSome) = true := by rfl) (hnone : (backToKw pos (keywordEach [⟨some "key", .Name x p2, q⟩] X.env)).any (·.1.isNone) = false := by rfl) (hks : (backToKw pos (keywordEach [⟨some "key", .Name x p2, q⟩] X.env)).filterMap (·.1) = [Str.ofString "key"] := by rfl) :
    PFD X (.Call (.Name "sorted" p) [e] [⟨some "key", .Name x p2, q⟩] pos) (dSortKey F fa) := by
  obtain ⟨a, fd, ps, h1, h2, h3, h4⟩ := f.ex
  refine ⟨fun W tk => ?_⟩
  obtain ⟨t, pa, qa⟩ := ha.run W tk
  refine ⟨_, pe_callBK (cr_sk h3 h4 hr hgu) hgs hms rfl (pa_cons pa pa_nil he2) (pk_cons (pe_glob (v := .ref a) hg h1 rfl hdb) pk_nil) (by decide) (by decide) he hpl hall hnone hks, fun H0 α0 σ H α s Q r k => qa H0 α0 σ H α s _ r ?_⟩
  unfold dSortKey at k
  cases ea : fa s with
  | bad => rw [ea] at k; exact k.elim
  | exc e s1 => rw [ea] at k; exact k
  | ok d s1 =>
    rw [ea] at k
    intro v H1 α1 r1 t1 rv
    simp only [Res.bind] at k
    split at k
    · rename_i xs exs
      split at k
      · rename_i hl
        split at k
        · rename_i ks μ ek
          exact ⟨rfl, H0, σ, α0, α1, s1, d, xs, ks, μ, r1, .cons rv .nil, exs, hl, ek, fun b H' α' r' t' rf => k b H' α' r' (t1.trans t') rf⟩
        · exact k.elim
      · exact k.elim
    · exact k.elim
end DL

namespace DL
open PySem PySem.Spec PyProof.Rows L2
variable [DLX]
/-! ### 32. The law's end -/
/-- where nothing but a locked list at a stands told, a def that gives True gives the row what it wants -/
theorem end_core {P : Program} {w : World} {K : PySem.W.Frag} {mg mb : Str → Option Value} {k : Nat} {fa a : Addr} {nm : Str} {FL : FF} {s₁ : Shared} {vs : List Value} {ns : List Int} {μ : List Cell} (KX : K.In s₁.heap) (hns : s₁.heap.Ns mainGlobals mg) (hb : s₁.heap.Ns builtinsNs mb)
    (hbb : ∀ x : Str, x ≠ "__name__" → mb x = bootBuiltins x) (hlim : s₁.heap.NoLimit) (hg : s₁.gens = #[]) (ha : s₁.heap.get? a = some { cls := .type "list", data := .seq vs.toArray }) (hr : Room k callerA) (hfa : mg nm = some (.ref fa))
    (F : ∀ base : Heap, K.In base → base.Ns mainGlobals mg → FnD P w K mg base nm k 1 FL) (hF : FL [.lst (ns.map .int)] [] = .ok (.bl true) μ)
    (H : Hp) (hO : ∀ b, H b = none ∨ ∃ xs, b = a ∧ H b = some (.frz { cls := .type "list", data := .seq vs.toArray } (.lst xs))) (hS : SqF K H a (ns.map V.int)) (hok : HOk P w H s₁.heap) (hK : H a ≠ none → K.lookup a = none) :
    codeAny (model P w) callerA (.call (.ref fa) ⟨[.ref a], []⟩) (fun r s' => r = .ok (.ret (.bool true)) ∧ OldK s₁.heap s'.heap ∧ s'.os = s₁.os ∧ AllBare s'.gens) s₁ := by
  have only : ∀ {b : Addr} {u : HO}, H b = some u → b = a := fun {b u} q => by
    rcases hO b with z | ⟨_, z, _⟩
    · rw [q] at z; cases z
    · exact z
  have dct : ∀ {b : Addr} {m : Str → Option Value}, s₁.heap.Ns b m → (hidT s₁.heap H).Ns b m := fun {b m} ⟨o, es, ep, e, d, r⟩ => by
    refine ⟨o, es, ep, hidT_get e ?_, d, r⟩
    cases q : H b with
    | none => rfl
    | some u =>
      cases only q
      rw [ha] at e
      cases e
      cases (show Data.seq vs.toArray _ = Data.dict es ep from d)
  have kin : K.In (hidT s₁.heap H) := fun b o e => hidT_get (KX b o e) <| by
    cases q : H b with
    | none => rfl
    | some u =>
      cases only q
      rw [hK (by rw [q]; exact fun z => nomatch z)] at e
      cases e
  obtain ⟨mc, l1, l2⟩ := hlim
  have e0 : Env0 P w K mg (hidT s₁.heap H) callerA [] s₁ H := ⟨rfl, ⟨kin, dct hns, ⟨mb, dct hb, hbb⟩, mc, dct l1, l2⟩, fun b o e => of_hidT e, Nat.le_of_eq (hidT_size _ _), trivial, fun b z => (nomatch z), hok, .of_eq hg⟩
  obtain ⟨f, fd, ps, h1, h2, h3, h4⟩ := (F _ kin (dct hns)).ex
  cases hfa.symm.trans h1
  have hsp : spD K 1 FL [V.ref a] H (fun v _ => v = .bl true) (fun _ _ _ => False) := by
    refine ⟨rfl, [], [.lst (ns.map .int)], [], ⟨rfl, List.nodup_nil, fun n b c e => by simp at e⟩, .single ?_, ?_⟩
    · simp only [Rv]
      exact ⟨a, _, rfl, hS, rvs_map_int ns⟩
    · rw [hF]
      intro v H' α' _ _ rv
      simpa only [Rv] using rv
  have hlen : ([Value.ref a] ++ ([] : List Value)).length = ps.length := h3.len _ _ _ _ hsp
  refine codeAny_mono (h3.run callerA [] s₁ H ⟨[.ref a], []⟩ [.ref a] [.ref a] _ _ hr rfl e0 (h4 s₁ [.ref a] KX hlen) (.cons rfl .nil) hsp) fun r s' h => ?_
  cases r with
  | error e =>
    obtain ⟨_, _, _, _, _, _, _, _, _, _, _, _, z⟩ := h
    exact z.elim
  | ok fl =>
    cases fl with
    | next => exact False.elim h
    | brk => exact False.elim h
    | cont => exact False.elim h
    | ret u =>
      obtain ⟨v, H', os, bare, un, hok', r', q⟩ := h
      cases (show v = .bl true from q)
      cases (show u = Value.bool true from r')
      refine ⟨rfl, OldK.of_keep fun b o e => ?_, os, bare⟩
      rcases hO b with z | ⟨xs, rfl, z⟩
      · exact un.keep b o e z (fun z => nomatch z) (fun z => nomatch z)
      · obtain ⟨e1, _⟩ := hok b _ z
        obtain ⟨e2, _⟩ := hok' b _ (un.frzs b _ _ z)
        rw [e] at e1
        cases e1
        exact e2
/-- the goal that k_head leaves (case hc) -/
theorem walkG {l : PySem.W.OpenLaw} {n k : Nat} {q : Program} {loose : List Str} {XP : (Str → Option Value) → Heap → Prop} {YP : World → Heap → Prop} {d : DefRec} {K : Params → PySem.W.Frag} {FL : FF} (hn : l.most = some n) (hn2 : n ≤ sizeLine) (hdf : d.params.defaults = []) (hr : Room k callerA)
    (hY : ∀ (w : World) (h : Heap), YP w h → (K w.params).In h)
    (F : ∀ (w : World) (mg : Str → Option Value) (fa : Addr) (h : Heap), (K w.params).In h → h.Ns mainGlobals mg → mg d.name = some (.ref fa) → ∀ base : Heap, (K w.params).In base → base.Ns mainGlobals mg → FnD l.prog w (K w.params) mg base d.name k 1 FL)
    (hL : ∀ ns : List Int, ns.length ≤ n → ∃ μ, FL [.lst (ns.map .int)] [] = .ok (.bl true) μ) : PySem.W.WalkO q loose XP YP l.row.toRowW d [] (fun f vs => PySem.call f vs) := by
  refine Att.attach_call hn hdf fun w s₀ s₁ mg mb fa o pm cd doc a vs ns G Y ho hd hcd hmg hobj hints hlen hg => ?_
  have KX := hY w _ Y
  have rv := vals_ints hints
  have lenV := hints.length
  have hl : ns.length ≤ sizeLine := Nat.le_trans hlen hn2
  obtain ⟨μ, hF⟩ := hL ns hlen
  have fin := end_core KX G.T.g G.T.b G.T.builtins G.T.nolimit hg hobj hr hmg (F w mg fa _ KX G.T.g hmg) hF
  cases hk : (K w.params).lookup a with
  | some o' =>
    have e := KX a o' hk
    rw [hobj] at e
    cases e
    exact fin (fun _ => none) (fun _ => .inl rfl) (.inr ⟨_, vs.toArray, _, hk, rfl, rfl, rfl, by rw [List.size_toArray, lenV]; exact hl, by simpa using rv⟩) (fun b u z => nomatch z) fun z => absurd rfl z
  | none =>
    refine fin (upd (fun _ => none) a (.frz { cls := .type "list", data := .seq vs.toArray } (.lst (ns.map V.int)))) (fun b => ?_) (.inl ⟨_, upd_same⟩) (fun b u z => ?_) fun _ => hk
    · by_cases hb : b = a
      · subst hb
        exact .inr ⟨_, rfl, upd_same⟩
      · exact .inl (upd_ne hb)
    · by_cases hb : b = a
      · subst hb
        rw [upd_same] at z
        cases z
        exact ⟨hobj, by rw [List.length_map]; exact hl, vs, _, rv, hobj⟩
      · rw [upd_ne hb] at z
        cases z
end DL

namespace DL
open PySem PySem.Spec PyProof.Rows L2
variable [DLX]
/-! ### 34. == and != that take any text -/
def twoStr : D → D → Option (Str × Str) | .str x, .str y => some (x, y) | _, _ => none
def eqS : S → D → D → Option D := fun s a b => match twoStr a b with | some (x, y) => some (.bl (x == y)) | none => gDat eqG s a b
def neS : S → D → D → Option D := fun s a b => match twoStr a b with | some (x, y) => some (.bl (!(x == y))) | none => gDat neG s a b
theorem twoStr_some {a b : D} {x y : Str} (h : twoStr a b = some (x, y)) : a = .str x ∧ b = .str y := by
  cases a <;> cases b <;> simp [twoStr] at h
  exact ⟨by rw [h.1], by rw [h.2]⟩
section
variable {X : Cx}
theorem dec_str (x y : Str) : decide (V.str x = V.str y) = (x == y) := by
  rw [Bool.eq_iff_iff]
  simp
theorem c_eqS (hu : X.A.units + 65 < cLine) : Cmp X .Eq eqS := by
  refine ⟨_, op_eq.or (op_eqX hu), fun H0 α0 σ H α s x y a b d Q r rx ry e q => ?_⟩
  unfold eqS at e
  split at e
  · rename_i u w h
    obtain ⟨rfl, rfl⟩ := twoStr_some h
    cases e
    rw [rx_str rx, rx_str ry]
    refine .inl ⟨rfl, ?_⟩
    rw [dec_str]
    exact .inl (q _ _ _ r (Stay.refl _ _) ox_bl)
  · exact .inr (os_dat H0 α0 σ H α s x y a b d Q r rx ry e q)
theorem c_neS (hu : X.A.units + 65 < cLine) : Cmp X .NotEq neS := by
  refine ⟨_, op_ne.or (op_neX hu), fun H0 α0 σ H α s x y a b d Q r rx ry e q => ?_⟩
  unfold neS at e
  split at e
  · rename_i u w h
    obtain ⟨rfl, rfl⟩ := twoStr_some h
    cases e
    rw [rx_str rx, rx_str ry]
    refine .inl ⟨rfl, ?_⟩
    rw [dec_str]
    exact .inl (q _ _ _ r (Stay.refl _ _) ox_bl)
  · exact .inr (os_dat H0 α0 σ H α s x y a b d Q r rx ry e q)
end
end DL

namespace DL
open PySem PySem.Spec PyProof.Rows L2
/-! ### 35. Reckoning with the plain functions -/
section
variable {α β : Type}
@[simp] theorem bind_ok (a : α) (s : S) (f : α → S → Res β) : Res.bind (.ok a s) f = f a s := rfl
@[simp] theorem bind_exc (e : EX) (s : S) (f : α → S → Res β) : Res.bind (.exc e s) f = .exc e s := rfl
@[simp] theorem bind_bad (f : α → S → Res β) : Res.bind .bad f = .bad := rfl
end
@[simp] theorem ap_C (d : D) (s : S) : dC d s = .ok d s := rfl
@[simp] theorem ap_Var (i : Nat) (s : S) : dVar i s = (match s.δ[i]? with | some (.val d) => .ok d s | some (.own _) => .ok (.own i) s | _ => .bad) := rfl
@[simp] theorem ap_Op (g : S → D → D → Option D) (fa fb : FE) (s : S) : dOp g fa fb s = (fa s).bind fun a s1 => (fb s1).bind fun b s2 => match g s2 a b with | some d => .ok d s2 | none => .bad := rfl
@[simp] theorem ap_CmpT (g : S → D → D → Option D) (fa fb : FE) (s : S) : dCmpT g fa fb s = (fa s).bind fun a s1 => (fb s1).bind fun b s2 => match g s2 a b with | some (.bl k) => .ok k s2 | _ => .bad := rfl
@[simp] theorem ap_Nil (s : S) : dNil s = .ok [] s := rfl
@[simp] theorem ap_Cons (fa : FE) (fr : FA) (s : S) : dCons fa fr s = (fa s).bind fun d s1 => (fr s1).bind fun ds s2 => .ok (d :: ds) s2 := rfl
@[simp] theorem ap_Tup (fa : FA) (s : S) : dTup fa s = (fa s).bind fun ds s1 => if ds.all noOwn && decide (ds.length ≤ 16777216) then .ok (.tup ds) s1 else .bad := rfl
@[simp] theorem ap_Lst (fa : FA) (s : S) : dLst fa s = (fa s).bind fun ds s1 => if ds.all noOwn && decide (ds.length ≤ 16777216) then .ok (.lst ds) s1 else .bad := rfl
@[simp] theorem ap_B (g : S → List D → Option D) (fa : FA) (s : S) : dB g fa s = (fa s).bind fun ds s1 => match g s1 ds with | some d => .ok d s1 | none => .bad := rfl
@[simp] theorem ap_BF (g : S → List D → Option Cell) (fa : FA) (s : S) : dBF g fa s = (fa s).bind fun ds s1 => match g s1 ds with | some d => .ok d s1 | none => .bad := rfl
@[simp] theorem ap_Call (F : FF) (fa : FA) (s : S) : dCall F fa s = (fa s).bind fun ds s1 => if ds.all noOwn then (match F ds s1.μ with | .ok d μ' => .ok d { s1 with μ := μ' } | .exc e μ' => .exc e { s1 with μ := μ' } | _ => .bad) else .bad := rfl
@[simp] theorem ap_CallF (F : FF) (fa : FA) (s : S) : dCallF F fa s = (fa s).bind fun ds s1 => if ds.all noOwn then (match F ds s1.μ with | .okc c μ' => .ok c { s1 with μ := μ' } | .exc e μ' => .exc e { s1 with μ := μ' } | _ => .bad) else .bad := rfl
@[simp] theorem ap_Frz (f : FC) (s : S) : dFrz f s = (f s).bind fun c s1 => match c with | .dead => .bad | .tab _ => .bad | c => .ok c.toD s1 := rfl
@[simp] theorem ap_Ret (fa : FE) (s : S) : dRet fa s = (match fa s with | .ok d s1 => if noOwn d then .rt d s1 else .bad | .exc e s1 => .exc e s1 | .bad => .bad) := rfl
@[simp] theorem ap_RetF (fa : FC) (s : S) : dRetF fa s = (match fa s with | .ok c s1 => .rtc c s1 | .exc e s1 => .exc e s1 | .bad => .bad) := rfl
@[simp] theorem ap_Skip (s : S) : dSkip s = .nx s := rfl
@[simp] theorem ap_Seq (f g : FS) (s : S) : dSeq f g s = (match f s with | .nx s1 => g s1 | r => r) := by
  unfold dSeq
  cases f s <;> rfl
@[simp] theorem ap_IfS (ft : FT) (f g : FS) (s : S) : dIfS ft f g s = (match ft s with | .ok true s1 => f s1 | .ok false s1 => g s1 | .exc e s1 => .exc e s1 | .bad => .bad) := rfl
@[simp] theorem ap_Asg (i : Nat) (fa : FE) (s : S) : dAsg i fa s = (match fa s with | .ok d s1 => if noOwn d then .nx { s1 with δ := s1.δ.set i (.val d) } else .bad | .exc e s1 => .exc e s1 | .bad => .bad) := rfl
@[simp] theorem ap_AsgO (i : Nat) (fa : FC) (s : S) : dAsgO i fa s = (match fa s with | .ok c s1 => .nx { s1 with δ := s1.δ.set i (.own c) } | .exc e s1 => .exc e s1 | .bad => .bad) := rfl
@[simp] theorem ap_Drop (fa : FE) (s : S) : dDrop fa s = (match fa s with | .ok _ s1 => .nx s1 | .exc e s1 => .exc e s1 | .bad => .bad) := by
  unfold dDrop
  cases fa s <;> rfl
@[simp] theorem ap_NotT (fa : FT) (s : S) : dNotT fa s = (fa s).bind fun b s1 => .ok (!b) s1 := rfl
@[simp] theorem ap_AndT (fa fb : FT) (s : S) : dAndT fa fb s = (fa s).bind fun b s1 => if b then fb s1 else .ok false s1 := rfl
@[simp] theorem ap_OrT (fa fb : FT) (s : S) : dOrT fa fb s = (fa s).bind fun b s1 => if b then .ok true s1 else fb s1 := rfl
@[simp] theorem ap_AndV (fa fb : FE) (s : S) : dAndV fa fb s = (fa s).bind fun d s1 => match truthD s1 d with | some true => fb s1 | some false => .ok d s1 | none => .bad := rfl
@[simp] theorem ap_OrV (fa fb : FE) (s : S) : dOrV fa fb s = (fa s).bind fun d s1 => match truthD s1 d with | some true => .ok d s1 | some false => fb s1 | none => .bad := rfl
@[simp] theorem ap_NotV (fa : FE) (s : S) : dNotV fa s = (fa s).bind fun d s1 => match truthD s1 d with | some b => .ok (.bl (!b)) s1 | none => .bad := rfl
@[simp] theorem ap_Truth (fa : FE) (s : S) : dTruth fa s = (fa s).bind fun d s1 => match truthD s1 d with | some b => .ok b s1 | none => .bad := rfl
@[simp] theorem ap_If (ft : FT) (fa fb : FE) (s : S) : dIf ft fa fb s = (ft s).bind fun b s1 => if b then fa s1 else fb s1 := rfl
@[simp] theorem ap_Yes (s : S) : dYes s = .ok true s := rfl
@[simp] theorem ap_Iter (fa : FE) (s : S) : dIter fa s = (fa s).bind fun d s1 => match fixSeq d with | some xs => .ok xs s1 | none => .bad := rfl
@[simp] theorem ap_IterEn (fa : FA) (s : S) : dIterEn fa s = (fa s).bind fun ds s1 => match ds with | [d] => (match fixSeq d with | some xs => .ok (enD 0 xs) s1 | none => .bad) | _ => .bad := rfl
@[simp] theorem ap_IterZp (fa : FA) (s : S) : dIterZp fa s = (fa s).bind fun ds s1 => match ds with | [d, e] => (match fixSeq d, fixSeq e with | some xs, some ys => .ok (zpD xs ys) s1 | _, _ => .bad) | _ => .bad := rfl
@[simp] theorem ap_Lc (vs : List Nat) (fi : FA) (g : FG) (ft : FT) (fe : FE) (s : S) : dLc vs fi g ft fe s = (fi s).bind fun ds s1 => if ds.length ≤ 16777216 && vs.all (fun v => !isOwn s1.δ v) then (match dLcGo vs g ft fe ds s1 with | .ok ys s2 => .ok (.lst ys) s2 | _ => .bad) else .bad := rfl
@[simp] theorem isOwn_c (δ : List Slot) (i : Nat) : isOwn δ i = (match δ[i]? with | some (.own _) => true | _ => false) := rfl
@[simp] theorem ap_gNm (i : Nat) (d : D) (s : S) : gNm i d s = some { s with δ := s.δ.set i (.val d) } := rfl
@[simp] theorem ap_gT (r : FGs) (ds : List D) (s : S) : gT r (.tup ds) s = r ds s := rfl
@[simp] theorem ap_gC (g : FG) (r : FGs) (d : D) (ds : List D) (s : S) : gC g r (d :: ds) s = (g d s).bind fun s1 => r ds s1 := rfl
@[simp] theorem ap_gN (s : S) : gN [] s = some s := rfl
@[simp] theorem ap_Neg (fa : FE) (s : S) : dNeg fa s = (fa s).bind fun a s1 => match a with | .int i => .ok (.int (-i)) s1 | _ => .bad := rfl
@[simp] theorem no_non : noOwn .non = true := rfl
@[simp] theorem no_bl (b : Bool) : noOwn (.bl b) = true := rfl
@[simp] theorem no_int (i : Int) : noOwn (.int i) = true := rfl
@[simp] theorem no_str (i : Str) : noOwn (.str i) = true := rfl
@[simp] theorem no_tup (i : List D) : noOwn (.tup i) = true := rfl
@[simp] theorem no_lst (i : List D) : noOwn (.lst i) = true := rfl
@[simp] theorem no_dct (i : List (D × D)) : noOwn (.dct i) = true := rfl
@[simp] theorem no_ref (i : Nat) : noOwn (.ref i) = true := rfl
@[simp] theorem no_ty (i : String) : noOwn (.ty i) = true := rfl
@[simp] theorem tr_bl (s : S) (b : Bool) : truthD s (.bl b) = some b := rfl
@[simp] theorem tr_int (s : S) (i : Int) : truthD s (.int i) = some (i != 0) := rfl
@[simp] theorem fs_tup (xs : List D) : fixSeq (.tup xs) = some xs := rfl
@[simp] theorem fs_lst (xs : List D) : fixSeq (.lst xs) = some xs := rfl
@[simp] theorem asq_tup (s : S) (xs : List D) : asSeq s (.tup xs) = some xs := rfl
@[simp] theorem asq_lst (s : S) (xs : List D) : asSeq s (.lst xs) = some xs := rfl
@[simp] theorem asl_lst (s : S) (xs : List D) : asL s (.lst xs) = some xs := rfl
@[simp] theorem toD_lst (xs : List D) : Cell.toD (.lst xs) = .lst xs := rfl
@[simp] theorem frz_lst (xs : List D) (s : S) : (match Cell.lst xs with | .dead => Res.bad | .tab _ => Res.bad | c => Res.ok c.toD s) = .ok (.lst xs) s := rfl
/-! data in plain words -/
theorem py_ints : ∀ xs : List Int, toPyL (xs.map .int) = some (xs.map .int)
  | [] => rfl
  | x :: xs => by simp [toPyL, toPy, py_ints xs]
@[simp] theorem pys_int (s : S) (i : Int) : toPyS s (.int i) = some (.int i) := rfl
@[simp] theorem pys_bl (s : S) (b : Bool) : toPyS s (.bl b) = some (.bool b) := rfl
@[simp] theorem pys_str (s : S) (x : Str) : toPyS s (.str x) = some (.str x) := rfl
@[simp] theorem pys_non (s : S) : toPyS s .non = some .none := rfl
@[simp] theorem pys_tup (s : S) (xs : List D) : toPyS s (.tup xs) = (toPyL xs).map .tuple := by simp [toPyS, toPy]
@[simp] theorem pys_lst (s : S) (xs : List D) : toPyS s (.lst xs) = (toPyL xs).map .list := by simp [toPyS, toPy]
theorem eqv_ints : ∀ xs ys : List Int, PyData.eqvAll (xs.map .int) (ys.map .int) = decide (xs = ys)
  | [], [] => by simp [PyData.eqvAll]
  | [], y :: ys => by simp [PyData.eqvAll]
  | x :: xs, [] => by simp [PyData.eqvAll]
  | x :: xs, y :: ys => by
    simp only [List.map_cons, PyData.eqvAll, PyData.eqv, eqv_ints xs ys, List.cons.injEq]
    by_cases h : x = y <;> simp [h]
theorem sh_int (i : Int) : SeqAt.shaped (.int i) = true := by simp [SeqAt.shaped, PyData.canLay0, PyData.depth]
@[simp] theorem eq_ii (s : S) (a b : Int) : eqS s (.int a) (.int b) = some (.bl (a == b)) := by
  simp [eqS, twoStr, gDat, eqG, sh_int, PyData.eqv]
@[simp] theorem ne_ii (s : S) (a b : Int) : neS s (.int a) (.int b) = some (.bl (!(a == b))) := by
  simp [neS, twoStr, gDat, neG, sh_int, PyData.eqv]
@[simp] theorem ne_ss (s : S) (a b : Str) : neS s (.str a) (.str b) = some (.bl (!(a == b))) := rfl
@[simp] theorem eq_ss (s : S) (a b : Str) : eqS s (.str a) (.str b) = some (.bl (a == b)) := rfl
theorem depth_ints : ∀ xs : List Int, PyData.depthAll (xs.map .int) = 0
  | [] => rfl
  | x :: xs => by simp [PyData.depthAll, PyData.depth, depth_ints xs]
theorem can_ints : ∀ xs : List Int, PyData.canLayAll0 (xs.map .int) = true
  | [] => by simp [PyData.canLayAll0]
  | x :: xs => by simp [PyData.canLayAll0, PyData.canLay0, can_ints xs]
/-- a row of ints -/
abbrev Ri (xs : List Int) : D := .tup (xs.map .int)
theorem sh_row (xs : List Int) : SeqAt.shaped (.tuple (xs.map .int)) = true := by simp [SeqAt.shaped, PyData.canLay0, PyData.depth, depth_ints, can_ints]
theorem sh_lsti (xs : List Int) : SeqAt.shaped (.list (xs.map .int)) = true := by simp [SeqAt.shaped, PyData.canLay0, PyData.depth, depth_ints, can_ints]
@[simp] theorem ne_rr (s : S) (a b : List Int) : neS s (.tup (a.map .int)) (.tup (b.map .int)) = some (.bl (!decide (a = b))) := by
  simp [neS, twoStr, gDat, neG, sh_row, PyData.eqv, py_ints, eqv_ints]
@[simp] theorem eq_rr (s : S) (a b : List Int) : eqS s (.tup (a.map .int)) (.tup (b.map .int)) = some (.bl (decide (a = b))) := by
  simp [eqS, twoStr, gDat, eqG, sh_row, PyData.eqv, py_ints, eqv_ints]
@[simp] theorem ne_ll (s : S) (a b : List Int) : neS s (.lst (a.map .int)) (.lst (b.map .int)) = some (.bl (!decide (a = b))) := by
  simp [neS, twoStr, gDat, neG, sh_lsti, PyData.eqv, py_ints, eqv_ints]
@[simp] theorem eq_ll (s : S) (a b : List Int) : eqS s (.lst (a.map .int)) (.lst (b.map .int)) = some (.bl (decide (a = b))) := by
  simp [eqS, twoStr, gDat, eqG, sh_lsti, PyData.eqv, py_ints, eqv_ints]
@[simp] theorem lt_ii (s : S) (a b : Int) : gLt s (.int a) (.int b) = some (.bl (decide (a < b))) := rfl
@[simp] theorem le_ii (s : S) (a b : Int) : gLe s (.int a) (.int b) = some (.bl (decide (a ≤ b))) := rfl
@[simp] theorem gt_ii (s : S) (a b : Int) : gGt s (.int a) (.int b) = some (.bl (decide (b < a))) := rfl
@[simp] theorem ge_ii (s : S) (a b : Int) : gGe s (.int a) (.int b) = some (.bl (decide (b ≤ a))) := rfl
@[simp] theorem add_ii (s : S) (a b : Int) : gAdd s (.int a) (.int b) = some (.int (a + b)) := rfl
@[simp] theorem sub_ii (s : S) (a b : Int) : gSub s (.int a) (.int b) = some (.int (a - b)) := rfl
theorem mul_ii {a b : Int} (h : mulOk a b = true) (s : S) : gMul s (.int a) (.int b) = some (.int (a * b)) := by simp [gMul, h]
theorem mod_ii {a b : Int} (h : b ≠ 0) (s : S) : gMod s (.int a) (.int b) = some (.int (a.fmod b)) := by
  show (if (b != 0) = true then _ else _) = _
  rw [if_pos (by simpa using h)]
theorem fdiv_ii {a b : Int} (h : fdivOk a b = true) (s : S) : gFdiv s (.int a) (.int b) = some (.int (a.fdiv b)) := by
  show (if fdivOk a b = true then _ else _) = _
  rw [if_pos h]
end DL

namespace DL
open PySem PySem.Spec PyProof.Rows L2
/-! ### 36. Dicts: plain -/
def eqK (a b : D) : Bool := match keyD a, keyD b with
  | some x, some y => decide (x = y)
  | _, _ => false
def lookD (kvs : List (D × D)) (k : D) : Option D := (kvs.find? fun p => eqK p.1 k).map (·.2)
def hasD (kvs : List (D × D)) (k : D) : Bool := kvs.any fun p => eqK p.1 k
def putD (kvs : List (D × D)) (k v : D) : List (D × D) := if hasD kvs k then kvs.map (fun p => if eqK p.1 k then (p.1, v) else p) else kvs ++ [(k, v)]
def dropD (kvs : List (D × D)) (k : D) : List (D × D) := kvs.filter fun p => !eqK p.1 k
def mergeD (kvs more : List (D × D)) : List (D × D) := more.foldl (fun acc p => putD acc p.1 p.2) kvs
def keysOk (kvs : List (D × D)) : Bool := kvs.all fun p => (keyD p.1).isSome
def asD (s : S) (d : D) : Option (List (D × D)) := match cellAt s d with
  | some (.dct kvs) => if keysOk kvs then some kvs else none
  | _ => none
variable [DLX]
section
variable {K : PySem.W.Frag} {H0 H H' : Hp} {α0 α α' : List Addr} {σ : Sg} {s : S}
theorem rkv_nil : Rkv K H α [] [] := by simp only [Rkv]
theorem rkv_cons {k d : D} {q : Key} {v : V} {ds : List (D × D)} {l : List (Key × V)} (h0 : keyD k = some q) (h1 : Rv K H α d v) (h2 : Rkv K H α ds l) : Rkv K H α ((k, d) :: ds) ((q, v) :: l) := by
  simp only [Rkv]
  exact ⟨q, v, l, rfl, h0, h1, h2⟩
theorem rkv_inv {k d : D} {ds : List (D × D)} {l : List (Key × V)} (h : Rkv K H α ((k, d) :: ds) l) : ∃ q v r, l = (q, v) :: r ∧ keyD k = some q ∧ Rv K H α d v ∧ Rkv K H α ds r := by
  simpa only [Rkv] using h
theorem eqK_of {a b : D} {x y : Key} (ha : keyD a = some x) (hb : keyD b = some y) : eqK a b = decide (x = y) := by
  unfold eqK
  rw [ha, hb]
theorem rkv_len : ∀ {ds : List (D × D)} {l : List (Key × V)}, Rkv K H α ds l → l.length = ds.length
  | [], _, h => by simp only [Rkv] at h; rw [h]; rfl
  | (k, d) :: ds, l, h => by
    obtain ⟨q, v, r, rfl, _, _, h2⟩ := rkv_inv h
    simp [rkv_len h2]
theorem rkv_look {k : D} {q : Key} (hk : keyD k = some q) : ∀ {ds : List (D × D)} {l : List (Key × V)}, Rkv K H α ds l → (lookD ds k = none ∧ valV l q = none) ∨ ∃ d v, lookD ds k = some d ∧ valV l q = some v ∧ Rv K H α d v
  | [], _, h => by
    simp only [Rkv] at h
    subst h
    exact .inl ⟨rfl, valV_nil⟩
  | (k2, d) :: ds, l, h => by
    obtain ⟨q2, v, r, rfl, h0, h1, h2⟩ := rkv_inv h
    have e := eqK_of h0 hk
    by_cases hq : q2 = q
    · refine .inr ⟨d, v, ?_, valV_pos hq, h1⟩
      unfold lookD
      rw [List.find?_cons_of_pos (by rw [e]; exact decide_eq_true hq)]
      rfl
    · have e2 : lookD ((k2, d) :: ds) k = lookD ds k := by
        unfold lookD
        rw [List.find?_cons_of_neg (by rw [e]; simpa using hq)]
      rw [e2, valV_neg hq]
      exact rkv_look hk h2
theorem rkv_has {k : D} {q : Key} (hk : keyD k = some q) : ∀ {ds : List (D × D)} {l : List (Key × V)}, Rkv K H α ds l → (l.any fun kv => decide (kv.1 = q)) = hasD ds k
  | [], _, h => by
    simp only [Rkv] at h
    subst h
    rfl
  | (k2, d) :: ds, l, h => by
    obtain ⟨q2, v, r, rfl, h0, h1, h2⟩ := rkv_inv h
    unfold hasD
    rw [List.any_cons, List.any_cons, eqK_of h0 hk]
    exact congrArg _ (rkv_has hk h2)
theorem look_has (ds : List (D × D)) (k : D) : (lookD ds k).isSome = hasD ds k := by
  induction ds with
  | nil => rfl
  | cons p ds ih =>
    unfold lookD hasD at *
    rw [List.any_cons]
    by_cases e : eqK p.1 k = true
    · rw [List.find?_cons_of_pos (p := fun p : D × D => eqK p.1 k) e, e]; rfl
    · rw [List.find?_cons_of_neg (p := fun p : D × D => eqK p.1 k) e, ih]
      simp [e]
theorem rkv_map {k d : D} {q : Key} {v : V} (hk : keyD k = some q) (hv : Rv K H α d v) : ∀ {ds : List (D × D)} {l : List (Key × V)}, Rkv K H α ds l → Rkv K H α (ds.map fun p => if eqK p.1 k then (p.1, d) else p) (l.map fun kv => if kv.1 = q then (kv.1, v) else kv)
  | [], _, h => by
    simp only [Rkv] at h
    subst h
    exact rkv_nil
  | (k2, d2) :: ds, l, h => by
    obtain ⟨q2, v2, r, rfl, h0, h1, h2⟩ := rkv_inv h
    rw [List.map_cons, List.map_cons, eqK_of h0 hk]
    by_cases hq : q2 = q
    · rw [if_pos hq, if_pos (decide_eq_true hq)]
      exact rkv_cons h0 hv (rkv_map hk hv h2)
    · rw [if_neg hq, if_neg (by simpa using hq)]
      exact rkv_cons h0 h1 (rkv_map hk hv h2)
theorem rkv_app {k d : D} {q : Key} {v : V} (hk : keyD k = some q) (hv : Rv K H α d v) : ∀ {ds : List (D × D)} {l : List (Key × V)}, Rkv K H α ds l → Rkv K H α (ds ++ [(k, d)]) (l ++ [(q, v)])
  | [], _, h => by
    simp only [Rkv] at h
    subst h
    exact rkv_cons hk hv rkv_nil
  | (k2, d2) :: ds, l, h => by
    obtain ⟨q2, v2, r, rfl, h0, h1, h2⟩ := rkv_inv h
    exact rkv_cons h0 h1 (rkv_app hk hv h2)
theorem rkv_put {k d : D} {q : Key} {v : V} (hk : keyD k = some q) (hv : Rv K H α d v) {ds : List (D × D)} {l : List (Key × V)} (h : Rkv K H α ds l) : Rkv K H α (putD ds k d) (putK l q v) := by
  unfold putD putK
  rw [rkv_has hk h]
  split
  · exact rkv_map hk hv h
  · exact rkv_app hk hv h
theorem rkv_drop {k : D} {q : Key} (hk : keyD k = some q) : ∀ {ds : List (D × D)} {l : List (Key × V)}, Rkv K H α ds l → Rkv K H α (dropD ds k) (dropK l q)
  | [], _, h => by
    simp only [Rkv] at h
    subst h
    exact rkv_nil
  | (k2, d2) :: ds, l, h => by
    obtain ⟨q2, v2, r, rfl, h0, h1, h2⟩ := rkv_inv h
    have ih := rkv_drop hk h2
    unfold dropD dropK at *
    have e := eqK_of h0 hk
    by_cases hq : q2 = q
    · rw [List.filter_cons_of_neg (by rw [e]; simpa using hq), List.filter_cons_of_neg (by simpa using hq)]
      exact ih
    · rw [List.filter_cons_of_pos (by rw [e]; simpa using hq), List.filter_cons_of_pos (by simpa using hq)]
      exact rkv_cons h0 h1 ih
/-- a dict with int and text keys -/
theorem dT_not {kvs : List (D × D)} {kv : List (List Key × V)} (n : kvs ≠ []) (h : RkT K H α kvs kv) : keysOk kvs = false := by
  cases kvs with
  | nil => exact absurd rfl n
  | cons p ds =>
    obtain ⟨k, d⟩ := p
    simp only [RkT] at h
    obtain ⟨q, _, _, _, h0, _⟩ := h
    unfold keysOk
    rw [List.all_cons]
    cases k <;> simp only [keyT, reduceCtorEq] at h0
    rfl
theorem cell_dK {a : Addr} {kvs : List (D × D)} (h : CellOk K H α a (.dct kvs)) (ok : keysOk kvs = true) : ∃ kv, H a = some (.dK kv) ∧ Rkv K H α kvs kv := by
  rcases h with h | ⟨kv, n, _, h⟩
  · exact h
  · rw [dT_not n h] at ok; cases ok
theorem asD_ok {d : D} {v : V} {kvs : List (D × D)} (r : Rel K H0 α0 H α σ s) (h : Rx K H α σ d v) (e : asD s d = some kvs) : ∃ a kv, v = .ref a ∧ Rd H a (.dK kv) ∧ Rkv K H α kvs kv ∧ keysOk kvs = true := by
  unfold asD at e
  split at e
  · rename_i kvs' ec
    split at e
    · rename_i ok
      cases e
      cases d <;> simp only [cellAt, reduceCtorEq] at ec
      case ref n =>
        have h' : Rv K H α (.ref n) v := h
        simp only [Rv] at h'
        obtain ⟨a, ha, rfl⟩ := h'
        obtain ⟨kv, q, rr⟩ := cell_dK (r.cells.at_ n a _ ha ec) ok
        exact ⟨a, kv, rfl, .of q, rr, ok⟩
      case own i =>
        cases hc : s.δ[i]? with
        | none => rw [hc] at ec; simp at ec
        | some c =>
          rw [hc] at ec
          cases c with
          | no => simp at ec
          | val _ => simp at ec
          | own c =>
            simp only [Option.some.injEq] at ec
            subst ec
            have h' : σ[i]? = some (some v) := h
            obtain ⟨a, ha, _, _, q⟩ := r.slots.own i _ hc
            rw [h'] at ha
            cases ha
            obtain ⟨kv, q, rr⟩ := cell_dK q ok
            exact ⟨a, kv, rfl, .of q, rr, ok⟩
      case lst ys => simp at ec
      case dct ys =>
        simp only [Option.some.injEq, Cell.dct.injEq] at ec
        subst ec
        have h' : Rv K H α (.dct ys) v := h
        simp only [Rv] at h'
        obtain ⟨a, o, rfl, ⟨kv, q, rr⟩ | ⟨kv, n, _, rr⟩⟩ := h'
        · exact ⟨a, kv, rfl, .inr ⟨o, q⟩, rr, ok⟩
        · rw [dT_not n rr] at ok; cases ok
      case obj C fs => simp at ec
    · cases e
  · cases e
theorem key_kV {k : D} {q : Key} {v : V} (h : Rx K H α σ k v) (e : keyD k = some q) : v = kV q := by
  cases k <;> simp only [keyD, reduceCtorEq, Option.some.injEq] at e
  · subst e; exact rx_int h
  · subst e; exact rx_str h
theorem dget_of {a : Addr} {kv : List (Key × V)} {q : Key} (h : Rd H a (.dK kv)) : DGet H a (kV q) (valV kv q) := .inl ⟨kv, q, h, rfl, rfl⟩
end
/-! ### 37. Reading dicts: d[k], in, len -/
def rDGet : R2 := fun x y H Q => ∃ a v, x = .ref a ∧ DGet H a y (some v) ∧ Q v H
def rDIn (b : Bool) : R2 := fun x y H Q => ∃ a o, y = .ref a ∧ DGet H a x o ∧ Q (.bl (b == o.isSome)) H
def gIxD : S → D → D → Option D := fun s a b => (asD s a).bind fun kvs => if (keyD b).isSome then lookD kvs b else none
def gIxA : S → D → D → Option D := fun s a b => (gIx s a b).or (gIxD s a b)
def gInD : S → D → D → Option D := fun s a b => (asD s b).bind fun kvs => if (keyD a).isSome then some (.bl (hasD kvs a)) else none
def gNiD : S → D → D → Option D := fun s a b => (asD s b).bind fun kvs => if (keyD a).isSome then some (.bl (!hasD kvs a)) else none
def gInA : S → D → D → Option D := fun s a b => (gDat inG s a b).or (gInD s a b)
def gNiA : S → D → D → Option D := fun s a b => (gDat niG s a b).or (gNiD s a b)
section
variable {X : Cx}
theorem ix_dget (hu : X.A.units + 1 < cLine) : IxR X rDGet := by
  intro value slice pins s σ H x y v u Q I rx ry h hs
  obtain ⟨a, z, rfl, g, q⟩ := h
  cases (show v = Value.ref a from rx)
  exact tail_any (dict_typeIs I g) slot_dict_getitem.lookup (d_getItem hu I g ry fun w' s' I' rw' => ⟨z, H, I', rw', q⟩) hs
theorem os_dget : OpS X rDGet gIxD := fun H0 α0 σ H α s x y a b d Q r rx ry e q => by
  unfold gIxD at e
  cases ea : asD s a with
  | none => rw [ea] at e; cases e
  | some kvs =>
    rw [ea] at e
    simp only [Option.bind_some] at e
    obtain ⟨p, kv, rfl, h1, h2, _⟩ := asD_ok r rx ea
    split at e
    · rename_i hk
      obtain ⟨k, ek⟩ := Option.isSome_iff_exists.mp hk
      cases key_kV ry ek
      rcases rkv_look ek h2 with ⟨z, _⟩ | ⟨d', v, h3, h4, h5⟩
      · rw [z] at e; cases e
      · rw [h3] at e
        cases e
        exact ⟨p, v, rfl, by rw [← h4]; exact dget_of h1, .inl (q _ _ _ r (Stay.refl _ _) (Rv.x h5))⟩
    · cases e
theorem pd_ixA {a b : Expr} {pos : Pos} {fa fb : FE} (hu : X.A.units + 65 < cLine) (ha : PED X a fa) (hb : PED X b fb) (hs : PlainIx b := by exact fun _ _ => rfl) : PED X (.Subscript a b pos) (dOp gIxA fa fb) :=
  pd_opG (fun _ _ pa pb => pe_ix (ixGh (ix_seq.or (ix_dget (by omega)))) pa pb hs) (OpS.or os_ix os_dget) ha hb
theorem op_dIn (hu : X.A.units + 1 < cLine) : OpR X (compareOp .In) (rDIn true) := by
  intro pins s σ H x y v u Q I rx ry h
  obtain ⟨a, o, rfl, g, q⟩ := h
  cases (show u = Value.ref a from ry)
  exact d_in hu I g rx fun s' I' => ⟨.bl o.isSome, H, I', rfl, by simpa using q⟩
theorem op_dNi (hu : X.A.units + 1 < cLine) : OpR X (compareOp .NotIn) (rDIn false) := by
  intro pins s σ H x y v u Q I rx ry h
  obtain ⟨a, o, rfl, g, q⟩ := h
  cases (show u = Value.ref a from ry)
  exact d_notIn hu I g rx fun s' I' => ⟨.bl (!o.isSome), H, I', rfl, by
    have e : (false == o.isSome) = !o.isSome := by cases o.isSome <;> rfl
    rw [e] at q
    exact q⟩
theorem os_dIn : OpS X (rDIn true) gInD := fun H0 α0 σ H α s x y a b d Q r rx ry e q => by
  unfold gInD at e
  cases eb : asD s b with
  | none => rw [eb] at e; cases e
  | some kvs =>
    rw [eb] at e
    simp only [Option.bind_some] at e
    obtain ⟨p, kv, rfl, h1, h2, _⟩ := asD_ok r ry eb
    split at e
    · rename_i hk
      cases e
      obtain ⟨k, ek⟩ := Option.isSome_iff_exists.mp hk
      cases key_kV rx ek
      refine ⟨p, _, rfl, dget_of h1, .inl (q _ _ _ r (Stay.refl _ _) ?_)⟩
      rw [← rkv_has ek h2, valV_any]
      simpa using ox_bl
    · cases e
theorem os_dNi : OpS X (rDIn false) gNiD := fun H0 α0 σ H α s x y a b d Q r rx ry e q => by
  unfold gNiD at e
  cases eb : asD s b with
  | none => rw [eb] at e; cases e
  | some kvs =>
    rw [eb] at e
    simp only [Option.bind_some] at e
    obtain ⟨p, kv, rfl, h1, h2, _⟩ := asD_ok r ry eb
    split at e
    · rename_i hk
      cases e
      obtain ⟨k, ek⟩ := Option.isSome_iff_exists.mp hk
      cases key_kV rx ek
      refine ⟨p, _, rfl, dget_of h1, .inl (q _ _ _ r (Stay.refl _ _) ?_)⟩
      rw [← rkv_has ek h2, valV_any]
      have e : ∀ b : Bool, (false == b) = !b := by decide
      rw [e]
      exact ox_bl
    · cases e
theorem c_inA (hu : X.A.units + 65 < cLine) : Cmp X .In gInA := ⟨_, (op_inX hu).or (op_dIn (by omega)), OpS.or os_dat os_dIn⟩
theorem c_niA (hu : X.A.units + 65 < cLine) : Cmp X .NotIn gNiA := ⟨_, (op_niX hu).or (op_dNi (by omega)), OpS.or os_dat os_dNi⟩
end
end DL

namespace DL
open PySem PySem.Spec PyProof.Rows L2
/-! ### 38. Walks over whatever stands still -/
def chD (z : Str) : List D := z.cps.toList.map fun c => .str ⟨#[c]⟩
def iterD : D → Option (List D)
  | .tup xs => some xs
  | .lst xs => some xs
  | .dct kvs => if keysOk kvs then some (kvs.map (·.1)) else none
  | .str z => some (chD z)
  | _ => none
def frzD : D → Option (List (D × D))
  | .dct kvs => if keysOk kvs then some kvs else none
  | _ => none
def dIterA (fa : FE) : FA := fun s => (fa s).bind fun d s1 => match iterD d with | some xs => .ok xs s1 | none => .bad
def dItVals (fa : FE) : FA := fun s => (fa s).bind fun d s1 => match frzD d with | some kvs => .ok (kvs.map (·.2)) s1 | none => .bad
def dItItems (fa : FE) : FA := fun s => (fa s).bind fun d s1 => match frzD d with | some kvs => .ok (kvs.map fun p => .tup [p.1, p.2]) s1 | none => .bad
variable [DLX]
section
variable {K : PySem.W.Frag} {H H1 : Hp} {α α1 : List Addr}
theorem rv_key {k : D} {q : Key} (e : keyD k = some q) : Rv K H α k (kV q) := by
  cases k <;> simp only [keyD, reduceCtorEq, Option.some.injEq] at e
  · subst e; simp only [Rv, kV]
  · subst e; simp only [Rv, kV]
theorem rkv_at : ∀ {ds : List (D × D)} {l : List (Key × V)} {i : Nat} {k d : D}, Rkv K H α ds l → ds[i]? = some (k, d) → ∃ q v, l[i]? = some (q, v) ∧ keyD k = some q ∧ Rv K H α d v
  | [], _, _, _, _, _, e => by simp at e
  | (k2, d2) :: ds, l, i, k, d, h, e => by
    obtain ⟨q, v, r, rfl, h0, h1, h2⟩ := rkv_inv h
    cases i with
    | zero => simp at e; obtain ⟨rfl, rfl⟩ := e; exact ⟨q, v, rfl, h0, h1⟩
    | succ i => simpa using rkv_at (i := i) h2 (by simpa using e)
theorem walk_keys {a : Addr} {o : Obj} {kvs : List (D × D)} {kv : List (Key × V)} (h : H1 a = some (.frz o (.dK kv))) (rr : Rkv K H1 α1 kvs kv) : WalkD K (Itk a o kv) (kvs.map (·.1)) H1 α1 := by
  refine ⟨fun H α t => ⟨t.im _ _ h trivial, by rw [List.length_map, rkv_len rr]; exact Nat.le_refl _⟩, fun H α i d t e => ⟨t.im _ _ h trivial, ?_⟩, fun H0 α0 H α σ s i d x H' t r e y => ?_⟩
  · have := (List.getElem?_eq_some_iff.mp e).1
    rw [rkv_len rr]
    simpa using this
  · rw [List.getElem?_map, Option.map_eq_some_iff] at e
    obtain ⟨⟨k, d'⟩, e, rfl⟩ := e
    obtain ⟨q, v, e1, e2, _⟩ := rkv_at rr e
    obtain ⟨rfl, k', v', y1, rfl⟩ := y
    rw [e1] at y1
    cases y1
    exact ⟨r, Stay.refl _ _, rv_key e2⟩
theorem walk_vals {a : Addr} {o : Obj} {kvs : List (D × D)} {kv : List (Key × V)} (h : H1 a = some (.frz o (.dK kv))) (rr : Rkv K H1 α1 kvs kv) : WalkD K (Itd a o kv) (kvs.map (·.2)) H1 α1 := by
  refine ⟨fun H α t => ⟨t.im _ _ h trivial, by rw [List.length_map, rkv_len rr]; exact Nat.le_refl _⟩, fun H α i d t e => ⟨t.im _ _ h trivial, ?_⟩, fun H0 α0 H α σ s i d x H' t r e y => ?_⟩
  · have := (List.getElem?_eq_some_iff.mp e).1
    rw [rkv_len rr]
    simpa using this
  · rw [List.getElem?_map, Option.map_eq_some_iff] at e
    obtain ⟨⟨k, d'⟩, e, rfl⟩ := e
    obtain ⟨q, v, e1, e2, e3⟩ := rkv_at rr e
    obtain ⟨rfl, k', y1⟩ := y
    rw [e1] at y1
    cases y1
    exact ⟨r, Stay.refl _ _, Rv.stay t _ _ e3⟩
theorem walk_items {a : Addr} {o : Obj} {kvs : List (D × D)} {kv : List (Key × V)} (h : H1 a = some (.frz o (.dK kv))) (rr : Rkv K H1 α1 kvs kv) : WalkD K (Iti a o kv) (kvs.map fun p => .tup [p.1, p.2]) H1 α1 := by
  refine ⟨fun H α t => ⟨t.im _ _ h trivial, by rw [List.length_map, rkv_len rr]; exact Nat.le_refl _⟩, fun H α i d t e => ⟨t.im _ _ h trivial, ?_⟩, fun H0 α0 H α σ s i d x H' t r e y => ?_⟩
  · have := (List.getElem?_eq_some_iff.mp e).1
    rw [rkv_len rr]
    simpa using this
  · rw [List.getElem?_map, Option.map_eq_some_iff] at e
    obtain ⟨⟨k, d'⟩, e, rfl⟩ := e
    obtain ⟨q, v, e1, e2, e3⟩ := rkv_at rr e
    obtain ⟨T, k', v', y1, rfl, hT, rfl⟩ := y
    rw [e1] at y1
    cases y1
    have t2 : Stay H α (upd H T (.tup [kV q, v])) α := Stay.upd_new hT
    refine ⟨r.new hT, t2, ?_⟩
    simp only [Rv]
    exact ⟨T, _, rfl, .inl (.inl upd_same), .cons (rv_key e2) (.single (Rv.stay (t.trans t2) _ _ e3))⟩
theorem walk_chars {z : Str} : WalkD K (Its z) (chD z) H1 α1 := by
  have hl : (chD z).length = z.cps.size := by simp [chD]
  refine ⟨fun H α t => by rw [hl]; exact Nat.le_refl z.cps.size, fun H α i d t e => ?_, fun H0 α0 H α σ s i d x H' t r e y => ?_⟩
  · have := (List.getElem?_eq_some_iff.mp e).1
    rw [hl] at this
    exact this
  · obtain ⟨rfl, c, hc, rfl⟩ := y
    refine ⟨r, Stay.refl _ _, ?_⟩
    unfold chD at e
    rw [List.getElem?_map, Array.getElem?_toList, hc] at e
    cases e
    simp only [Rv]
end
section
variable {X : Cx}
def iAny (K : PySem.W.Frag) (tl : TE) : TI := fun σ H R => iSeq K tl σ H R ∨ iKeys tl σ H R ∨ iStr tl σ H R
theorem PIany {tg e : Expr} {tl : TE} (h : PE X e tl) : PI X tg e (iAny X.K tl) := ⟨fun pins s σ H R I q => by
  rcases q with q | q | q
  · exact (PIorT h).run pins s σ H R I q
  · exact (pi_keys h).run pins s σ H R I q
  · exact (pi_str h).run pins s σ H R I q⟩
theorem frz_at {K : PySem.W.Frag} {H : Hp} {α : List Addr} {kvs : List (D × D)} {v : V} (h : Rv K H α (.dct kvs) v) (ok : keysOk kvs = true) : ∃ a o kv, v = .ref a ∧ H a = some (.frz o (.dK kv)) ∧ Rkv K H α kvs kv := by
  simp only [Rv] at h
  obtain ⟨a, o, rfl, ⟨kv, q, rr⟩ | ⟨kv, n, _, rr⟩⟩ := h
  · exact ⟨a, o, kv, rfl, q, rr⟩
  · rw [dT_not n rr] at ok; cases ok
theorem frzD_at {K : PySem.W.Frag} {H : Hp} {α : List Addr} {σ : Sg} {d : D} {kvs : List (D × D)} {v : V} (h : Rx K H α σ d v) (e : frzD d = some kvs) : ∃ a o kv, v = .ref a ∧ H a = some (.frz o (.dK kv)) ∧ Rkv K H α kvs kv := by
  unfold frzD at e
  split at e
  · split at e
    · rename_i ok
      cases e
      exact frz_at h ok
    · cases e
  · cases e
theorem id_any {tg e : Expr} {fa : FE} (ha : PED X e fa) : PID X tg e (dIterA fa) := by
  refine ⟨fun W tk => ?_⟩
  obtain ⟨t, p, q⟩ := ha.run W tk
  refine ⟨_, PIany p, fun H0 α0 σ H α s R r k => ?_⟩
  unfold dIterA at k
  cases ea : fa s with
  | bad => rw [ea] at k; exact k.elim
  | exc e s1 =>
    rw [ea] at k
    refine .inl (q H0 α0 σ H α s _ r ?_)
    rw [ea]
    exact k
  | ok d s1 =>
    rw [ea] at k
    simp only [Res.bind] at k
    have go : ∀ Q : VK, (∀ v H' α', Rel X.K H0 α0 H' α' σ s1 → Stay H α H' α' → Rx X.K H' α' σ d v → Q v H') → t σ H Q := fun Q hq => q H0 α0 σ H α s Q r (by rw [ea]; exact hq)
    cases d <;> simp only [iterD] at k <;> try exact k.elim
    case tup xs =>
      refine .inl (go _ fun v H1 α1 r1 t1 rv => ?_)
      obtain ⟨a, vs, rfl, h1, rr⟩ := asT_ok rv
      exact .inr ⟨a, rfl, ⟨vs, h1⟩, k _ H1 α1 r1 t1 (walk_fixT h1 rr)⟩
    case lst xs =>
      refine .inl (go _ fun v H1 α1 r1 t1 rv => ?_)
      have rv' : Rv X.K H1 α1 (.lst _) v := rv
      simp only [Rv] at rv'
      obtain ⟨a, vs, rfl, h1, rr⟩ := rv'
      exact .inl ⟨a, rfl, ⟨vs, h1.sq⟩, k _ H1 α1 r1 t1 (walk_fixL h1 rr)⟩
    case dct kvs =>
      by_cases ok : keysOk kvs = true
      · rw [if_pos ok] at k
        refine .inr (.inl (go _ fun v H1 α1 r1 t1 rv => ?_))
        obtain ⟨a, o, kv, rfl, h1, rr⟩ := frz_at (show Rv X.K H1 α1 (.dct kvs) v from rv) ok
        exact ⟨a, o, rfl, .inl ⟨kv, h1, k _ H1 α1 r1 t1 (walk_keys h1 rr)⟩⟩
      · rw [if_neg ok] at k
        exact k.elim
    case str z =>
      refine .inr (.inr (go _ fun v H1 α1 r1 t1 rv => ?_))
      exact ⟨z, rx_str rv, k _ H1 α1 r1 t1 walk_chars⟩
theorem id_vals {tg e : Expr} {fa : FE} {apos cpos : Pos} (ha : PED X e fa) (hbase : attributeBase e "values" X.env (eval e X.env) = eval e X.env := by rfl) (hline : (apos.endLine == cpos.line) = true := by rfl) : PID X tg (.Call (.Attribute e "values" apos) [] [] cpos) (dItVals fa) := by
  refine ⟨fun W tk => ?_⟩
  obtain ⟨t, p, q⟩ := ha.run W tk
  refine ⟨_, pi_values p hbase hline, fun H0 α0 σ H α s R r k => q H0 α0 σ H α s _ r ?_⟩
  unfold dItVals at k
  cases ea : fa s with
  | bad => rw [ea] at k; exact k.elim
  | exc e s1 => rw [ea] at k; exact k
  | ok d s1 =>
    rw [ea] at k
    intro v H1 α1 r1 t1 rv
    simp only [Res.bind] at k
    cases ed : frzD d with
    | none => rw [ed] at k; exact k.elim
    | some kvs =>
      rw [ed] at k
      obtain ⟨a, o, kv, rfl, h1, rr⟩ := frzD_at rv ed
      exact ⟨a, o, kv, rfl, h1, k _ H1 α1 r1 t1 (walk_vals h1 rr)⟩
theorem id_items {elts : List Expr} {kk : Nat} {tpos : Pos} {e : Expr} {fa : FE} {apos cpos : Pos} (ha : PED X e fa) (hbase : attributeBase e "items" X.env (eval e X.env) = eval e X.env := by rfl) (hline : (apos.endLine == cpos.line) = true := by rfl) : PID X (.Tuple elts kk tpos) (.Call (.Attribute e "items" apos) [] [] cpos) (dItItems fa) := by
  refine ⟨fun W tk => ?_⟩
  obtain ⟨t, p, q⟩ := ha.run W tk
  refine ⟨_, pi_items p hbase hline, fun H0 α0 σ H α s R r k => q H0 α0 σ H α s _ r ?_⟩
  unfold dItItems at k
  cases ea : fa s with
  | bad => rw [ea] at k; exact k.elim
  | exc e s1 => rw [ea] at k; exact k
  | ok d s1 =>
    rw [ea] at k
    intro v H1 α1 r1 t1 rv
    simp only [Res.bind] at k
    cases ed : frzD d with
    | none => rw [ed] at k; exact k.elim
    | some kvs =>
      rw [ed] at k
      obtain ⟨a, o, kv, rfl, h1, rr⟩ := frzD_at rv ed
      exact ⟨a, o, kv, rfl, h1, k _ H1 α1 r1 t1 (walk_items h1 rr)⟩
/-! ### 39. Methods: get, pop, index -/
theorem mtm_get2 (hu : X.A.units + 1 < cLine) : MtM X "dict.get" (fun x xs H Q => ∃ a y d o, x = .ref a ∧ xs = [y, d] ∧ DGet H a y o ∧ Q (o.getD d) H) := fun pins s σ H x xs v us Q I rv rvs h => by
  obtain ⟨a, y, d, o, rfl, rfl, g, q⟩ := h
  cases (show v = Value.ref a from rv)
  cases rvs with
  | cons r1 r2 =>
    obtain ⟨u2, rfl, r3⟩ := vals1 r2
    exact d_get2 hu I g r1 r3 fun w' s' I' rw' => ⟨_, H, I', rw', q⟩
def gGet2 : S → D → List D → Option (D × S) := fun s o ds => match ds with
  | [k, x] => (asD s o).bind fun kvs => if (keyD k).isSome && noOwn x then some ((lookD kvs k).getD x, s) else none
  | _ => none
theorem mb_get2 (hu : X.A.units + 1 < cLine) : MB X "dict.get" gGet2 := .of (mtm_get2 hu) fun H0 α0 σ H α s xv xs o ds d s' Q r rx rxs e q => by
  unfold gGet2 at e
  split at e
  · rename_i k x
    cases ea : asD s o with
    | none => rw [ea] at e; cases e
    | some kvs =>
      rw [ea] at e
      simp only [Option.bind_some] at e
      split at e
      · rename_i hk
        cases e
        rw [Bool.and_eq_true] at hk
        obtain ⟨v1, v2, rfl, r1, r2⟩ := rxs.two
        obtain ⟨q0, ek⟩ := Option.isSome_iff_exists.mp hk.1
        obtain ⟨a, kv, rfl, h1, h2, _⟩ := asD_ok r rx ea
        cases key_kV r1 ek
        refine ⟨a, _, v2, _, rfl, rfl, dget_of h1, q _ _ _ r (Stay.refl _ _) ?_⟩
        rcases rkv_look ek h2 with ⟨z1, z2⟩ | ⟨d', v, h3, h4, h5⟩
        · rw [z1, z2]; exact r2
        · rw [h3, h4]; exact Rv.x h5
      · cases e
  · cases e
theorem pd_get2 {o e f : Expr} {apos cpos : Pos} {fo : FE} {fa : FA} (hu : X.A.units + 65 < cLine) (ho : PED X o fo) (ha : PAD X [e, f] fa) (hbase : attributeBase o "get" X.env (eval o X.env) = eval o X.env := by rfl)
    (hfew : ((backTo cpos (starEach [e, f] X.env)).all (fun x => !x.1) && (backToKw cpos (keywordEach [] X.env)).all (fun x => x.1.isSome)
      && decide ([e, f].length + ([] : List Keyword).length + (if ([] : List Keyword).isEmpty then 0 else 1) < 30)) = true := by rfl)
    (hline : (apos.endLine == cpos.line) = true := by rfl) (hs : starEach [e, f] X.env = (false, eval e X.env) :: starEach [f] X.env := by rfl) (hplain : (backTo cpos (starEach [f] X.env)).any (·.1) = false := by rfl) :
    PED X (.Call (.Attribute o "get" apos) [e, f] [] cpos) (dM "dict" gGet2 fo fa) := pd_m (.inr (.inl rfl)) F.plainAttrs_dict F.slot_dict_get F.type_dict_get (mb_get2 (by omega)) ho ha hbase hfew hline hs hplain
theorem mtm_pop2 : MtM X "dict.pop" (fun x xs H Q => ∃ a kvs k d, x = .ref a ∧ xs = [kV k, d] ∧ H a = some (.dK kvs) ∧ (∀ v, valV kvs k = some v → Q v (upd H a (.dK (dropK kvs k)))) ∧ (valV kvs k = none → Q d H)) := fun pins s σ H x xs v us Q I rv rvs h => by
  obtain ⟨a, kvs, k, d, rfl, rfl, e, q1, q2⟩ := h
  cases (show v = Value.ref a from rv)
  cases rvs with
  | cons r1 r2 =>
    obtain ⟨u2, rfl, r3⟩ := vals1 r2
    cases l : valV kvs k with
    | some v => exact d_pop I e r1 l (.inr ⟨u2, rfl⟩) fun w' s' I' rw' => ⟨v, _, I', rw', q1 v l⟩
    | none => exact d_popD I e r1 l fun s' I' => ⟨d, H, I', r3, q2 l⟩
def gPop2 : S → D → List D → Option (D × S) := fun s o ds => match ds, mutAt s o with
  | [k, x], some (.dct kvs) => if keysOk kvs && (keyD k).isSome && noOwn x then some (match lookD kvs k with | some v => (v, setAt s o (.dct (dropD kvs k))) | none => (x, s)) else none
  | _, _ => none
theorem mb_pop2 : MB X "dict.pop" gPop2 := .of mtm_pop2 fun H0 α0 σ H α s xv xs o ds d s' Q r rx rxs e q => by
  unfold gPop2 at e
  split at e
  · rename_i k x kvs em
    split at e
    · rename_i hk
      rw [Bool.and_eq_true, Bool.and_eq_true] at hk
      obtain ⟨v1, v2, rfl, r1, r2⟩ := rxs.two
      obtain ⟨q0, ek⟩ := Option.isSome_iff_exists.mp hk.1.2
      obtain ⟨a, rfl, hcell, kk⟩ := mut_at r rx em
      obtain ⟨kv, hv, rr⟩ := cell_dK hcell hk.1.1
      cases key_kV r1 ek
      obtain ⟨k1, t⟩ := mut_upd (α := α) (o := .dK (dropK kv q0)) hv (fun z => z)
      refine ⟨a, kv, q0, v2, rfl, rfl, hv, fun v l => ?_, fun l => ?_⟩
      · rcases rkv_look ek rr with ⟨z1, z2⟩ | ⟨d', w, h3, h4, h5⟩
        · rw [l] at z2; cases z2
        · rw [l] at h4
          cases h4
          rw [h3] at e
          cases e
          exact q _ _ α (kk _ _ k1 t (.inl ⟨_, upd_same, rkv_drop ek (Rkv.stay t _ _ rr)⟩)) t (Rv.x (Rv.stay t _ _ h5))
      · rcases rkv_look ek rr with ⟨z1, z2⟩ | ⟨d', w, h3, h4, h5⟩
        · rw [z1] at e
          cases e
          exact q _ _ _ r (Stay.refl _ _) r2
        · rw [l] at h4; cases h4
    · cases e
  · cases e
theorem pd_pop2 {o e f : Expr} {apos cpos : Pos} {fo : FE} {fa : FA} (ho : PED X o fo) (ha : PAD X [e, f] fa) (hbase : attributeBase o "pop" X.env (eval o X.env) = eval o X.env := by rfl)
    (hfew : ((backTo cpos (starEach [e, f] X.env)).all (fun x => !x.1) && (backToKw cpos (keywordEach [] X.env)).all (fun x => x.1.isSome)
      && decide ([e, f].length + ([] : List Keyword).length + (if ([] : List Keyword).isEmpty then 0 else 1) < 30)) = true := by rfl)
    (hline : (apos.endLine == cpos.line) = true := by rfl) (hs : starEach [e, f] X.env = (false, eval e X.env) :: starEach [f] X.env := by rfl) (hplain : (backTo cpos (starEach [f] X.env)).any (·.1) = false := by rfl) :
    PED X (.Call (.Attribute o "pop" apos) [e, f] [] cpos) (dM "dict" gPop2 fo fa) := pd_m (.inr (.inl rfl)) F.plainAttrs_dict F.slot_dict_pop F.type_dict_pop mb_pop2 ho ha hbase hfew hline hs hplain
/-- xs.pop(i) -/
def gPopAt : S → D → List D → Option (D × S) := fun s o ds => match ds, mutAt s o with
  | [.int i], some (.lst xs) => (seqIndex? i xs.length).bind fun k => if decide (-(2 ^ 63) ≤ i) && decide (i < 2 ^ 63) then xs[k]?.map fun d => (d, setAt s o (.lst (xs.eraseIdx k))) else none
  | _, _ => none
theorem rvs_erase {K : PySem.W.Frag} {H : Hp} {α : List Addr} : ∀ {ds : List D} {vs : List V} (k : Nat), Rvs K H α ds vs → Rvs K H α (ds.eraseIdx k) (vs.eraseIdx k)
  | [], _, k, h => by simp only [Rvs] at h; subst h; simp [Rvs]
  | d :: ds, l, k, h => by
    simp only [Rvs] at h
    obtain ⟨v, r, rfl, h1, h2⟩ := h
    cases k with
    | zero => exact h2
    | succ k => exact .cons h1 (rvs_erase k h2)
theorem mb_popAt : MB X "list.pop" gPopAt := .of mt_popAt fun H0 α0 σ H α s xv xs o ds d s' Q r rx rxs e q => by
  unfold gPopAt at e
  split at e
  · rename_i i ys em
    rw [Option.bind_eq_some_iff] at e
    obtain ⟨k, ek, e⟩ := e
    split at e
    · rename_i hi
      rw [Bool.and_eq_true, decide_eq_true_eq, decide_eq_true_eq] at hi
      rw [Option.map_eq_some_iff] at e
      obtain ⟨d', ed, e⟩ := e
      cases e
      obtain ⟨w, rfl, rw⟩ := rxs.one
      obtain ⟨a, rfl, hcell, kk⟩ := mut_at r rx em
      obtain ⟨vs, hv, rr⟩ := hcell
      obtain ⟨y, ey, ry⟩ := rr.at_ ed
      obtain ⟨k1, t⟩ := mut_upd (α := α) (o := .lst (vs.eraseIdx k)) hv (fun z => z)
      rw [rx_int rw]
      exact ⟨a, vs, i, k, y, rfl, rfl, hv, hi.1, hi.2, by rw [rr.length]; exact ek, ey, q _ _ α (kk _ _ k1 t ⟨_, upd_same, rvs_erase k (Rvs.stay t _ _ rr)⟩) t (Rv.x (Rv.stay t _ _ ry))⟩
    · cases e
  · cases e
theorem pd_popAt {o e : Expr} {apos cpos : Pos} {fo : FE} {fa : FA} (ho : PED X o fo) (ha : PAD X [e] fa) (hbase : attributeBase o "pop" X.env (eval o X.env) = eval o X.env := by rfl)
    (hfew : ((backTo cpos (starEach [e] X.env)).all (fun x => !x.1) && (backToKw cpos (keywordEach [] X.env)).all (fun x => x.1.isSome)
      && decide ([e].length + ([] : List Keyword).length + (if ([] : List Keyword).isEmpty then 0 else 1) < 30)) = true := by rfl)
    (hline : (apos.endLine == cpos.line) = true := by rfl) (hs : starEach [e] X.env = (false, eval e X.env) :: starEach [] X.env := by rfl) (hplain : (backTo cpos (starEach [] X.env)).any (·.1) = false := by rfl) :
    PED X (.Call (.Attribute o "pop" apos) [e] [] cpos) (dM "list" gPopAt fo fa) := pd_m (.inl rfl) F.plainAttrs_list F.slot_list_pop F.type_list_pop mb_popAt ho ha hbase hfew hline hs hplain
end
end DL

namespace DL
open PySem PySem.Spec PyProof.Rows L2
variable [DLX]
/-! ### 40. Stores: d[k] = v, d[k] += v -/
def gSetD : S → D → D → D → Option S := fun s o i d => match mutAt s o with
  | some (.dct kvs) => if keysOk kvs && (keyD i).isSome && decide (kvs.length < 16777216) then some (setAt s o (.dct (putD kvs i d))) else none
  | _ => none
def gSetA : S → D → D → D → Option S := fun s o i d => (gSetI s o i d).or (gSetD s o i d)
section
variable {X : Cx}
theorem PSet.or {t t' : TSet} (h : PSet X t) (h' : PSet X t') : PSet X (fun o i v H Q => t o i v H Q ∨ t' o i v H Q) := fun pins s σ H o i v ov iv u Q I ro ri rv q => by
  rcases q with q | q
  · exact h pins s σ H o i v ov iv u Q I ro ri rv q
  · exact h' pins s σ H o i v ov iv u Q I ro ri rv q
theorem dput_core {K : PySem.W.Frag} {H0 H : Hp} {α0 α : List Addr} {σ : Sg} {s s' : S} {x y v : V} {a b d : D} {Q : Hp → Prop} (r : Rel K H0 α0 H α σ s) (rx : Rx K H α σ a x) (ry : Rx K H α σ b y) (rv : Rv K H α d v) (e : gSetD s a b d = some s') (q : ∀ H' α', Rel K H0 α0 H' α' σ s' → Stay H α H' α' → Q H') :
    ∃ p H', x = .ref p ∧ DPut H p y v H' ∧ Q H' := by
  unfold gSetD at e
  split at e
  · rename_i kvs em
    split at e
    · rename_i hk
      cases e
      rw [Bool.and_eq_true, Bool.and_eq_true, decide_eq_true_eq, ← sizeLine_eq] at hk
      obtain ⟨q0, ek⟩ := Option.isSome_iff_exists.mp hk.1.2
      obtain ⟨p, rfl, hcell, kk⟩ := mut_at r rx em
      obtain ⟨kv, hv, rr⟩ := cell_dK hcell hk.1.1
      cases key_kV ry ek
      obtain ⟨k1, t⟩ := mut_upd (α := α) (o := .dK (putK kv q0 v)) hv (fun z => z)
      exact ⟨p, _, rfl, DPut.k hv (by rw [rkv_len rr]; exact hk.2), q _ α (kk _ _ k1 t (.inl ⟨_, upd_same, rkv_put ek (Rv.stay t _ _ rv) (Rkv.stay t _ _ rr)⟩)) t⟩
    · cases e
  · cases e
theorem ss_dict : SetS X rSetD gSetD := fun H0 α0 σ H α s x y v a b d s' Q r rx ry rv e q => dput_core r rx ry rv e q
theorem SetS.or {t t' : TSet} {g g' : S → D → D → D → Option S} (h : SetS X t g) (h' : SetS X t' g') : SetS X (fun o i v H Q => t o i v H Q ∨ t' o i v H Q) (fun s a b d => (g s a b d).or (g' s a b d)) := fun H0 α0 σ H α s x y v a b d s' Q r rx ry rv e q => by
  dsimp only at e
  cases eg : g s a b d with
  | some s2 =>
    rw [eg] at e
    obtain rfl : s2 = s' := Option.some.inj e
    exact .inl (h H0 α0 σ H α s x y v a b d s2 Q r rx ry rv eg q)
  | none =>
    rw [eg] at e
    exact .inr (h' H0 α0 σ H α s x y v a b d s' Q r rx ry rv e q)
theorem sd_setA {a b e : Expr} {st : Stmt} {tpos : Pos} {fe fo fi : FE} (hu : X.A.units + 65 < cLine) (hp : ∀ te t, PE X e te → PG X (.Subscript a b tpos) t → PS X st (tAsg te t)) (he : PED X e fe) (ho : PED X a fo) (hi : PED X b fi)
    (ha : ∀ v, assign (.Subscript a b tpos) X.env v = (do
      let ov ← holding [v] (eval a X.env)
      let iv ← holding [v, ov] (eval b X.env)
      standAt tpos
      holding [v, ov, iv] (setItem ov iv v)
      release [v, ov, iv] []) := by intro _; rfl) : PSD X st (dSetI gSetA fe fo fi) :=
  sd_setI hp (PSet.or set_list (set_dict (by omega))) (SetS.or ss_list ss_dict) he ho hi ha
/-- d[k] += v, ints -/
def dAugD (fo fi fe : FE) : FS := fun s => match ((fo s).bind fun o s1 => (fi s1).bind fun i s2 => match (asD s2 o).bind fun kvs => if (keyD i).isSome then lookD kvs i else none with
    | some (.int n) => (fe s2).bind fun e s3 => (match e with
      | .int m => (match gSetD s3 o i (.int (n + m)) with | some s4 => Res.ok () s4 | none => .bad)
      | _ => .bad)
    | _ => .bad) with
  | .ok _ s4 => .nx s4
  | .exc e s4 => .exc e s4
  | .bad => .bad
theorem sd_augD {o i value : Expr} {pos tpos : Pos} {fo fi fe : FE} (hu : X.A.units + 65 < cLine) (ho : PED X o fo) (hi : PED X i fi) (he : PED X value fe)
    (ha : ∀ ov iv new, augStore i ov iv new = (do holding [new, ov, iv] (setItem ov iv new); release [new, ov, iv] []; pure .next) := by intro _ _ _; rfl) : PSD X (.AugAssign (.Subscript o i tpos) .Add value pos) (dAugD fo fi fe) := by
  refine ⟨fun W tk => ?_⟩
  obtain ⟨to, po, qo⟩ := ho.run W tk
  obtain ⟨ti, pi, qi⟩ := hi.run W tk
  obtain ⟨te, pe, qe⟩ := he.run W tk
  refine ⟨_, ps_daug (by omega) po pi pe in_add ha, fun H0 α0 σ H α s D rl k => qo H0 α0 σ H α s _ rl ?_⟩
  unfold dAugD at k
  cases eo : fo s with
  | bad => rw [eo] at k; exact k.elim
  | exc e s1 => rw [eo] at k; exact fun cls dd H' α' r' x => k cls dd σ H' α' r' x
  | ok od s1 =>
    rw [eo] at k
    simp only [Res.bind] at k
    intro x H1 α1 r1 t1 rx
    refine qi H0 α0 σ H1 α1 s1 _ r1 ?_
    cases ei : fi s1 with
    | bad => rw [ei] at k; exact k.elim
    | exc e s2 => rw [ei] at k; exact fun cls dd H' α' r' x => k cls dd σ H' α' r' x
    | ok id s2 =>
      rw [ei] at k
      simp only at k
      intro y H2 α2 r2 t2 ry
      cases el : (asD s2 od).bind fun kvs => if (keyD id).isSome then lookD kvs id else none with
      | none => rw [el] at k; exact k.elim
      | some dv =>
        rw [el] at k
        cases dv <;> simp only at k <;> try exact k.elim
        rename_i n
        rw [Option.bind_eq_some_iff] at el
        obtain ⟨kvs, ea, el⟩ := el
        split at el
        · rename_i hk
          obtain ⟨q0, ek⟩ := Option.isSome_iff_exists.mp hk
          obtain ⟨a, kv, rfl, h1, h2, _⟩ := asD_ok r2 (rx.stay t2) ea
          cases key_kV ry ek
          rcases rkv_look ek h2 with ⟨z, _⟩ | ⟨d', v, h3, h4, h5⟩
          · rw [z] at el; cases el
          · rw [h3] at el
            cases el
            refine ⟨a, v, rfl, by rw [← h4]; exact dget_of h1, ?_⟩
            refine qe H0 α0 σ H2 α2 s2 _ r2 ?_
            cases ee : fe s2 with
            | bad => rw [ee] at k; exact k.elim
            | exc e s3 => rw [ee] at k; exact fun cls dd H' α' r' x => k cls dd σ H' α' r' x
            | ok ed s3 =>
              rw [ee] at k
              simp only at k
              intro y2 H3 α3 r3 t3 ry2
              cases ed <;> simp only at k <;> try exact k.elim
              rename_i m
              cases eg : gSetD s3 od id (.int (n + m)) with
              | none => rw [eg] at k; exact k.elim
              | some s4 =>
                rw [eg] at k
                have hv : v = .int n := by simpa only [Rv] using h5
                have hy : y2 = .int m := rx_int ry2
                subst hv
                subst hy
                refine ⟨n, m, rfl, rfl, ?_⟩
                obtain ⟨p, H5, e5, g5, q5⟩ := dput_core (Q := fun H' => D.nx σ H') (v := .int (n + m)) r3 ((rx.stay t2).stay t3) (ry.stay t3) (by simp only [Rv]) eg fun H' α' r' t' => k σ H' α' r' (((t1.trans t2).trans t3).trans t')
                cases e5
                exact ⟨H5, g5, q5⟩
        · cases el
end
/-! ### 41. Making dicts -/
theorem rkv_merge {K : PySem.W.Frag} {H : Hp} {α : List Addr} : ∀ {ps : List (D × D)} {kvs : List (Key × V)} {acc : List (D × D)} {acv : List (Key × V)}, Rkv K H α ps kvs → Rkv K H α acc acv → Rkv K H α (mergeD acc ps) (mergeK acv kvs)
  | [], _, _, _, h, h' => by
    simp only [Rkv] at h
    subst h
    exact h'
  | (k, d) :: ps, l, acc, acv, h, h' => by
    obtain ⟨q, v, r, rfl, h0, h1, h2⟩ := rkv_inv h
    show Rkv K H α (mergeD (putD acc k d) ps) (mergeK (putK acv q v) r)
    exact rkv_merge h2 (rkv_put h0 h1 h')
theorem new_dct {K : PySem.W.Frag} {H0 H : Hp} {α0 α : List Addr} {σ : Sg} {s : S} {p : Addr} {xs : List (D × D)} {vs : List (Key × V)} {Q : VK} (r : Rel K H0 α0 H α σ s) (h : H p = none) (rr : Rkv K H α xs vs)
    (q : ∀ a H' α', Rel K H0 α0 H' α' σ s → Stay H α H' α' → RF K H0 H' α' σ s a (.dct xs) → Q (.ref a) H') : Q (.ref p) (upd H p (.dK vs)) := by
  have t : Stay H α (upd H p (.dK vs)) α := Stay.upd_new h
  refine q p _ α (r.new h) t ⟨.inl ⟨vs, upd_same, Rkv.stay t _ _ rr⟩, r.nota h, r.free0 h, fun i c' h1 h2 => ?_⟩
  obtain ⟨a, e1, _, _, e2⟩ := r.slots.own i c' h1
  rw [h2] at e1
  cases e1
  obtain ⟨o, e3⟩ := e2.some
  rw [h] at e3
  cases e3
def pairOf : D → Option (D × D)
  | .tup [k, v] => if (keyD k).isSome then some (k, v) else none
  | _ => none
def gDictP : S → List D → Option Cell := fun s ds => match ds with
  | [d] => (asL s d).bind fun xs => (xs.mapM pairOf).map fun ps => .dct (mergeD [] ps)
  | _ => none
section
variable {X : Cx}
theorem pairs_at {K : PySem.W.Frag} {H : Hp} {α : List Addr} : ∀ {xs : List D} {vs : List V} {ps : List (D × D)}, Rvs K H α xs vs → xs.mapM pairOf = some ps → ∃ (as : List Addr) (kvs : List (Key × V)), vs = as.map V.ref ∧ Paired (fun p kv => SqT K H p [kV kv.1, kv.2]) as kvs ∧ Rkv K H α ps kvs
  | [], vs, ps, h, e => by
    simp only [Rvs] at h
    subst h
    simp only [List.mapM_nil, Option.pure_def, Option.some.injEq] at e
    subst e
    exact ⟨[], [], rfl, .nil, rkv_nil⟩
  | x :: xs, vs, ps, h, e => by
    simp only [Rvs] at h
    obtain ⟨v, r, rfl, h1, h2⟩ := h
    rw [List.mapM_cons] at e
    simp only [Option.bind_eq_bind, Option.bind_eq_some_iff, Option.pure_def, Option.some.injEq] at e
    obtain ⟨p, ep, qs, eq, rfl⟩ := e
    obtain ⟨as, kvs, rfl, g1, g2⟩ := pairs_at h2 eq
    unfold pairOf at ep
    split at ep
    · rename_i k d
      split at ep
      · rename_i hk
        cases ep
        obtain ⟨q0, ek⟩ := Option.isSome_iff_exists.mp hk
        simp only [Rv] at h1
        obtain ⟨a, l, rfl, hs, rr⟩ := h1
        simp only [Rvs] at rr
        obtain ⟨v1, r1, rfl, z1, v2, r2, rfl, z2, rfl⟩ := rr
        cases key_kV (σ := []) (Rv.x z1) ek
        exact ⟨a :: as, (q0, v2) :: kvs, rfl, .cons hs g1, rkv_cons ek z2 g2⟩
      · cases ep
    · cases ep
theorem bif_dictP (hc : X.calm = true) : BIF X (.type "dict") gDictP := .of (call_dictP hc) fun H0 α0 σ H α s xs ds c Q r rx e q => by
  unfold gDictP at e
  split at e
  · rename_i d
    obtain ⟨v, rfl, rx1⟩ := rx.one
    rw [Option.bind_eq_some_iff] at e
    obtain ⟨ys, ea, e⟩ := e
    rw [Option.map_eq_some_iff] at e
    obtain ⟨ps, ep, rfl⟩ := e
    obtain ⟨a, vs, rfl, h1, rr⟩ := asL_ok r rx1 ea
    obtain ⟨as, kvs, rfl, g1, g2⟩ := pairs_at rr ep
    exact ⟨a, as, kvs, rfl, h1, g1, fun p hp => new_dct r hp (rkv_merge g2 rkv_nil) q⟩
  · cases e
end
/-! {k: v, ..} -/
abbrev FP := S → Res (List (D × D))
structure PPD (X : Cx) (pos : Pos) (keys : List (Option Expr)) (values : List Expr) (f : FP) : Prop where
  run : ∀ W, Takes X W → ∃ trs, PPs X pos keys values trs ∧ ∀ H0 α0 σ H α s (Q : List (V × V) → Hp → Prop), Rel X.K H0 α0 H α σ s → (match f s with
    | .ok ps s' => ∀ vs H' α', Rel X.K H0 α0 H' α' σ s' → Stay H α H' α' → Paired (fun (p : D × D) (q : V × V) => Rv X.K H' α' p.1 q.1 ∧ Rv X.K H' α' p.2 q.2) ps vs → Q vs H'
    | .exc e s' => ∀ cls dd H' α', Rel X.K H0 α0 H' α' σ s' → ExR X.K H' α' e cls dd → W cls dd σ H'
    | .bad => False) → tPairs trs σ H Q
def dPn : FP := fun s => .ok [] s
def dPc (fk fv : FE) (r : FP) : FP := fun s => (fk s).bind fun k s1 => (fv s1).bind fun v s2 => if noOwn k && noOwn v then (r s2).bind fun ps s3 => .ok ((k, v) :: ps) s3 else .bad
section
variable {X : Cx} {pos : Pos}
theorem pp_n : PPD X pos [] [] dPn := ⟨fun W _ => ⟨_, pps_nil, fun H0 α0 σ H α s Q r q => q [] H α r (Stay.refl _ _) .nil⟩⟩
theorem pp_c {k v : Expr} {ks : List (Option Expr)} {vs : List Expr} {fk fv : FE} {fr : FP} (hk : PED X k fk) (hv : PED X v fv) (hr : PPD X pos ks vs fr) : PPD X pos (some k :: ks) (v :: vs) (dPc fk fv fr) := by
  refine ⟨fun W tk => ?_⟩
  obtain ⟨t1, p1, q1⟩ := hk.run W tk
  obtain ⟨t2, p2, q2⟩ := hv.run W tk
  obtain ⟨t3, p3, q3⟩ := hr.run W tk
  refine ⟨_, pps_cons p1 p2 p3, fun H0 α0 σ H α s Q r q => q1 H0 α0 σ H α s _ r ?_⟩
  unfold dPc at q
  cases e1 : fk s with
  | bad => rw [e1] at q; exact q.elim
  | exc e s1 => rw [e1] at q; exact q
  | ok dk s1 =>
    rw [e1] at q
    simp only [Res.bind] at q
    intro x H1 α1 r1 t1 rx
    refine q2 H0 α0 σ H1 α1 s1 _ r1 ?_
    cases e2 : fv s1 with
    | bad => rw [e2] at q; exact q.elim
    | exc e s2 => rw [e2] at q; exact q
    | ok dv s2 =>
      rw [e2] at q
      simp only at q
      intro y H2 α2 r2 t2 ry
      by_cases hn : (noOwn dk && noOwn dv) = true
      · simp only [hn, if_true] at q
        rw [Bool.and_eq_true] at hn
        refine q3 H0 α0 σ H2 α2 s2 _ r2 ?_
        cases e3 : fr s2 with
        | bad => rw [e3] at q; exact q.elim
        | exc e s3 => rw [e3] at q; exact q
        | ok ps s3 =>
          rw [e3] at q
          intro vs' H3 α3 r3 t3 rr
          exact q _ H3 α3 r3 ((t1.trans t2).trans t3) (.cons ⟨Rv.stay (t2.trans t3) _ _ (noOwn_rv rx hn.1), Rv.stay t3 _ _ (noOwn_rv ry hn.2)⟩ rr)
      · rw [Bool.not_eq_true] at hn
        simp only [hn, Bool.false_eq_true, if_false] at q
def dDisp (fp : FP) : FC := fun s => (fp s).bind fun ps s1 => if ps.all (fun p => (keyD p.1).isSome) && decide (ps.length ≤ 15) then .ok (.dct (mergeD [] ps)) s1 else .bad
theorem prs_at {K : PySem.W.Frag} {H : Hp} {α : List Addr} : ∀ {ps : List (D × D)} {vs : List (V × V)}, Paired (fun (p : D × D) (q : V × V) => Rv K H α p.1 q.1 ∧ Rv K H α p.2 q.2) ps vs → ps.all (fun p => (keyD p.1).isSome) = true →
    ∃ kvs : List (Key × V), vs = kvs.map (fun kv => (kV kv.1, kv.2)) ∧ Rkv K H α ps kvs
  | [], _, .nil, _ => ⟨[], rfl, rkv_nil⟩
  | (k, d) :: ps, _, .cons (b := (x, y)) a t, h => by
    rw [List.all_cons, Bool.and_eq_true] at h
    obtain ⟨kvs, rfl, g⟩ := prs_at t h.2
    obtain ⟨q0, ek⟩ := Option.isSome_iff_exists.mp h.1
    cases key_kV (σ := []) (Rv.x a.1) ek
    exact ⟨(q0, y) :: kvs, rfl, rkv_cons ek a.2 g⟩
theorem pf_disp {keys : List (Option Expr)} {values : List Expr} {fp : FP} (h : PPD X pos keys values fp) (hall : keys.all (·.isSome) = true := by rfl) (hl : keys.length = values.length := by rfl) (h0 : keys ≠ [] := by exact fun z => nomatch z)
    (h15 : keys.length ≤ 15 := by decide) : PFD X (.Dict keys values pos) (dDisp fp) := by
  refine ⟨fun W tk => ?_⟩
  obtain ⟨trs, p, q⟩ := h.run W tk
  refine ⟨_, pe_disp p hall hl h0 h15, fun H0 α0 σ H α s Q r k a ha => ?_⟩
  have hn : H0 a = none := r.free0 ha
  have n0 : a ∉ α0 := fun z => r.nota ha (r.st.pre.subset z)
  refine q (upd H0 a (.dK [])) α0 σ _ α s _ (r.pin ha (fun z => z)) ?_
  unfold dDisp at k
  cases e : fp s with
  | bad => rw [e] at k; exact k.elim
  | exc e2 s1 =>
    rw [e] at k
    exact fun cls dd H' α' r' x => k cls dd H' α' (r'.unpin hn) x
  | ok ps s1 =>
    rw [e] at k
    simp only [Res.bind] at k
    intro vs H1 α1 r1 t1 rr
    split at k
    · rename_i hc
      rw [Bool.and_eq_true, decide_eq_true_eq] at hc
      obtain ⟨kvs, rfl, g⟩ := prs_at rr hc.1
      refine ⟨r1.pinned n0, kvs, rfl, by rw [rkv_len g]; exact hc.2, ?_⟩
      obtain ⟨rp, tp⟩ := r1.repin (o' := .dK (mergeK [] kvs)) n0 (fun z => z) (fun z => z)
      exact k a _ α1 (rp.unpin hn) ((Stay.upd_new ha).trans (t1.trans tp)) (rp.pinRF hn n0 (.inl ⟨_, upd_same, rkv_merge (Rkv.stay tp _ _ g) rkv_nil⟩))
    · exact k.elim
end
end DL

namespace DL
open PySem PySem.Spec PyProof.Rows L2
/-! ### 42. {k: v for t in it if c} -/
def dDcGo (vs : List Nat) (g : FG) (ft : FT) (fk fv : FE) : List D → List (D × D) → S → Res (List (D × D))
  | [], acc, s => .ok acc s
  | d :: ds, acc, s => match g d { s with δ := wipeD s.δ vs } with
    | none => .bad
    | some s1 => match ft s1 with
      | .ok true s2 => (match fk s2 with
        | .ok k s3 => (match fv s3 with
          | .ok v s4 => if (keyD k).isSome && noOwn v then dDcGo vs g ft fk fv ds (putD acc k v) { δ := backD s.δ s4.δ vs, μ := s4.μ } else .bad
          | _ => .bad)
        | _ => .bad)
      | .ok false s2 => dDcGo vs g ft fk fv ds acc { δ := backD s.δ s2.δ vs, μ := s2.μ }
      | _ => .bad
def dDc (vs : List Nat) (fi : FA) (g : FG) (ft : FT) (fk fv : FE) : FC := fun s => (fi s).bind fun ds s1 => if ds.length ≤ 16777216 && vs.all (fun v => !isOwn s1.δ v) then (match dDcGo vs g ft fk fv ds [] s1 with | .ok ys s2 => .ok (.dct ys) s2 | _ => .bad) else .bad
theorem putD_len (acc : List (D × D)) (k v : D) : (putD acc k v).length ≤ acc.length + 1 := by
  unfold putD
  split
  · rw [List.length_map]; omega
  · rw [List.length_append]; simp
variable [DLX]
section
variable {X : Cx} {kx vx tg iter : Expr} {ifs : List Expr} {scope : Scope} {own : List (Str × Nat)} {pos : Pos} {fi : FA} {g : FG} {ft : FT} {fk fv : FE} {ws : List Nat}
theorem dc_ex (hi : PID X tg iter fi) (hw : ws.all (fun i => (own.map (·.2)).contains i) = true) (hg : ∀ b, PGD (CxB X scope b) tg ws g) (ht : ∀ b, PTsD (CxB X scope b) ifs ft) (hk : ∀ b, PED (CxB X scope b) kx fk) (he : ∀ b, PED (CxB X scope b) vx fv) (W : WX) (tk : Takes X W) :
    ∃ wi tg' tt tkx te, PI X tg iter wi ∧ (∀ b, PG (CxB X scope b) tg tg') ∧ (∀ b, PTs (CxB X scope b) ifs tt) ∧ (∀ b, PE (CxB X scope b) kx tkx) ∧ (∀ b, PE (CxB X scope b) vx te) ∧ ∀ H0 α0 σ H α s Q, Rel X.K H0 α0 H α σ s → PostF X.K H0 α0 σ W H α Q (dDc (own.map (·.2)) fi g ft fk fv s) → tDc wi tg' tt tkx te (own.map (·.2)) σ H Q := by
  obtain ⟨wi, pi, qi⟩ := hi.run W tk
  have hg' := fun b => (hg b).ex
  have ht' := fun b => (ht b).run _ Takes.none
  have hk' := fun b => (hk b).run _ Takes.none
  have he' := fun b => (he b).run _ Takes.none
  obtain ⟨tg1, hg2⟩ := Classical.axiomOfChoice hg'
  obtain ⟨tt1, ht2⟩ := Classical.axiomOfChoice ht'
  obtain ⟨tk1, hk2⟩ := Classical.axiomOfChoice hk'
  obtain ⟨te1, he2⟩ := Classical.axiomOfChoice he'
  refine ⟨wi, fun v σ H Q => ∀ b, tg1 b v σ H Q, fun σ H Q => ∀ b, tt1 b σ H Q, fun σ H Q => ∀ b, tk1 b σ H Q, fun σ H Q => ∀ b, te1 b σ H Q, pi, fun b => ⟨fun pins s v u σ H Q I r h => (hg2 b).1.run pins s v u σ H Q I r (h b)⟩, fun b => ⟨fun pins s σ H Q I h => (ht2 b).1.run pins s σ H Q I (h b)⟩,
    fun b => ⟨fun pins s σ H Q I h => (hk2 b).1.run pins s σ H Q I (h b)⟩, fun b => ⟨fun pins s σ H Q I h => (he2 b).1.run pins s σ H Q I (h b)⟩, fun H0 α0 σ H α s Q r q => qi H0 α0 σ H α s _ r ?_⟩
  unfold dDc at q
  cases ei : fi s with
  | bad => rw [ei] at q; exact q.elim
  | exc e s1 => rw [ei] at q; exact q
  | ok ds s1 =>
    rw [ei] at q
    intro J H1 α1 r1 t1 w
    simp only [Res.bind] at q
    split at q
    · rename_i hc
      rw [Bool.and_eq_true, decide_eq_true_eq] at hc
      obtain ⟨hl, hno⟩ := hc
      have no1 : ∀ v ∈ own.map (·.2), isOwn s1.δ v = false := fun v hv => by simpa using List.all_eq_true.mp hno v hv
      have hws : ∀ i ∈ ws, i ∈ own.map (·.2) := fun i h => by simpa using List.all_eq_true.mp hw i h
      generalize own.map (·.2) = vs at *
      intro Dd hD
      have h0 : H0 Dd = none := r1.free0 hD
      have n0 : Dd ∉ α0 := fun z => r1.nota hD (r1.st.pre.subset z)
      refine ⟨fun i m H => i + m = ds.length ∧ ∃ s' α' acc vacc, Rel X.K (upd H0 Dd (.dK vacc)) α0 H α' σ s' ∧ Stay H1 α1 H α' ∧ Rkv X.K H α' acc vacc ∧ acc.length ≤ i ∧ (∀ v ∈ vs, isOwn s'.δ v = false) ∧
        PostF X.K H0 α0 σ W H α' Q (match dDcGo vs g ft fk fv (ds.drop i) acc s' with | .ok ys s2 => .ok (.dct ys) s2 | _ => .bad), ⟨ds.length, Nat.zero_add _, s1, α1, [], [], r1.pin hD (fun z => z), Stay.upd_new hD, rkv_nil, Nat.zero_le _, no1, ?_⟩, ?_⟩
      · rw [List.drop_zero]
        have q2 : PostF X.K H0 α0 σ W H α Q (match dDcGo vs g ft fk fv ds [] s1 with | .ok ys s2 => .ok (.dct ys) s2 | _ => .bad) := q
        cases eg : dDcGo vs g ft fk fv ds [] s1 <;> rw [eg] at q2 <;> simp only at q2 ⊢
        · exact fun a H' α' r' t' rf => q2 a H' α' r' (t1.trans ((Stay.upd_new hD).trans t')) rf
        · exact q2
        · exact q2
      · rintro i m H2 ⟨hm, s', α', acc, vacc, rl, st, ra, hai, no, k⟩
        cases m with
        | zero =>
          have e : i = ds.length := by omega
          subst e
          rw [List.drop_length] at k
          simp only [dDcGo] at k
          exact .inl ⟨w.stop H2 α' st, k Dd H2 α' (rl.unpin h0) (Stay.refl _ _) (rl.pinRF h0 n0 (.inl ⟨vacc, rl.pinned n0, ra⟩))⟩
        | succ m =>
          have hi : i < ds.length := by omega
          have ed := List.getElem?_eq_getElem hi
          rw [List.drop_eq_getElem_cons hi] at k
          refine .inr ⟨w.go H2 α' i _ st ed, fun H' => ∃ m', m' < m + 1 ∧ (i + 1) + m' = ds.length ∧ ∃ s' α' acc vacc, Rel X.K (upd H0 Dd (.dK vacc)) α0 H' α' σ s' ∧ Stay H1 α1 H' α' ∧ Rkv X.K H' α' acc vacc ∧ acc.length ≤ i + 1 ∧ (∀ v ∈ vs, isOwn s'.δ v = false) ∧
            PostF X.K H0 α0 σ W H' α' Q (match dDcGo vs g ft fk fv (ds.drop (i + 1)) acc s' with | .ok ys s2 => .ok (.dct ys) s2 | _ => .bad), fun _ z => z, fun x H3 hy => ?_⟩
          obtain ⟨r3, t3, rv⟩ := w.yld _ α0 H2 α' σ s' i _ x H3 st rl ed hy
          unfold dDcGo at k
          cases eg : g ds[i] { s' with δ := wipeD s'.δ vs } with
          | none => rw [eg] at k; exact k.elim
          | some s4 =>
            rw [eg] at k
            intro b
            refine (hg2 b).2 _ α0 _ H3 α' _ _ x s4 _ (r3.wipe vs) rv eg fun σ4 H4 r4 t4 b4 => ⟨by rw [wipe_but b4 hws]; exact wipe_wipe σ vs, fun b => ?_⟩
            refine (ht2 b).2 _ α0 σ4 H4 α' s4 _ r4 ?_
            simp only at k
            cases et : ft s4 with
            | bad => rw [et] at k; exact k.elim
            | exc e s5 => rw [et] at k; exact k.elim
            | ok bb s5 =>
              rw [et] at k
              intro H5 α5 r5 t5
              have t35 := (t3.trans t4).trans t5
              cases bb with
              | false =>
                simp only at k
                rw [if_neg Bool.false_ne_true]
                refine ⟨m, Nat.lt_succ_self m, by omega, _, α5, acc, vacc, r3.back no (t4.trans t5) r5 b4 hws, st.trans t35, Rkv.stay t35 _ _ ra, by omega, back_no no, ?_⟩
                cases eq : dDcGo vs g ft fk fv (ds.drop (i + 1)) acc { δ := backD s'.δ s5.δ vs, μ := s5.μ } <;> rw [eq] at k <;> simp only at k ⊢
                · exact fun a H' α' r' t' rf => k a H' α' r' (t35.trans t') rf
                · exact k
                · exact k
              | true =>
                simp only at k
                rw [if_pos rfl]
                intro b
                refine (hk2 b).2 _ α0 σ4 H5 α5 s5 _ r5 ?_
                cases ek : fk s5 with
                | bad => rw [ek] at k; exact k.elim
                | exc e s6 => rw [ek] at k; exact k.elim
                | ok kd s6 =>
                rw [ek] at k
                simp only at k
                intro vk H6 α6 r6 t6 rk b
                refine (he2 b).2 _ α0 σ4 H6 α6 s6 _ r6 ?_
                cases ee : fv s6 with
                | bad => rw [ee] at k; exact k.elim
                | exc e s7 => rw [ee] at k; exact k.elim
                | ok y s7 =>
                  rw [ee] at k
                  intro v H7 α7 r7 t7 rx
                  simp only at k
                  cases hny : ((keyD kd).isSome && noOwn y) with
                  | false => rw [hny, if_neg Bool.false_ne_true] at k; exact k.elim
                  | true =>
                    rw [hny, if_pos rfl] at k
                    rw [Bool.and_eq_true] at hny
                    obtain ⟨q0, eq0⟩ := Option.isSome_iff_exists.mp hny.1
                    have rvy := noOwn_rv rx hny.2
                    have ekv := key_kV rk eq0
                    have rb := r3.back no (((t4.trans t5).trans t6).trans t7) r7 b4 hws
                    obtain ⟨rp, tp⟩ := rb.repin (o' := .dK (putK vacc q0 v)) n0 (fun z => z) (fun z => z)
                    have t37 := ((t35.trans t6).trans t7).trans tp
                    have hlen : acc.length < sizeLine := by rw [sizeLine_eq]; omega
                    refine ⟨vacc, q0, ekv, r7.pinned n0, by rw [rkv_len ra]; exact hlen, m, Nat.lt_succ_self m, by omega, _, α7, putD acc kd y, putK vacc q0 v, rp, st.trans t37, rkv_put eq0 (Rv.stay tp _ _ rvy) (Rkv.stay t37 _ _ ra), Nat.le_trans (putD_len acc kd y) (by omega), back_no no, ?_⟩
                    cases eq : dDcGo vs g ft fk fv (ds.drop (i + 1)) (putD acc kd y) { δ := backD s'.δ s7.δ vs, μ := s7.μ } <;> rw [eq] at k <;> simp only at k ⊢
                    · exact fun a H' α' r' t' rf => k a H' α' r' (t37.trans t') rf
                    · exact k
                    · exact k
    · exact q.elim
theorem pf_dc (hc : X.calm = true) (hN : X.N.Nodup) (ok : blkC X.N X.env.scope scope own = true) (hi : PID X tg iter fi) (hg : ∀ b, PGD (CxB X scope b) tg ws g) (ht : ∀ b, PTsD (CxB X scope b) ifs ft) (hk : ∀ b, PED (CxB X scope b) kx fk) (he : ∀ b, PED (CxB X scope b) vx fv) (hw : ws.all (fun i => (own.map (·.2)).contains i) = true := by rfl)
    (hs : ∀ x, foldedSetIterable iter X.env x = pure x := by intro _; rfl) : PFD X (.DictComp kx vx [⟨tg, iter, ifs, 0⟩] scope pos) (dDc (own.map (·.2)) fi g ft fk fv) := by
  refine ⟨fun W tk => ?_⟩
  obtain ⟨wi, tg', tt, tkx, te, h1, h2, h3, h4, h5, h6⟩ := dc_ex hi hw hg ht hk he W tk
  exact ⟨_, pe_dc hc hN h1 (blkOk_by ok) (fun s H C cl fp => h2 ⟨s, H, C, cl, fp⟩) (fun s H C cl fp => h3 ⟨s, H, C, cl, fp⟩) (fun s H C cl fp => h4 ⟨s, H, C, cl, fp⟩) (fun s H C cl fp => h5 ⟨s, H, C, cl, fp⟩) hs, h6⟩
end
end DL

namespace DL
open PySem PySem.Spec PyProof.Rows L2
/-! ### 43. Starred items -/
def dStar (fa : FE) (fr : FA) : FA := fun s => (fa s).bind fun d s1 => match asSeq s1 d with
  | some xs => (fr s1).bind fun ys s2 => .ok (xs ++ ys) s2
  | none => .bad
/-- list(range(n)) -/
def dLRg (fa : FE) : FC := fun s => (fa s).bind fun d s1 => match d with | .int j => if smallI j && decide (j ≤ 1000000) then .ok (.lst (rngD 0 j.toNat)) s1 else .bad | _ => .bad
/-- a, b, .. = a list or a tuple -/
def gL (r : FGs) : FG := fun d s => match d with | .tup ds => r ds s | .lst ds => r ds s | _ => none
inductive MV where
  | v (d : D) | c (c : Cell)
abbrev FM := S → Res (List MV)
def dMn : FM := fun s => .ok [] s
def dMv (fa : FE) (r : FM) : FM := fun s => (fa s).bind fun d s1 => if noOwn d then (r s1).bind fun ms s2 => .ok (.v d :: ms) s2 else .bad
def dMc (fa : FC) (r : FM) : FM := fun s => (fa s).bind fun c s1 => match c with
  | .lst xs => (r s1).bind fun ms s2 => .ok (.c (.lst xs) :: ms) s2
  | .dct xs => (r s1).bind fun ms s2 => .ok (.c (.dct xs) :: ms) s2
  | _ => .bad
def slotOf : MV → Slot | .v d => .val d | .c c => .own c
def dParM (i j : Nat) (fm : FM) : FS := fun s => match fm s with
  | .ok [a, b] s1 => .nx { s1 with δ := (s1.δ.set i (slotOf a)).set j (slotOf b) }
  | .exc e s1 => .exc e s1
  | _ => .bad
def dParM3 (i j l : Nat) (fm : FM) : FS := fun s => match fm s with
  | .ok [a, b, c] s1 => .nx { s1 with δ := ((s1.δ.set i (slotOf a)).set j (slotOf b)).set l (slotOf c) }
  | .exc e s1 => .exc e s1
  | _ => .bad
variable [DLX]
section
variable {X : Cx}
theorem pa_st {e : Expr} {p : Pos} {es : List Expr} {fa : FE} {fr : FA} (ha : PED X e fa) (hr : PAD X es fr) (hs : starEach (.Starred e p :: es) X.env = (true, eval e X.env) :: starEach es X.env := by rfl) : PAD X (.Starred e p :: es) (dStar fa fr) := by
  refine ⟨fun W tk => ?_⟩
  obtain ⟨t, p1, q1⟩ := ha.run W tk
  obtain ⟨u, p2, q2⟩ := hr.run W tk
  refine ⟨_, StX.pa_star p1 p2 hs, fun H0 α0 σ H α s Q r q => q1 H0 α0 σ H α s _ r ?_⟩
  unfold dStar at q
  cases e1 : fa s with
  | bad => rw [e1] at q; exact q.elim
  | exc e s1 => rw [e1] at q; exact q
  | ok d s1 =>
    rw [e1] at q
    intro v H1 α1 r1 t1 rv
    simp only [Res.bind] at q
    cases ed : asSeq s1 d with
    | none => rw [ed] at q; exact q.elim
    | some xs =>
      rw [ed] at q
      obtain ⟨a, vs, rfl, hs, rr⟩ := asSeq_ok r1 rv ed
      refine ⟨a, vs, rfl, hs.symm, q2 H0 α0 σ H1 α1 s1 _ r1 ?_⟩
      simp only at q
      cases e2 : fr s1 with
      | bad => rw [e2] at q; exact q.elim
      | exc e s2 => rw [e2] at q; exact q
      | ok ys s2 =>
        rw [e2] at q
        intro ws H2 α2 r2 t2 rw
        have app : ∀ {ds es : List D} {vs us : List V}, Rvs X.K H2 α2 ds vs → Rxs X.K H2 α2 σ es us → Rxs X.K H2 α2 σ (ds ++ es) (vs ++ us) := by
          intro ds
          induction ds with
          | nil => intro es vs us h g; simp only [Rvs] at h; subst h; exact g
          | cons d ds ih =>
            intro es vs us h g
            simp only [Rvs] at h
            obtain ⟨v, r, rfl, h1, h2⟩ := h
            exact .cons (Rv.x h1) (ih h2 g)
        exact q _ H2 α2 r2 (t1.trans t2) (app (Rvs.stay t2 _ _ rr) rw)
theorem pf_lrg {e : Expr} {p p2 q pos : Pos} {fa : FE} (hc : X.calm = true) (hg : Gl X "list") (hm : X.mg "list" = none) (hg2 : Gl X "range") (hm2 : X.mg "range" = none) (ha : PED X e fa)
    (n1 : starEach [e] X.env = (false, eval e X.env) :: starEach [] X.env := by rfl) (n2 : starEach [.Call (.Name "range" p2) [e] [] q] X.env = (false, eval (.Call (.Name "range" p2) [e] [] q) X.env) :: starEach [] X.env := by rfl) :
    PFD X (.Call (.Name "list" p) [.Call (.Name "range" p2) [e] [] q] [] pos) (dLRg fa) := by
  refine ⟨fun W tk => ?_⟩
  obtain ⟨t, pe, qe⟩ := ha.run W tk
  refine ⟨_, pe_listRg hc hg hm (prg_1 hg2 hm2 pe n1) n2, fun H0 α0 σ H α s Q r k => qe H0 α0 σ H α s _ r ?_⟩
  unfold dLRg at k
  cases ea : fa s with
  | bad => rw [ea] at k; exact k.elim
  | exc e s1 => rw [ea] at k; exact k
  | ok d s1 =>
    rw [ea] at k
    intro v H1 α1 r1 t1 rv
    cases d <;> simp only [Res.bind] at k <;> try exact k.elim
    rename_i j
    split at k
    · rename_i hj
      rw [Bool.and_eq_true, decide_eq_true_eq] at hj
      obtain ⟨hj, hj2⟩ := hj
      unfold smallI at hj
      simp only [Bool.and_eq_true, decide_eq_true_eq] at hj
      have fin : ∀ q, H1 q = none → Q (.ref q) (upd H1 q (.lst (rgV 0 j))) := fun p hp => by
        refine new_lst r1 hp ?_ fun a H' α' r' t' rf => k a H' α' r' (t1.trans t') rf
        have e : rgV 0 j = (List.range j.toNat).map fun i => V.int (0 + (i : Nat)) := by
          unfold rgV
          simp
        rw [e]
        unfold rngD
        generalize List.range j.toNat = l
        induction l with
        | nil => exact .nil
        | cons i l ih => exact .cons (by simp only [Rv]) ih
      rw [rx_int rv]
      refine ⟨j, rfl, ?_⟩
      first
        | exact ⟨by refine ⟨?_, ?_, ?_, ?_, ?_⟩ <;> (try rw [sizeLine_eq]) <;> omega, fin⟩
        | (refine ⟨?_, fin⟩; unfold RgOk; rw [sizeLine_eq]; omega)
    · exact k.elim
/-- targets that a list or a tuple gives -/
theorem PGs.orL {es : List Expr} {k : Nat} {pos : Pos} {t : TGs} {n : Nat} (hc : X.calm = true) (h : PGs X es t) (hn : (assignEach es X.env).length = n) (hst : (assignEach es X.env).findIdx? (·.1) = none) :
    PG X (.Tuple es k pos) (fun v σ H Q => (∃ a xs, v = .ref a ∧ SqT X.K H a xs ∧ xs.length = n ∧ t xs σ H Q) ∨ (∃ a xs, v = .ref a ∧ SqL X.K H a xs ∧ xs.length = n ∧ t xs σ H Q)) := ⟨fun pins s σ H v u Q I r q => by
  rcases q with q | q
  · exact (pg_tup hc h hn hst).run pins s σ H v u Q I r q
  · exact (pg_lst hc h hn hst).run pins s σ H v u Q I r q⟩
theorem gd_lst {es : List Expr} {k : Nat} {pos : Pos} {r : FGs} {n : Nat} {ws : List Nat} (hc : X.calm = true) (h : PGsD X es ws r) (hn : (assignEach es X.env).length = n := by rfl) (hst : (assignEach es X.env).findIdx? (·.1) = none := by rfl) (hl : es.length = n := by rfl)
    (hr : ∀ ds s s', r ds s = some s' → ds.length = n := by intro ds s s' e; simp only [gC, gN] at e; repeat (first | (split at e; first | cases e | skip) | (simp only [Option.bind_eq_some_iff] at e; obtain ⟨_, _, e⟩ := e)); all_goals first | rfl | (cases e) | simp_all) : PGD X (.Tuple es k pos) ws (gL r) := by
  obtain ⟨t, p, q⟩ := h.ex
  refine ⟨_, PGs.orL hc p hn hst, fun H0 α0 σ H α s d v s' Q rl rv e k => ?_⟩
  unfold gL at e
  split at e
  · rename_i ds
    simp only [Rv] at rv
    obtain ⟨a, vs, rfl, hs, rr⟩ := rv
    exact .inl ⟨a, vs, rfl, hs, by rw [rr.length]; exact hr _ _ _ e, q H0 α0 σ H α s ds vs s' Q rl rr e k⟩
  · rename_i ds
    simp only [Rv] at rv
    obtain ⟨a, vs, rfl, hs, rr⟩ := rv
    exact .inr ⟨a, vs, rfl, hs.sq, by rw [rr.length]; exact hr _ _ _ e, q H0 α0 σ H α s ds vs s' Q rl rr e k⟩
  · cases e
end
/-! ### 44. a, b = x, y where some are fresh things -/
def MVs (K : PySem.W.Frag) (H : Hp) (α : List Addr) (σ : Sg) (s : S) : Hp → List MV → List V → Prop
  | _, [], vs => vs = []
  | H0, .v d :: ms, vs => ∃ v r, vs = v :: r ∧ Rv K H α d v ∧ MVs K H α σ s H0 ms r
  | H0, .c c :: ms, vs => ∃ a o r, vs = .ref a :: r ∧ RF K H0 H α σ s a c ∧ H a = some o ∧ MVs K H α σ s (upd H0 a o) ms r
def PostM (K : PySem.W.Frag) (H0 : Hp) (α0 : List Addr) (σ : Sg) (W : WX) (H : Hp) (α : List Addr) (Q : List V → Hp → Prop) : Res (List MV) → Prop
  | .ok ms s' => ∀ vs H' α', Rel K H0 α0 H' α' σ s' → Stay H α H' α' → MVs K H' α' σ s' H0 ms vs → Q vs H'
  | .exc e s' => ∀ cls dd H' α', Rel K H0 α0 H' α' σ s' → ExR K H' α' e cls dd → W cls dd σ H'
  | .bad => False
structure PMD (X : Cx) (es : List Expr) (f : FM) : Prop where
  run : ∀ W, Takes X W → ∃ t, PA X es t ∧ ∀ H0 α0 σ H α s Q, Rel X.K H0 α0 H α σ s → PostM X.K H0 α0 σ W H α Q (f s) → t σ H Q
section
variable {X : Cx}
theorem pm_n : PMD X [] dMn := ⟨fun W _ => ⟨_, pa_nil, fun H0 α0 σ H α s Q r q => q [] H α r (Stay.refl _ _) (by simp only [MVs])⟩⟩
theorem pm_v {e : Expr} {es : List Expr} {fa : FE} {fr : FM} (ha : PED X e fa) (hr : PMD X es fr) (hs : starEach (e :: es) X.env = (false, eval e X.env) :: starEach es X.env := by rfl) : PMD X (e :: es) (dMv fa fr) := by
  refine ⟨fun W tk => ?_⟩
  obtain ⟨t, p1, q1⟩ := ha.run W tk
  obtain ⟨u, p2, q2⟩ := hr.run W tk
  refine ⟨_, pa_cons p1 p2 hs, fun H0 α0 σ H α s Q r q => q1 H0 α0 σ H α s _ r ?_⟩
  unfold dMv at q
  cases e1 : fa s with
  | bad => rw [e1] at q; exact q.elim
  | exc e s1 => rw [e1] at q; exact q
  | ok d s1 =>
    rw [e1] at q
    intro v H1 α1 r1 t1 rv
    simp only [Res.bind] at q
    cases hn : noOwn d with
    | false => rw [hn] at q; simp only [Bool.false_eq_true, if_false] at q; exact q.elim
    | true =>
      rw [hn] at q
      simp only [if_true] at q
      refine q2 H0 α0 σ H1 α1 s1 _ r1 ?_
      cases e2 : fr s1 with
      | bad => rw [e2] at q; exact q.elim
      | exc e s2 => rw [e2] at q; exact q
      | ok ms s2 =>
        rw [e2] at q
        intro ws H2 α2 r2 t2 rw
        refine q _ H2 α2 r2 (t1.trans t2) ?_
        simp only [MVs]
        exact ⟨v, ws, rfl, Rv.stay t2 _ _ (noOwn_rv rv hn), rw⟩
theorem pm_c {e : Expr} {es : List Expr} {fa : FC} {fr : FM} (ha : PFD X e fa) (hr : PMD X es fr) (hs : starEach (e :: es) X.env = (false, eval e X.env) :: starEach es X.env := by rfl) : PMD X (e :: es) (dMc fa fr) := by
  refine ⟨fun W tk => ?_⟩
  obtain ⟨t, p1, q1⟩ := ha.run W tk
  obtain ⟨u, p2, q2⟩ := hr.run W tk
  refine ⟨_, pa_cons p1 p2 hs, fun H0 α0 σ H α s Q r q => q1 H0 α0 σ H α s _ r ?_⟩
  unfold dMc at q
  cases e1 : fa s with
  | bad => rw [e1] at q; exact q.elim
  | exc e s1 => rw [e1] at q; exact q
  | ok c s1 =>
    rw [e1] at q
    intro a H1 α1 r1 t1 rf
    have go : ∀ (o : HO), H1 a = some o → ¬ Fixed o → PostM X.K H0 α0 σ W H α Q ((fr s1).bind fun ms s2 => .ok (.c c :: ms) s2) → u σ H1 fun xs H2 => Q (V.ref a :: xs) H2 := by
      intro o ho nf q
      obtain ⟨rp, n0, h0⟩ := r1.pinF rf ho nf
      refine q2 (upd H0 a o) α0 σ H1 α1 s1 _ rp ?_
      cases e2 : fr s1 with
      | bad => rw [e2] at q; exact q.elim
      | exc e s2 =>
        rw [e2] at q
        exact fun cls dd H' α' r' x => q cls dd H' α' (r'.unpin h0) x
      | ok ms s2 =>
        rw [e2] at q
        intro ws H2 α2 r2 t2 rw
        refine q _ H2 α2 (r2.unpin h0) (t1.trans t2) ?_
        simp only [MVs]
        have ha2 := r2.pinned n0
        exact ⟨a, o, ws, rfl, r2.pinRF h0 n0 (rf.1.stay t2 fun o' e' _ => by rw [ho] at e'; cases e'; exact ha2), ha2, rw⟩
    simp only [Res.bind] at q
    cases c with
    | lst xs =>
      obtain ⟨vs, hv, _⟩ := rf.1
      exact go _ hv (fun z => z) q
    | dct xs =>
      rcases rf.1 with ⟨kv, hv, _⟩ | ⟨kv, _, hv, _⟩
      · exact go _ hv (fun z => z) q
      · exact go _ hv (fun z => z) q
    | ins C fs => exact q.elim
    | tab n => exact q.elim
    | dead => exact q.elim
/-- one slot filled; the rest still stands -/
theorem mvs_map {K : PySem.W.Frag} {H : Hp} {α : List Addr} {σ σ' : Sg} {s s' : S} : ∀ {ms : List MV} {vs : List V} {H0 H0' : Hp}, MVs K H α σ s H0' ms vs → (∀ b, H0' b = none → H0 b = none) →
    (∀ b, H0' b = none → (∀ (i : Nat) (c' : Cell), s.δ[i]? = some (.own c') → σ[i]? ≠ some (some (.ref b))) → ∀ (i : Nat) (c' : Cell), s'.δ[i]? = some (.own c') → σ'[i]? ≠ some (some (.ref b))) → MVs K H α σ' s' H0 ms vs
  | [], vs, H0, H0', h, _, _ => by simpa only [MVs] using h
  | .v d :: ms, vs, H0, H0', h, g1, g2 => by
    simp only [MVs] at h ⊢
    obtain ⟨v, r, e, h1, h2⟩ := h
    exact ⟨v, r, e, h1, mvs_map h2 g1 g2⟩
  | .c c :: ms, vs, H0, H0', h, g1, g2 => by
    simp only [MVs] at h ⊢
    obtain ⟨a, o, r, e, ⟨h1, h2, h3, h4⟩, h5, h6⟩ := h
    have sub : ∀ {b : Addr} {G G' : Hp}, (∀ b, G' b = none → G b = none) → upd G' a o b = none → G' b = none ∧ upd G a o b = none := fun {b G G'} g z => by
      by_cases hb : b = a
      · subst hb; rw [upd_same] at z; cases z
      · rw [upd_ne hb] at z
        exact ⟨z, by rw [upd_ne hb]; exact g b z⟩
    exact ⟨a, o, r, e, ⟨h1, h2, g1 a h3, g2 a h3 h4⟩, h5, mvs_map h6 (fun b z => (sub g1 z).2) fun b z => g2 b (sub g1 z).1⟩
theorem mv_set {K : PySem.W.Frag} {H H0 : Hp} {α0 α : List Addr} {σ : Sg} {s : S} {m : MV} {ms : List MV} {vs : List V} (i : Nat) (r : Rel K H0 α0 H α σ s) (h : MVs K H α σ s H0 (m :: ms) vs) :
    ∃ v r', vs = v :: r' ∧ Rel K H0 α0 H α (σ.set i (some v)) { s with δ := s.δ.set i (slotOf m) } ∧ MVs K H α (σ.set i (some v)) { s with δ := s.δ.set i (slotOf m) } H0 ms r' := by
  cases m with
  | v d =>
    simp only [MVs] at h
    obtain ⟨v, r', e, h1, h2⟩ := h
    refine ⟨v, r', e, r.setV h1, mvs_map h2 (fun _ z => z) fun b _ g j c' e1 e2 => ?_⟩
    rcases get_set e1 with ⟨_, z, _⟩ | ⟨ne, z⟩
    · cases z
    · rw [List.getElem?_set_ne ne] at e2
      exact g j c' z e2
  | c c =>
    simp only [MVs] at h
    obtain ⟨a, o, r', e, h1, h2, h3⟩ := h
    refine ⟨.ref a, r', e, r.setO h1, mvs_map h3 (fun b z => ?_) fun b z g j c' e1 e2 => ?_⟩
    · by_cases hb : b = a
      · subst hb; rw [upd_same] at z; cases z
      · rw [upd_ne hb] at z; exact z
    · rcases get_set e1 with ⟨rfl, _, hl⟩ | ⟨ne, w⟩
      · rw [List.getElem?_set_self (by rw [r.slots.len]; exact hl)] at e2
        cases e2
        rw [upd_same] at z
        cases z
      · rw [List.getElem?_set_ne ne] at e2
        exact g j c' w e2
theorem sd_parM {es : List Expr} {st : Stmt} {i j : Nat} {fm : FM} (hp : ∀ ta, PA X es ta → PS X st (tPar i j ta)) (ha : PMD X es fm) : PSD X st (dParM i j fm) := by
  refine ⟨fun W tk => ?_⟩
  obtain ⟨t, p, q⟩ := ha.run W tk
  refine ⟨_, hp t p, fun H0 α0 σ H α s D r k => q H0 α0 σ H α s _ r ?_⟩
  unfold dParM at k
  cases ea : fm s with
  | bad => rw [ea] at k; exact k.elim
  | exc e s1 => rw [ea] at k; exact fun cls dd H' α' r' x => k cls dd σ H' α' r' x
  | ok ms s1 =>
    rw [ea] at k
    intro vs H1 α1 r1 t1 rv
    match ms, rv with
    | [], _ => exact k.elim
    | [_], _ => exact k.elim
    | [a, b], rv =>
      obtain ⟨v, r2, rfl, q2, m2⟩ := mv_set i r1 rv
      obtain ⟨w, r3, rfl, q3, m3⟩ := mv_set j q2 m2
      simp only [MVs] at m3
      subst m3
      exact ⟨v, w, rfl, k _ H1 α1 q3 t1⟩
    | _ :: _ :: _ :: _, _ => exact k.elim
theorem sd_parM3 {es : List Expr} {st : Stmt} {i j l : Nat} {fm : FM} (hp : ∀ ta, PA X es ta → PS X st (tPar3 i j l ta)) (ha : PMD X es fm) : PSD X st (dParM3 i j l fm) := by
  refine ⟨fun W tk => ?_⟩
  obtain ⟨t, p, q⟩ := ha.run W tk
  refine ⟨_, hp t p, fun H0 α0 σ H α s D r k => q H0 α0 σ H α s _ r ?_⟩
  unfold dParM3 at k
  cases ea : fm s with
  | bad => rw [ea] at k; exact k.elim
  | exc e s1 => rw [ea] at k; exact fun cls dd H' α' r' x => k cls dd σ H' α' r' x
  | ok ms s1 =>
    rw [ea] at k
    intro vs H1 α1 r1 t1 rv
    match ms, rv with
    | [], _ => exact k.elim
    | [_], _ => exact k.elim
    | [_, _], _ => exact k.elim
    | [a, b, c], rv =>
      obtain ⟨v, r2, rfl, q2, m2⟩ := mv_set i r1 rv
      obtain ⟨w, r3, rfl, q3, m3⟩ := mv_set j q2 m2
      obtain ⟨u, r4, rfl, q4, m4⟩ := mv_set l q3 m3
      simp only [MVs] at m4
      subst m4
      exact ⟨v, w, u, rfl, k _ H1 α1 q4 t1⟩
    | _ :: _ :: _ :: _ :: _, _ => exact k.elim
end
end DL

namespace DL
open PySem PySem.Spec PyProof.Rows L2
/-! ### 41. A list of one's own, lent to a call: it stands still while the call runs -/
mutual
def nL : D → Bool
  | .tup xs => nLs xs
  | .lst _ => false
  | .dct kvs => nLk kvs
  | .obj _ _ => false
  | .own _ => false
  | _ => true
def nLs : List D → Bool
  | [] => true
  | x :: xs => nL x && nLs xs
def nLk : List (D × D) → Bool
  | [] => true
  | (_, x) :: xs => nL x && nLk xs
end
def nLc : Cell → Bool
  | .lst xs => nLs xs
  | .dct kvs => nLk kvs
  | .tab _ => true
  | _ => false
def nLl : Slot → Bool
  | .no => true
  | .val d => nL d
  | .own c => nLc c
def isVL : Option Slot → Bool | some (.val (.lst _)) => true | _ => false
def dLend (i : Nat) (f : FE) : FE := fun s => match s.δ[i]? with
  | some (.own (.lst xs)) => (match f { s with δ := s.δ.set i (.val (.lst xs)) } with
    | .ok d s1 => if nL d && s1.μ.all nLc && (s1.δ.set i .no).all nLl && isVL (s1.δ[i]?) then .ok d { s1 with δ := s1.δ.set i (.own (.lst xs)) } else .bad
    | _ => .bad)
  | _ => .bad
variable [DLX]
section
variable {K : PySem.W.Frag} {H : Hp} {α : List Addr} {a : Addr} {o0 : Obj} {vs0 : List V} {u : HO}
mutual
theorem Rv.thaw (hA : H a = some (.frz o0 (.lst vs0))) : ∀ (d : D) (v : V), nL d = true → Rv K H α d v → Rv K (upd H a u) α d v
  | .non, v, _, h => by simp only [Rv] at h ⊢; exact h
  | .bl b, v, _, h => by simp only [Rv] at h ⊢; exact h
  | .int i, v, _, h => by simp only [Rv] at h ⊢; exact h
  | .str x, v, _, h => by simp only [Rv] at h ⊢; exact h
  | .adr x, v, _, h => by simp only [Rv] at h ⊢; exact h
  | .fn x, v, _, h => by simp only [Rv] at h ⊢; exact h
  | .ty x, v, _, h => by simp only [Rv] at h ⊢; exact h
  | .ref n, v, _, h => by simp only [Rv] at h ⊢; exact h
  | .own n, v, n1, _ => by simp [nL] at n1
  | .lst xs, v, n1, _ => by simp [nL] at n1
  | .obj C fs, v, n1, _ => by simp [nL] at n1
  | .tup xs, v, n1, h => by
    simp only [Rv] at h ⊢
    obtain ⟨b, vs, h1, h2, h3⟩ := h
    refine ⟨b, vs, h1, ?_, Rvs.thaw hA xs vs (by simpa [nL] using n1) h3⟩
    rcases h2 with (h2 | ⟨o, h2⟩) | h2
    · exact .inl (.inl (by rw [upd_ne (fun z => by subst z; rw [hA] at h2; cases h2)]; exact h2))
    · exact .inl (.inr ⟨o, by rw [upd_ne (fun z => by subst z; rw [hA] at h2; cases h2)]; exact h2⟩)
    · exact .inr h2
  | .dct kvs, v, n1, h => by
    simp only [Rv] at h ⊢
    have n2 : nLk kvs = true := by simpa [nL] using n1
    obtain ⟨b, o, h1, ⟨kv, h2, h3⟩ | ⟨kv, h4, h2, h3⟩⟩ := h
    · exact ⟨b, o, h1, .inl ⟨kv, by rw [upd_ne (fun z => by subst z; rw [hA] at h2; cases h2)]; exact h2, Rkv.thaw hA kvs kv n2 h3⟩⟩
    · exact ⟨b, o, h1, .inr ⟨kv, h4, by rw [upd_ne (fun z => by subst z; rw [hA] at h2; cases h2)]; exact h2, RkT.thaw hA kvs kv n2 h3⟩⟩
theorem Rvs.thaw (hA : H a = some (.frz o0 (.lst vs0))) : ∀ (ds : List D) (vs : List V), nLs ds = true → Rvs K H α ds vs → Rvs K (upd H a u) α ds vs
  | [], vs, _, h => by simp only [Rvs] at h ⊢; exact h
  | d :: ds, vs, n1, h => by
    simp only [Rvs] at h ⊢
    simp only [nLs, Bool.and_eq_true] at n1
    obtain ⟨v, r, h1, h2, h3⟩ := h
    exact ⟨v, r, h1, Rv.thaw hA d v n1.1 h2, Rvs.thaw hA ds r n1.2 h3⟩
theorem Rkv.thaw (hA : H a = some (.frz o0 (.lst vs0))) : ∀ (ds : List (D × D)) (vs : List (Key × V)), nLk ds = true → Rkv K H α ds vs → Rkv K (upd H a u) α ds vs
  | [], vs, _, h => by simp only [Rkv] at h ⊢; exact h
  | (k, d) :: ds, vs, n1, h => by
    simp only [Rkv] at h ⊢
    simp only [nLk, Bool.and_eq_true] at n1
    obtain ⟨q, v, r, h1, h0, h2, h3⟩ := h
    exact ⟨q, v, r, h1, h0, Rv.thaw hA d v n1.1 h2, Rkv.thaw hA ds r n1.2 h3⟩
theorem RkT.thaw (hA : H a = some (.frz o0 (.lst vs0))) : ∀ (ds : List (D × D)) (vs : List (List Key × V)), nLk ds = true → RkT K H α ds vs → RkT K (upd H a u) α ds vs
  | [], vs, _, h => by simp only [RkT] at h ⊢; exact h
  | (k, d) :: ds, vs, n1, h => by
    simp only [RkT] at h ⊢
    simp only [nLk, Bool.and_eq_true] at n1
    obtain ⟨q, v, r, h1, h0, h2, h3⟩ := h
    exact ⟨q, v, r, h1, h0, Rv.thaw hA d v n1.1 h2, RkT.thaw hA ds r n1.2 h3⟩
end
theorem cellThaw (hA : H a = some (HO.frz o0 (HO.lst vs0))) {b : Addr} {c : Cell} (n : nLc c = true) (h : CellOk K H α b c) : b ≠ a ∧ CellOk K (upd H a u) α b c := by
  cases c with
  | lst xs =>
    obtain ⟨vs, h1, h2⟩ := h
    have e : b ≠ a := fun z => by subst z; rw [hA] at h1; cases h1
    exact ⟨e, vs, by rw [upd_ne e]; exact h1, Rvs.thaw hA xs vs n h2⟩
  | dct kvs =>
    rcases h with ⟨kv, h1, h2⟩ | ⟨kv, nn, h1, h2⟩
    · have e : b ≠ a := fun z => by subst z; rw [hA] at h1; cases h1
      exact ⟨e, .inl ⟨kv, by rw [upd_ne e]; exact h1, Rkv.thaw hA kvs kv n h2⟩⟩
    · have e : b ≠ a := fun z => by subst z; rw [hA] at h1; cases h1
      exact ⟨e, .inr ⟨kv, nn, by rw [upd_ne e]; exact h1, RkT.thaw hA kvs kv n h2⟩⟩
  | ins _ _ => cases n
  | tab m =>
    obtain ⟨q, h1, ps, h2, h3, h4⟩ := h
    have e : b ≠ a := fun z => by subst z; rw [hA] at h2; cases h2
    refine ⟨e, q, h1, ps, by rw [upd_ne e]; exact h2, h3, fun pos cv hc => ?_⟩
    obtain ⟨c, e1, e2⟩ := h4 pos cv hc
    refine ⟨c, e1, ?_⟩
    rw [upd_ne (fun z => by rw [z, hA] at e2; unfold LamX.CodeO at e2; cases e2)]
    exact e2
  | dead => cases n
theorem Rx.thaw (hA : H a = some (.frz o0 (.lst vs0))) {σ : Sg} {d : D} {v : V} (n : nL d = true) (h : Rx K H α σ d v) : Rx K (upd H a u) α σ d v :=
  Rv.x (Rv.thaw hA d v n (h.rv fun i z => by subst z; simp [nL] at n))
end
section
variable {X : Cx}
theorem pd_lend (i : Nat) {e : Expr} {f : FE} (h : PED X e f) : PED X e (dLend i f) := by
  refine ⟨fun W tk => ?_⟩
  obtain ⟨t, p, q⟩ := h.run W tk
  refine ⟨_, pe_lock p, fun H0 α0 σ H α s Q r k => ?_⟩
  unfold dLend at k
  split at k
  case h_2 => exact k.elim
  rename_i xs hi
  obtain ⟨a, h1, h2, h3⟩ := r.giveUp hi
  have hcell := h3.1
  have na := h3.2.1
  have n0 := h3.2.2.1
  obtain ⟨vs, hv, rr⟩ := hcell
  refine ⟨a, .lst vs, hv, trivial, fun od => ?_⟩
  obtain ⟨u, hu, mu, kk⟩ := h2.frz h3 (fun z => nomatch z) (fun n z => nomatch z)
  rw [hv] at hu
  cases hu
  obtain ⟨r2, t2, rv⟩ := kk od
  have r3 := r2.setV (i := i) rv
  have es : σ.set i (some (.ref a)) = σ := by
    apply List.ext_getElem?
    intro j
    by_cases hj : i = j
    · subst hj
      rw [h1, List.getElem?_set_self (List.getElem?_eq_some_iff.mp h1).1]
    · rw [List.getElem?_set_ne hj]
  rw [es] at r3
  simp only [List.set_set] at r3
  refine q H0 α0 σ _ α _ _ r3 ?_
  cases ef : f { s with δ := s.δ.set i (.val (Cell.lst xs).toD) } with
  | bad => rw [show (Cell.lst xs).toD = D.lst xs from rfl] at ef; rw [ef] at k; exact k.elim
  | exc e s1 => rw [show (Cell.lst xs).toD = D.lst xs from rfl] at ef; rw [ef] at k; exact k.elim
  | ok d s1 =>
    rw [show (Cell.lst xs).toD = D.lst xs from rfl] at ef
    rw [ef] at k
    simp only at k
    split at k
    case isFalse => exact k.elim
    rename_i hc
    simp only [Bool.and_eq_true, List.all_eq_true] at hc
    obtain ⟨⟨⟨c1, c2⟩, c3⟩, c4⟩ := hc
    intro v H' α' r' t' rx
    have hA : H' a = some (.frz od (.lst vs)) := t'.im a _ upd_same trivial
    refine ⟨hA, k v _ α' ?_ ?_ (Rx.thaw hA c1 rx)⟩
    · have st0 : Stay H0 α0 (upd H' a (.lst vs)) α' := ⟨fun b o hb fb => by
        rw [upd_ne (fun z => by subst z; rw [n0] at hb; cases hb)]; exact r'.st.im b o hb fb, r'.st.pre, fun b hb => by
        by_cases e : b = a
        · subst e; exact n0
        · rw [upd_ne e] at hb; exact r'.st.dom b hb⟩
      have stH : Stay H α (upd H' a (.lst vs)) α' := ⟨fun b o hb fb => by
        by_cases e : b = a
        · subst e; rw [hv] at hb; cases hb; exact fb.elim
        · rw [upd_ne e]; exact t'.im b o (by rw [upd_ne e]; exact hb) fb, t'.pre, fun b hb => by
        by_cases e : b = a
        · subst e; rw [upd_same] at hb; cases hb
        · rw [upd_ne e] at hb; have := t'.dom b hb; rwa [upd_ne e] at this⟩
      have hmem : ∀ b c n, α'[n]? = some b → s1.μ[n]? = some c → b ≠ a ∧ CellOk X.K (upd H' a (.lst vs)) α' b c := fun b c n e1 e2 =>
        cellThaw hA (c2 c (List.mem_of_getElem? e2)) (r'.cells.at_ n b c e1 e2)
      have na' : a ∉ α' := fun z => by
        obtain ⟨n, hn, e⟩ := List.getElem_of_mem z
        have e1 : α'[n]? = some a := by rw [List.getElem?_eq_getElem hn, e]
        have hn2 : n < s1.μ.length := by rw [← r'.cells.len]; exact hn
        exact (hmem a _ n e1 (List.getElem?_eq_getElem hn2)).1 rfl
      have hs : ∀ j sl, i ≠ j → s1.δ[j]? = some sl → nLl sl = true := fun j sl ne e => c3 sl (List.mem_of_getElem? (i := j) (by rw [List.getElem?_set_ne ne]; exact e))
      have ow : ∀ j c, i ≠ j → s1.δ[j]? = some (.own c) → ∃ b, σ[j]? = some (some (.ref b)) ∧ b ∉ α' ∧ H0 b = none ∧ b ≠ a ∧ CellOk X.K (upd H' a (.lst vs)) α' b c := fun j c ne e => by
        obtain ⟨b, e1, e2, e3, e4⟩ := r'.slots.own j c e
        obtain ⟨e5, e6⟩ := cellThaw (u := .lst vs) hA (hs j _ ne e) e4
        exact ⟨b, e1, e2, e3, e5, e6⟩
      refine ⟨⟨r'.cells.len, r'.cells.nd, fun n b c e1 e2 => (hmem b c n e1 e2).2⟩, ⟨by simpa using r'.slots.len, fun j d' e => ?_, fun j c e => ?_, fun j l c c' b e1 e2 e3 e4 => ?_⟩, fun b o e1 e2 => ?_, r'.nw, st0⟩
      · rcases get_set e with ⟨_, e, _⟩ | ⟨ne, e⟩
        · cases e
        · obtain ⟨v', e1, e2⟩ := r'.slots.val j d' e
          exact ⟨v', e1, Rv.thaw hA d' v' (hs j _ ne e) e2⟩
      · rcases get_set e with ⟨rfl, e, _⟩ | ⟨ne, e⟩
        · cases e
          exact ⟨a, h1, na', n0, vs, upd_same, Rvs.stay stH _ _ rr⟩
        · obtain ⟨b, e1, e2, e3, _, e5⟩ := ow j c ne e
          exact ⟨b, e1, e2, e3, e5⟩
      · rcases get_set e1 with ⟨rfl, _, _⟩ | ⟨ne, e1⟩
        · rcases get_set e2 with ⟨rfl, _, _⟩ | ⟨ne2, e2⟩
          · rfl
          · obtain ⟨b', z1, _, _, z2, _⟩ := ow l c' ne2 e2
            rw [h1] at e3; cases e3
            rw [z1] at e4; cases e4
            exact absurd rfl z2
        · rcases get_set e2 with ⟨rfl, _, _⟩ | ⟨ne2, e2⟩
          · obtain ⟨b', z1, _, _, z2, _⟩ := ow j c ne e1
            rw [h1] at e4; cases e4
            rw [z1] at e3; cases e3
            exact absurd rfl z2
          · exact r'.slots.inj j l c c' b e1 e2 e3 e4
      · rw [upd_ne (fun z => by subst z; rw [n0] at e1; cases e1)]
        exact r'.ot b o e1 e2
    · exact ⟨fun b o hb fb => by
        by_cases e : b = a
        · subst e; rw [hv] at hb; cases hb; exact fb.elim
        · rw [upd_ne e]; exact t'.im b o (by rw [upd_ne e]; exact hb) fb, t'.pre, fun b hb => by
        by_cases e : b = a
        · subst e; rw [upd_same] at hb; cases hb
        · rw [upd_ne e] at hb; have := t'.dom b hb; rwa [upd_ne e] at this⟩
end
end DL

namespace DL
open PySem PySem.Spec PyProof.Rows L2
/-! ### 45. An error of the program's own whose __init__ says super().__init__(f'..') and keeps its argument -/
section
variable {prog : Program} {w : World} {A : Around} {E : Value → Shared → Prop} {s : Shared}
theorem reprObj_reads {h₀ : Heap} {u : Value} {p : PyData} {as : List Addr} {Q : Value → Shared → Prop} (r : Reads h₀ u p as) (hs : p.showable = true) (hsm : p.hasDict = true → sysModules ∉ as) (hg : A.guards = some []) (hd : p.depth ≤ 60) (hu : A.units + 61 < cLine) (hl : p.shown.length ≤ sizeLine)
    (hk0 : ∀ b o, h₀.get? b = some o → s.heap.get? b = some o) (h : ∀ h' t tk, (∀ b o, s.heap.get? b = some o → h'.get? b = some o) → Q (.str p.shown t) { s with heap := h', toks := tk }) : wpAny (model prog w) A (pyReprObj u) Q E s := by
  have fin := h s.heap s.toks (s.toks + 1) fun _ _ e => e
  cases r with
  | none => exact pyReprObj_none fin
  | bool b => exact pyReprObj_bool (by simpa only [PyData.shown] using fin)
  | int i t => exact pyReprObj_int (by simpa [PyData.showable] using hs) (by simpa only [PyData.shown] using fin)
  | str y t => exact pyReprObj_str (by simpa only [PyData.shown] using fin) (by simpa only [PyData.shown] using hl)
  | list a1 a2 a3 a4 => exact pyReprObj_of_reads (.list a1 a2 a3 a4) hs hsm hg (by omega) hk0 (fun h' t tk k => h h' t tk k) hl
  | tuple a1 a2 a3 a4 => exact pyReprObj_of_reads (.tuple a1 a2 a3 a4) hs hsm hg (by omega) hk0 (fun h' t tk k => h h' t tk k) hl
  | dict a1 a2 a3 a4 a5 => exact pyReprObj_of_reads (.dict a1 a2 a3 a4 a5) hs hsm hg (by omega) hk0 (fun h' t tk k => h h' t tk k) hl
/-- the text of an f-string, of the value u of the name x -/
inductive JsOk (x : Str) : Expr → (Str → Str) → Prop where
  | back {np fp cp pos : Pos} {c : Str} {j : Nat} : JsOk x (.JoinedStr [.FormattedValue (.Name x np) 114 none fp, .Constant (.str c) j cp] pos) (fun y => Str.empty ++ y ++ c)
  | front {np fp cp pos : Pos} {c : Str} {j : Nat} : JsOk x (.JoinedStr [.Constant (.str c) j cp, .FormattedValue (.Name x np) 114 none fp] pos) (fun y => Str.empty ++ c ++ y)
theorem js_run {env : Env} {x : Str} {js : Expr} {g : Str → Str} {h₀ : Heap} {u : Value} {p : PyData} {as : List Addr} {Q : Value → Shared → Prop} (J : JsOk x js g) (hx : ∀ (s' : Shared) (Q' : Value → Shared → Prop) (np : Pos), (∀ b o, s.heap.get? b = some o → s'.heap.get? b = some o) → Q' u s' → wpAny (model prog w) A (eval (.Name x np) env) Q' E s')
    (r : Reads h₀ u p as) (hs : p.showable = true) (hsm : p.hasDict = true → sysModules ∉ as) (hg : A.guards = some []) (hd : p.depth ≤ 60) (hu : A.units + 61 < cLine) (hl : p.shown.length ≤ 16777000) (hgl : (g p.shown).length ≤ 16777216) (hk0 : ∀ b o, h₀.get? b = some o → s.heap.get? b = some o)
    (h : ∀ h' y t tk, (∀ b o, s.heap.get? b = some o → h'.get? b = some o) → Q (.str y t) { s with heap := h', toks := tk }) : wpAny (model prog w) A (eval js env) Q E s := by
  have hl2 : p.shown.length ≤ sizeLine := by rw [sizeLine_eq]; omega
  have hgl2 : (g p.shown).length ≤ sizeLine := by rw [sizeLine_eq]; exact hgl
  cases J with
  | back =>
    refine wpAny_JoinedStr ?_
    have e0 : ∀ a b : Expr, evalEach [a, b] env = [eval a env, eval b env] := fun a b => by first | rfl | simp [evalEach]
    rw [e0]
    refine wpAny_FormattedValue_repr (hx s _ _ (fun _ _ e => e) (reprObj_reads r hs hsm hg hd hu hl2 hk0 fun h1 t1 tk1 k1 => ?_))
    refine wpAny_formatField_str (s := { s with heap := h1, toks := tk1 }) ?_ ?_ hl2
    all_goals
      refine ⟨_, _, rfl, ?_, ?_⟩
      · refine Nat.le_trans ?_ hgl2
        simp only [strLen_append]
        omega
      · exact wpAny_Constant_str ⟨_, _, rfl, hgl2, hgl2, h _ _ _ _ k1⟩
  | front =>
    refine wpAny_JoinedStr ?_
    have e0 : ∀ a b : Expr, evalEach [a, b] env = [eval a env, eval b env] := fun a b => by first | rfl | simp [evalEach]
    rw [e0]
    refine wpAny_Constant_str ⟨_, _, rfl, ?_, ?_⟩
    · refine Nat.le_trans ?_ hgl2
      simp only [strLen_append]
      omega
    · refine wpAny_FormattedValue_repr (hx _ _ _ (fun _ _ e => e) (reprObj_reads r hs hsm hg hd hu hl2 hk0 fun h1 t1 tk1 k1 => ?_))
      refine wpAny_formatField_str (s := { s with heap := h1, toks := tk1 }) ?_ ?_ hl2
      all_goals exact ⟨_, _, rfl, hgl2, hgl2, h _ _ _ _ k1⟩
end
end DL

namespace DL
open PySem PySem.Spec PyProof.Rows L2
section
open PySem.W
variable {prog : Program} {w : World} {A : Around} {E : Value → Shared → Prop} {s : Shared}
abbrev supBody (js : Expr) (f x : Str) (p0 p1 p2 p3 p4 p5 p6 p7 p8 : Pos) : List Stmt := [.Expr (.Call (.Attribute (.Call (.Name "super" p0) [] [] p1) "__init__" p2) [js] [] p3) p4, .Assign [.Attribute (.Name "self" p5) f p6] (.Name x p7) p8]
/-- what the written part says of such a class -/
structure SupC (K : Frag) (mg : Str → Option Value) (file0 : Str) (C : Addr) (f x : Str) (g : Str → Str) (js : Expr) (B newId i : String) (bmB : List Value) (fI cc cda : Addr) (qual : Str) (params : Arguments) (scope : Scope) (p0 p1 p2 p3 p4 p5 p6 p7 p8 : Pos) (dV kV doc pm ct oc : Value) (an od : Option Addr) (osl : Array (Option Value)) (ccl cl : Value) (cdd cld : Option Addr) (ccs csl : Array (Option Value)) (vs : Array Value) (file : Str) (tf : Tok) (cdD : ClassData) : Prop where
  J : JsOk x js g
  FB : ExcBaseFacts B newId i bmB
  KF : KxsFacts B i
  SF : StoreFacts B bmB "object.__setattr__" "object"
  hi : findIn K (.ref C) "__init__" = some (some (.ref fI))
  q : excInitIn K C bmB newId = true
  tI : typeIn K (.ref fI) = some (.type "function")
  lk : K.lookup fI = some ⟨oc, od, .func (ksFn "__init__" qual params (supBody js f x p0 p1 p2 p3 p4 p5 p6 p7 p8) scope dV kV doc pm an (.ref cda) ct cc), osl⟩
  hcd : codeIn K (.ref cda) qual = true
  hcode : K.lookup cda = some ⟨ccl, cdd, .fields vs, ccs⟩
  hvs : vs[2]? = some (.str file tf)
  hfile : (file0 == file) = true
  hcell : K.lookup cc = some ⟨cl, cld, .cell (some (.ref C)), csl⟩
  hD : clsIn K C = some cdD
  hsub : mroIn K C (.ref C) = some true
  hsup : mg "super" = none
  hm : ks_superIn K C C "__init__" = some (some (.builtin i))
  hB : subIn K (.ref C) (.type B) = some true
  hth : nsIn K cStatics "thirdparty.any" = some none
  hsa : findIn K (.ref C) "__setattr__" = some (some (.builtin "object.__setattr__"))
  hov : excOver K C bmB = true
  htk : takerIn K C f = some none
  hhd : hasDictIn K C = true
  hsx : subIn K (.ref C) (.type "BaseException") = some true
  tyC : typeIn K (.ref C) = some (.type "type")
  kC : keepIn K (.ref C) = true
  hp : (params.posonlyargs ++ params.args).head? = some ⟨"self", none, ⟨0, 0, 0, 0⟩⟩ ∨ ∃ ar : Arg, (params.posonlyargs ++ params.args).head? = some ar ∧ ar.arg = "self"
  hb : ∀ (s : Shared) (a b : Value), BindsTo s (ksFn "__init__" qual params (supBody js f x p0 p1 p2 p3 p4 p5 p6 p7 p8) scope dV kV doc pm an (.ref cda) ct cc) ⟨[a, b], []⟩ [("self", a), (x, b)]
  hks : scope.names.lookup ("super" : Str) = some .globalImplicit
  hkc : scope.names.lookup ("__class__" : Str) = some .free
  hka : scope.names.lookup ("self" : Str) = some .local
  hkx : scope.names.lookup x = some .local
  hxs : (x == ("self" : Str)) = false
  hxd : (x == ("__debug__" : Str)) = false
  hk : scope.kind = .function
  hco : scope.isCoroutine = false
  hge : scope.isGenerator = false
  hnc : ∀ y ∈ scope.names, y.2 ≠ .cell
  hE : ∀ L' : Addr, ∃ pl : Sem Bool, eval (.Call (.Attribute (.Call (.Name "super" p0) [] [] p1) "__init__" p2) [js] [] p3) (ksEnv qual scope L' fI (.ref cda) cc) = (do
      let ov ← attributeBase (.Call (.Name "super" p0) [] [] p1) "__init__" (ksEnv qual scope L' fI (.ref cda) cc) (eval (.Call (.Name "super" p0) [] [] p1) (ksEnv qual scope L' fI (.ref cda) cc))
      standAt p2.atName
      let (f, first) ← holding [ov] (getMethod ov "__init__" pl)
      callWith p3 f first (backTo p3 (starEach [js] (ksEnv qual scope L' fI (.ref cda) cc))) [])
  hI : ∀ L' : Addr, interactive (ksEnv qual scope L' fI (.ref cda) cc) = false
  hS1 : ∀ L' : Addr, swapsWith (.Call (.Attribute (.Call (.Name "super" p0) [] [] p1) "__init__" p2) [js] [] p3) none p4.line (ksEnv qual scope L' fI (.ref cda) cc) = pure false
  hS2 : ∀ L' : Addr, swapsWith (.Name x p7) (some (.Attribute (.Name "self" p5) f p6)) p8.line (ksEnv qual scope L' fI (.ref cda) cc) = pure false
theorem fr_keep {h₀ h h' : Heap} {L : Addr} {m : Str → Option Value} (F : Fr h₀ L h m) (k : ∀ b o, h.get? b = some o → h'.get? b = some o) : Fr h₀ L h' m := by
  obtain ⟨oL, es, ep, hL, r⟩ := F.ns
  exact ⟨⟨oL, es, ep, k _ _ hL, r⟩, fun b o e => k b o (F.keep b o e), F.above⟩
theorem news_keep {h₀ h h' : Heap} {L : Addr} {news : List (Addr × Obj)} (N : News h₀ L h news) (k : ∀ b o, h.get? b = some o → h'.get? b = some o) : News h₀ L h' news := fun p hp => ⟨k _ _ (N p hp).1, (N p hp).2.1, (N p hp).2.2⟩
theorem sup_run {K : Frag} {mg mb : Str → Option Value} {C : Addr} {f x : Str} {g : Str → Str} {js : Expr} {B newId i : String} {bmB : List Value} {fI cc cda : Addr} {qual : Str} {params : Arguments} {scope : Scope} {p0 p1 p2 p3 p4 p5 p6 p7 p8 : Pos} {dV kV doc pm ct oc : Value} {an od : Option Addr} {osl : Array (Option Value)} {ccl cl : Value} {cdd cld : Option Addr} {ccs csl : Array (Option Value)} {vs : Array Value} {file : Str} {tf : Tok} {cdD : ClassData}
    (T : SupC K mg prog.main.file C f x g js B newId i bmB fI cc cda qual params scope p0 p1 p2 p3 p4 p5 p6 p7 p8 dV kV doc pm ct oc an od osl ccl cl cdd cld ccs csl vs file tf cdD)
    (htop : (prog.main.scope.names.lookup ("super" : Str)).isSome = false)
    (X : K.In s.heap) (hmg : s.heap.Ns mainGlobals mg) (hmb : s.heap.Ns builtinsNs mb) (hbs : mb "super" = some (.type "super")) (hlim : s.heap.NoLimit) (hroom : Room 4 A) (hg : A.guards = some [])
    {u : Value} {p : PyData} {as : List Addr} (r : Reads s.heap u p as) (hs : p.showable = true) (hsm : p.hasDict = true → sysModules ∉ as) (hd : p.depth ≤ 60) (hl : p.shown.length ≤ 16777000) (hgl : (g p.shown).length ≤ 16777216)
    {Q : Value → Shared → Prop}
    (h : ∀ e dx t h' tk, (∀ b o, s.heap.get? b = some o → h'.get? b = some o) → s.heap.objs.size ≤ e → e < dx → s.heap.get? e = none → h'.get? e = some (excObj C t (some dx) .none) → h'.Ns1 dx (fun y => if y = f then some u else none) → Q (.ref e) { s with heap := h', toks := tk }) :
    wpAny (model prog w) A (call (.ref C) [u]) Q E s := by
  obtain ⟨nm, N', qn, bs, bm, hdct, sn, sub, ab, col, dd, k0, k1, k2, k3, k5, hC, hT⟩ := excInit_of X T.q
  have hi' : Looks (model prog w) s.heap (typeLookup (.ref C) "__init__") (some (.ref fI)) := looks_findIn X T.hi
  obtain ⟨hh, gg, d, tk0, os⟩ := s
  refine wpAny_call (PySem.PX.call_own T.FB hT hC hi' (fun self => bind_fn X self T.tI) (by rw [sizeLine_eq]; show 1 ≤ 16777216; omega) ?_)
  have k01 : ∀ b o, hh.get? b = some o → ((hh.push (kdv_tup [u])).push (PySem.PX.excO C hh.objs.size)).get? b = some o := fun b o e => Heap.get?_push_of_some _ (Heap.get?_push_of_some _ e)
  have X1 := X.keeps k01
  have g1 : ((hh.push (kdv_tup [u])).push (PySem.PX.excO C hh.objs.size)).get? (hh.objs.size + 1) = some (PySem.PX.excO C hh.objs.size) := by heap_get
  have g2 : ((hh.push (kdv_tup [u])).push (PySem.PX.excO C hh.objs.size)).get? hh.objs.size = some (kdv_tup [u]) := by heap_get
  have R1 : Room 3 (A.under (.builtin "type.__call__" ⟨[.ref C, u], []⟩)) := hroom.make C [u] []
  have G1 : (A.under (.builtin "type.__call__" ⟨[.ref C, u], []⟩)).guards = some [] := by
    unfold Around.under
    rw [hg]
    rfl
  generalize ((hh.push (kdv_tup [u])).push (PySem.PX.excO C hh.objs.size)) = h1 at *
  generalize A.under (.builtin "type.__call__" ⟨[.ref C, u], []⟩) = A1 at *
  have e0 : hh.get? (hh.objs.size + 1) = none := by
    cases z : hh.get? (hh.objs.size + 1) with
    | none => rfl
    | some o => exact absurd (Nat.lt_trans (Nat.lt_succ_self _) (Heap.lt_size z)) (Nat.lt_irrefl _)
  have t0 : hh.get? hh.objs.size = none := by
    cases z : hh.get? hh.objs.size with
    | none => rfl
    | some o => exact absurd (Heap.lt_size z) (Nat.lt_irrefl _)
  have hx0 : (x == ("self" : Str)) = false := T.hxs
  refine ks_codeAny_call_defAt (binds := [("self", .ref (hh.objs.size + 1)), (x, u)]) R1.depth (X1 _ _ T.lk) rfl (hlim.keeps k01) (codeRec_of X1 T.hcd) rfl (T.hb _ _ _) T.hnc (fun y hy => ?_) (fun h2 hns k12 => ?_) T.hco T.hge T.hk
  · simp only [List.mem_cons, List.not_mem_nil, or_false] at hy
    rcases hy with rfl | rfl
    · exact T.hka
    · exact T.hkx
  have lt1 := Heap.lt_size g1
  have F2 : Fr hh h1.objs.size h2 (fun y => [(("self" : Str), Value.ref (hh.objs.size + 1)), (x, u)].reverse.lookup y) := ⟨hns, fun b o e => k12 b o (k01 b o e), Nat.le_of_lt (Nat.lt_of_succ_lt lt1)⟩
  have N2 : News hh h1.objs.size h2 [(hh.objs.size + 1, excObj C hh.objs.size none .none), (hh.objs.size, excTup [u])] := fun q hq => by
    simp only [List.mem_cons, List.not_mem_nil, or_false] at hq
    rcases hq with rfl | rfl
    · exact ⟨k12 _ _ g1, Nat.ne_of_lt lt1, e0⟩
    · exact ⟨k12 _ _ g2, Nat.ne_of_lt (Heap.lt_size g2), t0⟩
  have R2 := R1.deeper (callEnv (ksFn "__init__" qual params (supBody js f x p0 p1 p2 p3 p4 p5 p6 p7 p8) scope dV kV doc pm an (.ref cda) ct cc) h1.objs.size fI)
  have hv : [(("self" : Str), Value.ref (hh.objs.size + 1)), (x, u)].reverse.lookup ("self" : Str) = some (.ref (hh.objs.size + 1)) := by
    have : (("self" : Str) == x) = false := by
      rw [beq_eq_false_iff_ne] at hx0 ⊢
      exact fun z => hx0 z.symm
    simp [List.lookup, this]
  have hvx : [(("self" : Str), Value.ref (hh.objs.size + 1)), (x, u)].reverse.lookup x = some u := by
    simp [List.lookup]
  have I2 : InstAt h2 (hh.objs.size + 1) (excObj C hh.objs.size none .none) C none := InstAt.of_exc0 N2 (by simp)
  obtain ⟨pl, hcall⟩ := T.hE h1.objs.size
  refine ks_wpAt_execs_cons (ks_wpAt_Expr_any (ks_wpAt_MethodCall (pl := pl) ?_ hcall) (T.hI _) (T.hS1 _))
  have X2 : K.In h2 := X.keeps F2.keep
  obtain ⟨ar, ha1, ha2⟩ : ∃ ar : Arg, (params.posonlyargs ++ params.args).head? = some ar ∧ ar.arg = "self" := T.hp.elim (fun z => ⟨_, z, rfl⟩) id
  obtain ⟨oD, hD1, hD2⟩ : ∃ oD, h2.get? C = some oD ∧ oD.data = .cls cdD := by
    have hD := T.hD
    unfold clsIn at hD
    split at hD
    · rename_i c d cd' sl ho
      cases hD
      exact ⟨_, X2 _ _ ho, rfl⟩
    · cases hD
  refine ks_wpAt_super_base (env := ksEnv qual scope h1.objs.size fI (.ref cda) cc) T.hks T.hkc (by decide) rfl (X2 _ _ T.lk) rfl ha1 rfl (X2 _ _ T.hcode) rfl T.hvs T.hfile htop ?_
  rw [ha2]
  refine ks_loadName_global T.hk T.hks (Calls.loadGlobal_builtin (env := ksEnv qual scope h1.objs.size fI (.ref cda) cc) (hmg.keeps F2.keep) T.hsup (hmb.keeps F2.keep) hbs ⟨rfl, ?_⟩)
  refine wpAny_loadName_free T.hk T.hkc rfl ⟨_, X2 _ _ T.hcell, rfl⟩ ?_
  refine wpAny_loadName_local T.hk T.hka F2.ns hv ?_
  refine ks_wpAny_isType_cls hD1 hD2 ⟨rfl, ?_⟩
  refine ks_wpAny_call_super hD1 hD2 I2.at_ I2.cls (fun c e => ?_) (looks_mroIn X2 T.hsub) (fun h3 e3 k23 => ?_)
  · have := I2.no
    unfold notCls at this
    rw [e] at this
    exact Bool.noConfusion this
  obtain ⟨F3, N3, l3⟩ := ks_newsPush (s := ⟨h2, gg, d, tk0 + 2, os⟩) F2 N2 rfl e3 k23
  have I3 : InstAt h3 (hh.objs.size + 1) (excObj C hh.objs.size none .none) C none := InstAt.of_exc0 N3 (by simp)
  refine kxs_method T.KF F3 X N3 (by simp) I3 T.hth T.hm T.hB (by decide) (fun q h4 F4 N4 l4 => ?_)
  have hst : starEach [js] (ksEnv qual scope h1.objs.size fI (.ref cda) cc) = (false, eval js (ksEnv qual scope h1.objs.size fI (.ref cda) cc)) :: starEach [] (ksEnv qual scope h1.objs.size fI (.ref cda) cc) := by
    cases T.J <;> rfl
  refine kxs_callWith1 N4 (List.mem_cons_self ..) ?_ hst (by rfl)
  have X4 : K.In h4 := X.keeps F4.keep
  show wpAny _ _ (spliced (backTo p3 (starEach [js] (ksEnv qual scope h1.objs.size fI (.ref cda) cc)))) _ _ _
  rw [hst]
  refine Calls.spliced_cons ?_
  refine js_run T.J (h₀ := hh) (u := u) (p := p) (as := as) (fun s' Q' np hk hq => ?_) r hs hsm ?_ hd ?_ hl hgl F4.keep fun h5 y t5 tk5 k45 => ?_
  · refine wpAny_Name (wpAny_loadName_local T.hk T.hkx (fr_keep F4 hk).ns hvx hq) T.hxd
  · exact G1
  · have := R1.un
    show A1.units + 3 + 61 < cLine
    omega
  have F5 := fr_keep F4 k45
  have N5 := news_keep N4 k45
  refine Calls.spliced_nil ⟨kxs_at N5 (List.mem_cons_self ..), ?_⟩
  have lte : ∀ pr ∈ [(hh.objs.size + 1, excObj C hh.objs.size none .none), (hh.objs.size, excTup [u])], pr.1 < h2.objs.size := l3
  have ne1 : (hh.objs.size : Nat) ≠ hh.objs.size + 1 := by omega
  have nq : q ≠ hh.objs.size + 1 := fun z => by
    have := l4 (hh.objs.size + 1, excObj C hh.objs.size none .none) (by simp)
    rw [z] at this
    exact Nat.lt_irrefl _ this
  have nso : h2.objs.size ≠ hh.objs.size + 1 := fun z => by
    have := lte (hh.objs.size + 1, excObj C hh.objs.size none .none) (by simp)
    rw [z] at this
    exact Nat.lt_irrefl _ this
  refine kxs_call F5 X N5 T.FB T.q (List.mem_cons_self ..) (.tail nq (.tail nso (.head fun pr hp => ?_))) (by rw [sizeLine_eq]; show 1 ≤ 16777216; omega) (fun t6 h6 F6 N6 l6 => ?_)
  · simp only [List.mem_cons, List.not_mem_nil, or_false] at hp
    subst hp
    exact ne1
  have te : t6 ≠ hh.objs.size + 1 := fun z => by
    have := l6 (hh.objs.size + 1, excObj C hh.objs.size none .none) (by simp)
    rw [z] at this
    exact Nat.lt_irrefl _ this
  refine ks_wpAt_execs_cons (ks_wpAt_Assign_Attr (wpAt_of_wpAny (wpAny_Name (wpAny_loadName_local T.hk T.hkx F6.ns hvx ?_) T.hxd)) (T.hS2 _))
  refine wpAny_Name (wpAny_loadName_local T.hk T.hka F6.ns hv ?_) (by decide)
  refine set_exc0 T.SF F6 X N6 (by simp) T.hsa T.hov T.htk T.hhd rfl (.tail te (.tail nq (.tail nso (.head fun pr hp => ?_)))) (by show 1 ≤ 1000; omega) (fun dx h7 F7 N7 l7 => ?_)
  · simp only [List.mem_cons, List.not_mem_nil, or_false] at hp
    subst hp
    exact ne1
  have eg := (N7 (hh.objs.size + 1, excObj C t6 (some dx) .none) (by simp)).1
  have dg := N7 _ (List.mem_cons_self ..)
  refine wpAt_of_wpAny (wpAny_execs_nil ?_)
  refine ⟨rfl, h _ dx t6 h7 _ F7.keep (Nat.le_succ _) (l7 (hh.objs.size + 1, excObj C t6 none .none) (by simp)) e0 eg ?_⟩
  refine ⟨_, _, _, dg.1, rfl, fun en hen => ?_, ?_, fun y => ?_⟩
  · simp only [putL, List.mem_toArray, List.mem_cons, List.not_mem_nil, or_false] at hen
    subst hen
    exact ⟨_, _, rfl⟩
  · unfold UniqKeys
    exact List.pairwise_singleton _ _
  · by_cases hy : y = f
    · subst hy
      simp [nsFind, findBy, putL, Value.isStr]
    · have : (f == y) = false := by
        rw [beq_eq_false_iff_ne]
        exact fun z => hy z.symm
      simp [nsFind, findBy, putL, Value.isStr, hy, this]
end
end DL

namespace DL
open PySem PySem.Spec PyProof.Rows L2
/-! ### 46. raise -/
/-- the reading of C(e), C a class with super().__init__(f'..') -/
def tMkS (X : Cx) (C : Addr) (f : Str) (g : Str → Str) (ta : TA) : L2.St → Hp → XK → Prop := fun σ H Q => ta σ H fun vs H1 => ∃ (v : V) (p : PyData), vs = [v] ∧ (∀ pins s u, Inv X pins σ H1 s → RelV v u → ∃ as, Reads s.heap u p as ∧ (p.hasDict = true → sysModules ∉ as)) ∧ p.showable = true ∧ p.depth ≤ 60 ∧ p.shown.length ≤ 16777000 ∧ (g p.shown).length ≤ 16777216 ∧ ∀ d, H1 d = none → Q (.ref C) (some d) (upd H1 d (.xd [(f, v)]))
section
variable {X : Cx}
theorem pmk_sup {C : Addr} {n f x : Str} {g : Str → Str} {js : Expr} {B newId i : String} {bmB : List Value} {fI cc cda : Addr} {qual : Str} {params : Arguments} {scope : Scope} {p0 p1 p2 p3 p4 p5 p6 p7 p8 : Pos} {dV kV doc pm ct oc : Value} {an od : Option Addr} {osl : Array (Option Value)} {ccl cl : Value} {cdd cld : Option Addr} {ccs csl : Array (Option Value)} {vs : Array Value} {file : Str} {tf : Tok} {cdD : ClassData} {p pos : Pos} {e : Expr} {ta : TA}
    (T : SupC X.K X.mg X.prog.main.file C f x g js B newId i bmB fI cc cda qual params scope p0 p1 p2 p3 p4 p5 p6 p7 p8 dV kV doc pm ct oc an od osl ccl cl cdd cld ccs csl vs file tf cdD)
    (htop : (X.prog.main.scope.names.lookup ("super" : Str)).isSome = false) (hr : Room 4 X.A) (hgu : X.A.guards = some []) (hg : Gl X n) (hm : X.mg n = some (.ref C)) (ha : PA X [e] ta)
    (hdb : (n == ("__debug__" : Str)) = false := by decide) (he : starEach [e] X.env = (false, eval e X.env) :: starEach [] X.env := by rfl) : PMk X (.Call (.Name n p) [e] [] pos) (tMkS X C f g ta) := by
  intro pins s σ H Q I h
  refine wpAny_Call_Name_kw (ld_glob I hg hm ?_ hdb)
  refine PySem.W.callWith_K (h₀ := X.base) I.ok.mod.kin T.kC (thn (ha.run pos pins s σ H _ I h) fun us s1 ⟨ws, H1, I1, r1, v, pd, ev, hrd, q1, q2, q3, q4, q⟩ => ⟨I1.kIn, ?_⟩) he (by rfl)
  subst ev
  obtain ⟨u, rfl, ru⟩ := vals1 r1
  obtain ⟨as, rd, hsm⟩ := hrd pins s1 u I1 ru
  obtain ⟨mb, hb1, hb2⟩ := I1.ok.mod.blt
  have hn1 : H1 s1.heap.objs.size = none := I1.hok.fresh (Nat.le_refl _)
  refine sup_run T htop I1.kIn (I1.ok.mod.glob.keeps I1.bk) (hb1.keeps I1.bk) ((hb2 _ (by decide)).trans (by first | rfl | kernel_rfl)) I1.nolimit hr hgu rd q1 hsm q2 q3 q4 fun e dx t h' tk k le lt e0 eg ns => ?_
  obtain ⟨G, gk, gn⟩ := restrict h' fun b => decide (b ≠ e)
  have gk' : ∀ b, b ≠ e → G.get? b = h'.get? b := fun b hb => gk b (decide_eq_true hb)
  have ge : G.get? e = none := gn e (by simp)
  have kG : ∀ b o, s1.heap.get? b = some o → G.get? b = some o := fun b o z => by
    have hb : b ≠ e := fun y => by
      rw [y, e0] at z
      cases z
    rw [gk' b hb]
    exact k b o z
  have hde : dx ≠ e := fun z => by
    rw [z] at lt
    exact Nat.lt_irrefl _ lt
  have ledx : s1.heap.objs.size ≤ dx := Nat.le_trans le (Nat.le_of_lt lt)
  have J : Inv X pins σ (upd H1 dx (.xd [(f, v)])) { s1 with heap := G, toks := tk } := I1.laid (t' := tk) (a := dx) (o := .xd [(f, v)]) (h' := G) kG ledx
    ⟨_, ns.at fun o z => (gk' dx hde).trans z, relO_put (fs := []) ru fun g => True.intro⟩
  have na : upd H1 dx (.xd [(f, v)]) e = none := by
    rw [upd_ne hde.symm]
    exact I1.hok.fresh le
  exact ⟨e, _, _, { s1 with heap := G, toks := tk }, _, .ref C, some dx, rfl, J, fun b o z => by
    by_cases hb : b = e
    · rw [hb, ge] at z
      cases z
    · exact (gk' b hb).symm.trans z, ge, eg, ⟨rfl, rfl⟩, rfl, rfl, na, rfl, I1.bare, raises_own T.hsx T.tyC, q dx (I1.hok.fresh ledx)⟩
end
variable [DLX]
section
variable {X : Cx}
/-- raise C('..'), C without an own __init__ -/
def dRaiseT (n : Str) : FS := fun s => .exc ⟨n, none⟩ s
theorem sd_raiseT {n m : Str} {C : Addr} {B newId i : String} {bmB : List Value} {j : Nat} {p p2 pos pos' : Pos} (hc : X.calm = true) (FB : ExcBaseFacts B newId i bmB) (q : PySem.W.excIn X.K C bmB newId = true) (gC : X.mg n = some (.ref C)) (hn : DLX.mg n = X.mg n) (kC : PySem.W.keepIn X.K (.ref C) = true) (r : Raises X (.ref C)) (hg : Gl X n)
    (hdb : (n == ("__debug__" : Str)) = false := by decide) : PSD X (.Raise (some (.Call (.Name n p) [.Constant (.str m) j p2] [] pos)) none pos') (dRaiseT n) := by
  refine ⟨fun W tk => ⟨_, ps_raise hc tk (pmk_own FB q gC kC r hg hdb), fun H0 α0 σ H α s D rl k => ?_⟩⟩
  exact k (.ref C) none σ H α rl ⟨hn.trans gC, fun fs z => nomatch z⟩
/-- raise C(e) -/
def dRaiseS (n f : Str) (g : Str → Str) (fa : FE) : FS := fun s => match fa s with
  | .ok d s1 => if noOwn d then (match toPyS s1 d with
    | some p => if p.showable && ((!viaOwn d && noL d) || !p.hasDict) && decide (p.depth ≤ 60) && decide (p.shown.length ≤ 16777000) && decide ((g p.shown).length ≤ 16777216) then .exc ⟨n, some [(f, d)]⟩ s1 else .bad
    | none => .bad) else .bad
  | .exc e s1 => .exc e s1
  | .bad => .bad
theorem sd_raiseS {C : Addr} {n f x : Str} {g : Str → Str} {js : Expr} {B newId i : String} {bmB : List Value} {fI cc cda : Addr} {qual : Str} {params : Arguments} {scope : Scope} {p0 p1 p2 p3 p4 p5 p6 p7 p8 : Pos} {dV kV doc pm ct oc : Value} {an od : Option Addr} {osl : Array (Option Value)} {ccl cl : Value} {cdd cld : Option Addr} {ccs csl : Array (Option Value)} {vs : Array Value} {file : Str} {tf : Tok} {cdD : ClassData} {p pos pos' : Pos} {e : Expr} {fa : FE}
    (hc : X.calm = true) (T : SupC X.K X.mg X.prog.main.file C f x g js B newId i bmB fI cc cda qual params scope p0 p1 p2 p3 p4 p5 p6 p7 p8 dV kV doc pm ct oc an od osl ccl cl cdd cld ccs csl vs file tf cdD)
    (htop : (X.prog.main.scope.names.lookup ("super" : Str)).isSome = false) (hr : Room 4 X.A) (hgu : X.A.guards = some []) (hg : Gl X n) (hm : X.mg n = some (.ref C)) (hn : DLX.mg n = X.mg n) (ha : PED X e fa)
    (hdb : (n == ("__debug__" : Str)) = false := by decide) (he : starEach [e] X.env = (false, eval e X.env) :: starEach [] X.env := by rfl) : PSD X (.Raise (some (.Call (.Name n p) [e] [] pos)) none pos') (dRaiseS n f g fa) := by
  refine ⟨fun W tk => ?_⟩
  obtain ⟨t, pe, qe⟩ := ha.run W tk
  refine ⟨_, ps_raise hc tk (pmk_sup T htop hr hgu hg hm (pa_cons pe pa_nil he) hdb he), fun H0 α0 σ H α s D rl k => ?_⟩
  unfold dRaiseS at k
  refine qe H0 α0 σ H α s _ rl ?_
  cases ea : fa s with
  | bad => rw [ea] at k; exact k.elim
  | exc e s1 => rw [ea] at k; exact fun cls dd H' α' r' x => k cls dd σ H' α' r' x
  | ok d s1 =>
    rw [ea] at k
    intro v H1 α1 r1 t1 rx
    dsimp only at k
    split at k
    · rename_i hno
      split at k
      · rename_i pd epd
        split at k
        · rename_i hc
          simp only [Bool.and_eq_true, decide_eq_true_eq] at hc
          obtain ⟨⟨⟨⟨h1, h2⟩, h3⟩, h4⟩, h5⟩ := hc
          refine ⟨v, pd, rfl, fun pins s' u I ru => hreads I r1 rx ru epd h2, h1, h3, h4, h5, fun dd hd => ?_⟩
          have rv := noOwn_rv rx hno
          have ts : Stay H1 α1 (upd H1 dd (.xd [(f, v)])) α1 := Stay.upd_new hd
          refine k (.ref C) (some dd) σ _ α1 (r1.new hd) ⟨hn.trans hm, fun fs ef => ?_⟩
          cases ef
          refine ⟨dd, [(f, v)], rfl, upd_same, ?_⟩
          simp only [Rfs]
          exact ⟨v, [], rfl, Rv.stay ts d v rv, rfl⟩
        · exact k.elim
      · exact k.elim
    · exact k.elim
end
end DL

namespace DL
open PySem PySem.Spec PyProof.Rows L2
/-! ### 47. try with several clauses, some of them with a name -/
/-- a clause: its class, its name's slot, its suite's reading -/
structure Cl where
  c : Value
  i : Option Nat
  ts : Addr → Value → Option Addr → TS
/-- behind a clause with a name the slot is empty -/
def offI (i : Option Nat) (D : Ends) : Ends := match i with
  | none => D
  | some i => { nx := fun σ' H' => D.nx (σ'.set i none) H', rt := D.rt, bk := fun σ' H' => D.bk (σ'.set i none) H', ct := fun σ' H' => D.ct (σ'.set i none) H' }
def onI (i : Option Nat) (σ : L2.St) (a : Addr) : L2.St := match i with | none => σ | some i => σ.set i (some (.ref a))
def wMix (K : PySem.W.Frag) (Wout : WX) (D : Ends) : List Cl → WX
  | [] => Wout
  | k :: r => fun cls d σ H => ∃ b, PySem.W.exmOne K cls k.c = some b ∧ (b = true → ∀ a, H a = none → k.ts a cls d (offI k.i D) (onI k.i σ a) H) ∧ (b = false → wMix K Wout D r cls d σ H)
inductive ClsOk (X : Cx) : List ExceptHandler → List Cl → Prop
  | nil : ClsOk X [] []
  | bare {x : Str} {c : Value} {ts : Addr → Value → Option Addr → TS} {b₀ : Stmt} {suite : List Stmt} {np pos' : Pos} {hds : List ExceptHandler} {l : List Cl} (hc : Names X x c)
      (hsu : ∀ (a : Addr) (oe : Obj) (cls : Value) (d : Option Addr) (pn : List (Addr × Obj)), Zc cls d oe → (∃ vs, oe.data = .fields vs) → PSs (X.suite a ((a, oe) :: pn)) (b₀ :: suite) (ts a cls d)) (r : ClsOk X hds l) :
      ClsOk X (.ExceptHandler (some (.Name x np)) none (b₀ :: suite) pos' :: hds) (⟨c, none, ts⟩ :: l)
  | as {x n : Str} {i : Nat} {c : Value} {ts : Addr → Value → Option Addr → TS} {b₀ : Stmt} {suite : List Stmt} {np pos' : Pos} {hds : List ExceptHandler} {l : List Cl} (hN : X.N.Nodup) (hi : X.N[i]? = some n) (hln : X.env.kindOf n = some .local) (hc : Names X x c)
      (hsu : ∀ (a : Addr) (oe : Obj) (cls : Value) (d : Option Addr) (pn : List (Addr × Obj)), Zc cls d oe → (∃ vs, oe.data = .fields vs) → PSs (X.suite a ((a, oe) :: pn)) (b₀ :: suite) (ts a cls d)) (r : ClsOk X hds l) :
      ClsOk X (.ExceptHandler (some (.Name x np)) (some n) (b₀ :: suite) pos' :: hds) (⟨c, some i, ts⟩ :: l)
section
variable {X : Cx} {body : List Stmt} {h₀ : ExceptHandler} {hds : List ExceptHandler} {l : List Cl} {pos : Pos} {tb : WX → TS} {Wout : WX}
theorem ps_tryMix (hs : X.stack = X.env :: X.outer) (hf : X.env.frame = some X.env.locals) (tk : Takes X Wout)
    (hb : ∀ (W : WX) (pn : List (Addr × Obj)) (xe : Value → Shared → Prop), Takes (X.tr pn xe) W → PassesOwn (model X.prog X.w) X.A X.env xe → PSs (X.tr pn xe) body (tb W))
    (hh : ClsOk X (h₀ :: hds) l) : PS X (.Try body (h₀ :: hds) [] [] pos) (fun D σ H => tb (wMix X.K Wout D l) D σ H) := by
  refine ⟨fun pins s σ H D I h => ?_⟩
  have ok := I.ok
  have hfr : X.A.frames = some (X.env :: X.outer) := by rw [ok.frames, hs]
  refine wpAny_Try_except (wpAny_mono ((hb (wMix X.K Wout D l) (X.pn ++ pins) (fun e s₁ => wpAny (model X.prog X.w) X.A (noteFrame e X.env) (fun _ s₂ => wpAny (model X.prog X.w) X.A (setFlight e none) (fun _ s₃ =>
    wpAny (model X.prog X.w) X.A (handleBy e X.env (h₀ :: hds)) (SP X pins D) X.xe s₃) X.xe s₂) X.xe s₁) (fun u s' xx => ?_) PassesOwn.looking).run [] s σ H D (I.toTry _) h) (fun f s1 hsp => ?_) (fun e s1 he => he))
  · obtain ⟨a, B, sI, pins', σ', H', cls, d, rfl, J', nb, up, sky, na, os, ag, w⟩ := xx
    have J : Inv X pins σ' H' sI := J'.ofTry ok
    have sky' : Sky B (X.env :: X.outer) a (Zc cls d) X.env.locals s'.heap := by rw [← hs]; exact sky
    show wpAny (model X.prog X.w) X.A (noteFrame (.ref a) X.env) _ _ _
    refine Sky.land Zc.steady hfr hf sky' fun h3 fl3 up3 => ?_
    have J3 : Inv X pins σ' H' { s' with heap := h3 } := J.landed nb fl3.1 (up.trans up3) os ag
    obtain ⟨oe3, vs3, he3, hz3, hd3⟩ := fl3.there
    have nfr : a ∉ frs (X.env :: X.outer) := fun hm => by
      obtain ⟨_, o', e', hnf⟩ := fl3.2.2.1.mem hm
      rw [he3] at e'
      cases e'
      exact hnf _ hd3
    have nL : a ≠ X.env.locals := fun z => nfr (List.mem_filterMap.mpr ⟨X.env, List.mem_cons_self, by rw [hf, z]⟩)
    have nF : a ∉ X.fs := fun hm => by
      obtain ⟨e, he, q⟩ := List.mem_filterMap.mp hm
      exact nfr (List.mem_filterMap.mpr ⟨e, List.mem_cons_of_mem _ he, q⟩)
    have S3 := J3.suite he3 hd3 na nL nF
    have LT : PySem.W.Looks (model X.prog X.w) h3 (typeOf (.ref a)) cls := fun A Q E s k q => wpAny_typeOf_ref (k _ _ he3) (by rw [hz3.1]; exact q)
    have go : ∀ {hds' : List ExceptHandler} {l' : List Cl}, ClsOk X hds' l' → wMix X.K Wout D l' cls d σ' H' →
        wpAny (model X.prog X.w) X.A (handleBy (.ref a) X.env hds') (SP X pins D) X.xe { s' with heap := h3 } := by
      intro hds' l' hk
      have test : ∀ {x : Str} {c : Value} {np : Pos}, Names X x c → ∀ {Q : Value → Shared → Prop} {E : Value → Shared → Prop}, Q c { s' with heap := h3 } → wpAny (model X.prog X.w) (X.A.mark (some (.ref a))) (eval (.Name x np) X.env) Q E { s' with heap := h3 } := by
        intro x c np hc Q E q
        obtain ⟨hg, hdbg, hm | ⟨hm, hv, hnn⟩⟩ := hc
        · exact ld_glob (X := X.suite a ((a, oe3) :: (X.pn ++ pins))) S3 hg hm q hdbg
        · exact ld_blt (X := X.suite a ((a, oe3) :: (X.pn ++ pins))) S3 hg hm hv q hnn hdbg
      induction hk with
      | nil =>
        intro w
        refine wpAny_handleBy_nil ?_
        obtain ⟨k1, k2, k3, oe, vs, T, oT, ts', he, hz, hd, h1, hr⟩ := id fl3
        unfold PySem.passOn
        refine wpAny_bind (wpAny_field he hd h1 ?_)
        rw [if_neg (show ¬ ((Value.ref T == Value.none) = true) from by simp)]
        have fin : wpAny (model X.prog X.w) X.A (setFlight (.ref a) X.env.frame) (fun _ s4 => wpAny (model X.prog X.w) X.A (throw (.ref a) : Sem Flow) (SP X pins D) X.xe s4) X.xe { s' with heap := h3 } := by
          rw [hf]
          refine HandSPX.setFlight_upZ fl3 fun h4 hh4 up4 => wpAny_throw (tk _ _ ?_)
          exact ⟨a, B, sI, pins, σ', H', cls, d, rfl, J, nb, (up.trans up3).trans up4, .inr (.inr (by rw [hs]; exact hh4)), na, os, ag, w⟩
        first
          | exact wpAny_bind (wpAny_pure (wpAny_bind fin))
          | exact wpAny_bind fin
      | @bare x c ts b₀ suite np pos' hds2 l2 hc hsu r ih =>
        intro w
        obtain ⟨b, hb1, hyes, hno⟩ := w
        have LM := PySem.W.exm_one (M := model X.prog X.w) (J3.kIn) LT hb1
        refine wpAny_handleBy_cons (codeAny_handlers_test (test hc (LM.here ?_))) (by intro q; cases q)
        cases b with
        | false => exact ih (hno rfl)
        | true =>
          refine codeAny_handlers_suite (HandSPX.lands_againZ fl3 fun h4 fl4 up4 => ?_)
          have J4 : Inv X pins σ' H' { s' with heap := h4 } := J.landed nb fl4.1 ((up.trans up3).trans up4) os ag
          obtain ⟨oe4, vs4, he4, hz4, hd4⟩ := fl4.there
          refine wpAny_mono ((hsu a oe4 cls d (X.pn ++ pins) hz4 ⟨_, hd4⟩).run [] _ _ H' _ (J4.suite he4 hd4 na nL nF) (hyes rfl a na)) (fun f s6 hsp => ?_) (fun _ _ z => False.elim z)
          cases f with
          | ret u =>
            obtain ⟨v6, σ6, H6, S6, r6, q6⟩ := hsp
            exact ⟨_, _, _, S6.unsuite ok, r6, q6⟩
          | next =>
            obtain ⟨σ6, H6, S6, q6⟩ := hsp
            exact ⟨_, _, S6.unsuite ok, q6⟩
          | brk =>
            obtain ⟨σ6, H6, S6, q6⟩ := hsp
            exact ⟨_, _, S6.unsuite ok, q6⟩
          | cont =>
            obtain ⟨σ6, H6, S6, q6⟩ := hsp
            exact ⟨_, _, S6.unsuite ok, q6⟩
      | @as x n i c ts b₀ suite np pos' hds2 l2 hN hi hln hc hsu r ih =>
        intro w
        obtain ⟨b, hb1, hyes, hno⟩ := w
        have LM := PySem.W.exm_one (M := model X.prog X.w) (J3.kIn) LT hb1
        refine wpAny_handleBy_cons (codeAny_handlers_test (test hc (LM.here ?_))) (by intro q; cases q)
        cases b with
        | false => exact ih (hno rfl)
        | true =>
          refine codeAny_handlers_suite_as (HandSPX.lands_againZ fl3 fun h4 fl4 up4 => ?_)
          have J4 : Inv X pins σ' H' { s' with heap := h4 } := J.landed nb fl4.1 ((up.trans up3).trans up4) os ag
          obtain ⟨oe4, vs4, he4, hz4, hd4⟩ := fl4.there
          refine store_ok (X := X.suite a ((a, oe4) :: (X.pn ++ pins))) (v := .ref a) (J4.suite he4 hd4 na nL nF) hN hi (.inl hln) rfl (fun s5 S5 => ?_) (.inr hln)
          refine wpAny_mono ((hsu a oe4 cls d (X.pn ++ pins) hz4 ⟨_, hd4⟩).run [] s5 _ H' _ S5 (hyes rfl a na)) (fun f s6 hsp => ?_) (fun _ _ z => False.elim z)
          have end_ : ∀ {σ6 : L2.St} {H6 : Hp} {Q : Shared → Prop}, Inv (X.suite a ((a, oe4) :: (X.pn ++ pins))) [] σ6 H6 s6 → (∀ s7, Inv X pins (σ6.set i none) H6 s7 → Q s7) →
              wpAny (model X.prog X.w) X.A (do bindName X.env n .none; unbindBehindTheSuite X.env n pos') (fun _ s7 => Q s7) X.xe s6 := fun {σ6 H6 Q} S6 hq => gone_ok (S6.unsuite ok) hN hi hln hq
          cases f with
          | ret u =>
            obtain ⟨v6, σ6, H6, S6, r6, q6⟩ := hsp
            exact end_ S6 fun s7 J7 => ⟨_, _, _, J7, r6, q6⟩
          | next =>
            obtain ⟨σ6, H6, S6, q6⟩ := hsp
            exact end_ S6 fun s7 J7 => ⟨_, _, J7, q6⟩
          | brk =>
            obtain ⟨σ6, H6, S6, q6⟩ := hsp
            exact end_ S6 fun s7 J7 => ⟨_, _, J7, q6⟩
          | cont =>
            obtain ⟨σ6, H6, S6, q6⟩ := hsp
            exact end_ S6 fun s7 J7 => ⟨_, _, J7, q6⟩
    exact go hh w
  · cases f with
    | ret u =>
      obtain ⟨v, σ', H', J', r, q⟩ := hsp
      exact ⟨v, σ', H', J'.ofTry ok, r, q⟩
    | next =>
      obtain ⟨σ', H', J', q⟩ := hsp
      exact wpAny_execs_nil ⟨σ', H', J'.ofTry ok, q⟩
    | brk =>
      obtain ⟨σ', H', J', q⟩ := hsp
      exact ⟨σ', H', J'.ofTry ok, q⟩
    | cont =>
      obtain ⟨σ', H', J', q⟩ := hsp
      exact ⟨σ', H', J'.ofTry ok, q⟩
end
end DL

namespace DL
open PySem PySem.Spec PyProof.Rows L2
variable [DLX]
/-! ### 48. thunks: a lambda handed to a def -/
def isTab (n : Nat) : Cell → Bool
  | .tab m => m == n
  | _ => false
/-- the first cells are the tables -/
def tabsOk (n : Nat) (μ : List Cell) : Bool := (List.range n).all fun i => match μ[i]? with | some c => isTab i c | none => false
theorem tabs_at {n : Nat} {μ : List Cell} (h : tabsOk n μ = true) {i : Nat} (hi : i < n) : μ[i]? = some (.tab i) := by
  have q := List.all_eq_true.mp h i (List.mem_range.mpr hi)
  split at q
  · rename_i c e
    cases c <;> simp only [isTab, Bool.false_eq_true] at q
    rename_i m
    simp only [beq_iff_eq] at q
    rw [e, q]
  · cases q
section
variable {K : PySem.W.Frag} {H : Hp} {α : List Addr} {μ : List Cell}
theorem tab_cell (rc : RelC K H α μ) (ht : tabsOk DLX.T.length μ = true) {p : Addr × Str} (hp : p ∈ DLX.T) : ∃ i : Nat, DLX.T[i]? = some p ∧ α[i]? = some p.1 ∧ LamX.TabS H p.1 p.2 := by
  obtain ⟨i, e⟩ := List.mem_iff_getElem?.mp hp
  have hi := (List.getElem?_eq_some_iff.mp e).1
  have hm := tabs_at ht hi
  have hl : i < α.length := by
    rw [rc.len]
    exact (List.getElem?_eq_some_iff.mp hm).1
  obtain ⟨q, e1, e2⟩ := rc.at_ i α[i] _ (List.getElem?_eq_getElem hl) hm
  rw [e] at e1
  cases e1
  exact ⟨i, e, List.getElem?_eq_getElem hl, e2⟩
theorem tab_one (rc : RelC K H α μ) (ht : tabsOk DLX.T.length μ = true) {p p' : Addr × Str} (hp : p ∈ DLX.T) (hp' : p' ∈ DLX.T) (h : p.1 = p'.1) : p = p' := by
  obtain ⟨i, e1, e2, _⟩ := tab_cell rc ht hp
  obtain ⟨j, e3, e4, _⟩ := tab_cell rc ht hp'
  have hi := (List.getElem?_eq_some_iff.mp e2).1
  have : i = j := by
    obtain ⟨hj, ej⟩ := List.getElem?_eq_some_iff.mp e4
    obtain ⟨_, ei⟩ := List.getElem?_eq_some_iff.mp e2
    have nd := List.nodup_iff_pairwise_ne.mp rc.nd
    rcases Nat.lt_trichotomy i j with z | z | z
    · exact absurd (ei.trans (h.trans ej.symm)) (List.pairwise_iff_getElem.mp nd i j hi hj z)
    · exact z
    · exact absurd (ej.trans (h.symm.trans ei.symm)) (List.pairwise_iff_getElem.mp nd j i hj hi z)
  subst this
  rw [e1] at e3
  exact Option.some.inj e3
/-- the table at P grows by one lambda, its code object new at c -/
theorem grown {P c : Addr} {q : Str} {ps : Array Value} {v1 v2 : Value} (rc : RelC K H α μ) (ht : tabsOk DLX.T.length μ = true) (hm : (P, q) ∈ DLX.T) (hP : H P = some (.tbl ps)) (ho : LamX.TabS (upd (upd H P (.tbl (ps ++ #[v1, v2, .ref c]))) c (LamX.CodeO c q)) P q) (nC : H c = none) :
    StayC H α (upd (upd H P (.tbl (ps ++ #[v1, v2, .ref c]))) c (LamX.CodeO c q)) α ∧ RelC K (upd (upd H P (.tbl (ps ++ #[v1, v2, .ref c]))) c (LamX.CodeO c q)) α μ := by
  obtain ⟨iP, _, aP, _⟩ := tab_cell rc ht hm
  have nPc : P ≠ c := ne_of_none hP nC
  have at_ : ∀ b o, H b = some o → b ≠ P → upd (upd H P (.tbl (ps ++ #[v1, v2, .ref c]))) c (LamX.CodeO c q) b = some o := fun b o e n => by
    rw [upd_ne (ne_of_none e nC), upd_ne n]
    exact e
  have st : Stay H α (upd (upd H P (.tbl (ps ++ #[v1, v2, .ref c]))) c (LamX.CodeO c q)) α := ⟨fun a o e f => at_ a o e fun z => by
    rw [z, hP] at e
    cases e
    exact f, List.prefix_rfl, fun a e => by
    by_cases h1 : a = c
    · rw [h1]
      exact nC
    · rw [upd_ne h1] at e
      by_cases h2 : a = P
      · rw [h2, upd_same] at e
        cases e
      · rwa [upd_ne h2] at e⟩
  refine ⟨⟨st, fun a o e n => at_ a o e fun z => n ?_, fun a h => .inl h⟩, ⟨rc.len, rc.nd, fun n a x h1 h2 => ?_⟩⟩
  · rw [z]
    exact List.mem_of_getElem? aP
  · have hx := rc.at_ n a x h1 h2
    by_cases hb : a = P
    · subst hb
      cases x with
      | tab m =>
        obtain ⟨q', e1, e2⟩ := hx
        have : (a, q') = (a, q) := tab_one rc ht (List.mem_of_getElem? e1) hm rfl
        cases this
        exact ⟨q, e1, ho⟩
      | lst xs =>
        obtain ⟨vs, e, _⟩ := hx
        rw [hP] at e
        cases e
      | dct kvs =>
        rcases hx with ⟨kv, e, _⟩ | ⟨kv, _, e, _⟩ <;> rw [hP] at e <;> cases e
      | ins C fs =>
        obtain ⟨dx, vs, e, _⟩ := hx
        rw [hP] at e
        cases e
      | dead => exact ⟨.tbl (ps ++ #[v1, v2, .ref c]), by rw [upd_ne nPc, upd_same]⟩
    · exact hx.stay st fun o e _ => at_ a o e hb
end
section
variable {X : Cx} {pins : List (Addr × Obj)} {σ : Sg} {H : Hp} {s : Shared} {α : List Addr} {μ : List Cell}
/-- lambda: body is made -/
theorem lam_makeD {c P : Addr} {params : Arguments} {body : Expr} {scope : Scope} {pos : Pos} {E Q : Value → Shared → Prop} (I : Inv X pins σ H s) (rc : RelC X.K H α μ) (ht : tabsOk DLX.T.length μ = true) (TB : LamX.TabB X.base X.mg c P) (hcode : X.env.code = .ref c)
    (hm : (P, X.env.qual ++ "<lambda>") ∈ DLX.T) (hdef : defaultsOf params X.env = ([], [])) (hfree : ∀ y ∈ scope.names, y.2 = .free → ∃ c, X.env.cells.lookup y.1 = some c)
    (h : ∀ (f c' : Addr) (pm ctv : Value) (H1 : Hp) (s' : Shared), Inv X pins σ H1 s' → StayC H α H1 α → RelC X.K H1 α μ →
      s'.heap.get? f = some (PySem.W.kla_obj "<lambda>" (X.env.qual ++ "<lambda>") params body scope (cloFrom X.env.cells scope.names []) pm c' ctv) → H1 f = none → f ∉ frs X.stack → H1 c' = some (LamX.CodeO c' (X.env.qual ++ "<lambda>")) → Q (.ref f) s') :
    wpAny (model X.prog X.w) X.A (eval (.Lambda params body scope pos) X.env) Q E s := by
  obtain ⟨_, _, _, tS⟩ := tab_cell rc ht hm
  obtain ⟨ps, hP, hok, ha⟩ := tS
  have nofr : ∀ f, s.heap.objs.size ≤ f → f ∉ frs X.stack := fun f hf z => by
    rcases List.mem_cons.mp (I.stkSub _ z) with e | e
    · have := I.lt
      rw [← e] at this
      exact Nat.lt_irrefl _ (Nat.lt_of_lt_of_le this hf)
    · exact I.nofs hf e
  have bP := TB.bm.keeps I.bk
  have hP' : s.heap.get? P = some { cls := .none, data := .fields ps } := I.hok P _ hP
  refine PySem.W.kla_eval hdef ?_
  cases hc : codeAmong pos ps.toList with
  | some cv =>
    obtain ⟨c', rfl, hco⟩ := ha pos cv hc
    exact PySem.W.kla_makeFunctionHit (mg := X.mg) (c := c) (P := P) (ps := ps) (closure_ok hfree) I.ok.glob (I.mod.glob.keeps I.bk) hcode (TB.code.keeps I.bk) hP' hok hc bP fun ctv h' tk hx hsz =>
      h h'.objs.size c' ((X.mg "__name__").getD .none) ctv H _ (I.kept fun b o e => Heap.get?_push_of_some _ (hx b o e)) ⟨Stay.refl _ _, fun _ _ e _ => e, fun _ e => .inl e⟩ rc (Heap.get?_push_size _ rfl) (I.hok.fresh hsz) (nofr _ hsz) hco
  | none =>
    refine PySem.W.kla_makeFunction (mg := X.mg) (c := c) (P := P) (ps := ps) (closure_ok hfree) I.ok.glob (I.mod.glob.keeps I.bk) hcode (TB.code.keeps I.bk) hP' hok hc TB.gP bP fun c' ctv h' tk hx hge hlt hrec htb => ?_
    obtain ⟨_, oc, vs, t, e2, hoc, hd, hv⟩ := hrec
    cases e2
    have hsz : s.heap.objs.size ≤ h'.objs.size := Nat.le_trans hge (Nat.le_of_lt hlt)
    have nC : H c' = none := I.hok.fresh hge
    have tS' : LamX.TabS (upd (upd H P (.tbl (ps ++ #[rawInt pos.line, rawInt pos.col, .ref c']))) c' (LamX.CodeO c' (X.env.qual ++ "<lambda>"))) P (X.env.qual ++ "<lambda>") := by
      have eL : (ps ++ #[rawInt pos.line, rawInt pos.col, .ref c']).toList = ps.toList ++ [rawInt pos.line, rawInt pos.col, .ref c'] := by simp
      refine ⟨_, by rw [upd_ne (ne_of_none hP nC), upd_same], by rw [eL]; exact PySem.TriplesOk_snoc _ _ _ _ hok, fun p' cv hcv => ?_⟩
      rw [eL] at hcv
      rcases LamX.among_app _ hok hcv with z | z
      · obtain ⟨c0, e1, e2⟩ := ha p' cv z
        refine ⟨c0, e1, ?_⟩
        rw [upd_ne (ne_of_none e2 nC), upd_ne (fun y => by rw [y, hP] at e2; exact LamX.codeO_ne ps (Option.some.inj e2).symm)]
        exact e2
      · exact ⟨c', z, upd_same⟩
    obtain ⟨g1, g2⟩ := grown rc ht hm hP tS' nC
    refine h h'.objs.size c' ((X.mg "__name__").getD .none) ctv _ _ (LamX.inv_table (t' := tk) (more := #[rawInt pos.line, rawInt pos.col, .ref c']) (h' := h'.push (PySem.W.kla_obj "<lambda>" (X.env.qual ++ "<lambda>") params body scope (cloFrom X.env.cells scope.names []) ((X.mg "__name__").getD .none) c' ctv)) I hP
      (fun b o hb e => Heap.get?_push_of_some _ (hx b o hb e)) (Heap.get?_push_of_some _ htb) hge ⟨oc, vs, t, Heap.get?_push_of_some _ hoc, hd, hv⟩) g1 g2 (Heap.get?_push_size _ rfl) ?_ (nofr _ hsz) upd_same
    have n1 : h'.objs.size ≠ c' := Nat.ne_of_gt hlt
    have n2 : h'.objs.size ≠ P := Nat.ne_of_gt (Nat.lt_of_lt_of_le (Heap.lt_size hP') hsz)
    rw [upd_ne n1, upd_ne n2]
    exact I.hok.fresh hsz
end
end DL

namespace DL
open PySem PySem.Spec PyProof.Rows L2
/-! ### 49. the thunk's call; the def that tells what a call comes to -/
section
variable {X : Cx} {pins : List (Addr × Obj)} {σ : Sg} {H : Hp} {s : Shared}
/-- a(), a the lambda, in the def that got it; no guard stands -/
theorem pe_actD {CXg : CXT} {Eg : XK} {Ng : List Str} {qg : Str} {sg : Scope} {g f c' : Addr} {cdg pm ctv : Value} {params : Arguments} {body : Expr} {scope : Scope} {k i : Nat} {a : Str} {pn : List (Addr × Obj)} {xe : Value → Shared → Prop} {W : WX} {E : XK} {tb : TE} {p1 p2 : Pos}
    (I : Inv X pins σ H s) (L : LamX.LamS X.env.scope scope) (hf : s.heap.get? f = some (PySem.W.kla_obj "<lambda>" (X.env.qual ++ "<lambda>") params body scope (cloFrom X.env.cells scope.names []) pm c' ctv)) (hfn : H f = none) (hfr : f ∉ frs X.stack)
    (hbind : bindArgs (PySem.W.kla_fn "<lambda>" (X.env.qual ++ "<lambda>") params body scope (cloFrom X.env.cells scope.names []) pm (.ref c') ctv) ⟨[], []⟩ = pure [])
    (tk : Takes ((cxOf CXg X.prog X.w X.K X.mg X.base Ng qg sg g cdg X.A X.stack s H Eg).tr pn xe) W) (hW : ∀ cls d σ' H', E cls d H' → W cls d σ' H') (hr : Room (k + 1) (X.A.deeper (envOfC qg sg s.heap.objs.size g cdg))) (hgu : X.A.guards = some [])
    (hbody : ∀ (A : Around) (outer : List Env) (s : Shared) (H : Hp), Room k (A.deeper (LamX.lamEnv X scope s.heap.objs.size f c')) → A.guards = some [] → PE (LamX.lamCx X A outer s H E scope f c') body tb)
    (hN : Ng[i]? = some a) (hv : Vis sg a) (hd : (a == ("__debug__" : Str)) = false := by decide) (hcd : (a == ("__classdict__" : Str)) = false := by decide) :
    PE ((cxOf CXg X.prog X.w X.K X.mg X.base Ng qg sg g cdg X.A X.stack s H Eg).tr pn xe) (.Call (.Name a p1) [] [] p2)
      (fun σZ HZ Q => σZ[i]? = some (some (.ref f)) ∧ HZ c' = some (LamX.CodeO c' (X.env.qual ++ "<lambda>")) ∧ tb σ HZ Q) := by
  constructor
  rintro pz sz σz Hz Q J ⟨k1, k2, k3⟩
  have rd := (pe_var (pos := p1) (i := i) hN hv hd hcd).run pz sz σz Hz (fun v H1 => v = .ref f ∧ H1 = Hz) J ⟨.ref f, k1, rfl, rfl⟩
  refine wpAny_Call_Name_kw (thn rd ?_)
  rintro u s1 ⟨v, H1, J1, r1, rfl, rfl⟩
  obtain rfl : u = Value.ref f := r1
  have at1 := J1.base.keep f _ hf hfn hfr (fun z => nomatch (show f ∈ ([] : List Addr) from z))
  have un : Un (frs X.stack) [] H H1 s.heap s1.heap := J1.base
  obtain ⟨⟨oc, vs, t, e1, e2, e3⟩, _, _⟩ := J1.hok c' _ k2
  refine PySem.W.callWith_F0 ⟨_, _, _, _, at1⟩ (wpAny_call (codeAny_mono (R := L2.CR (L2.CX X.prog X.w) (envOfC qg sg s.heap.objs.size g cdg :: X.stack) X.prog X.w H1 s1 Q E) ?_ ?_))
  · show codeAny (model X.prog X.w) (X.A.deeper (envOfC qg sg s.heap.objs.size g cdg)) (.call (.ref f) ⟨[], []⟩) _ s1
    refine PySem.W.kla_callFunE hr.depth at1 rfl L.co L.gen rfl ⟨c', oc, vs, t, rfl, e1, e2, e3⟩ ?_
    rw [hbind]
    refine wpAny_pure (wpAny_newFunctionEnv (fun y hy => (L.own y hy).2) (fun y hy => nomatch hy) (fun h₁ n1 n2 => ⟨J1.nolimit.fresh _ n2, ?_⟩) L.kind)
    have kp : ∀ b o, s1.heap.get? b = some o → h₁.get? b = some o := fun b o e => n2.extBut b o (Nat.ne_of_lt (Heap.lt_size e)) (Heap.get?_push_of_some _ e)
    have J2 : Inv (LamX.lamCx X (X.A.deeper (envOfC qg sg s.heap.objs.size g cdg)) (envOfC qg sg s.heap.objs.size g cdg :: X.stack) s1 H1 E scope f c') [] σ H1 { s1 with heap := h₁, toks := s1.toks + ([] : List (Str × Value)).length } :=
      LamX.lam_start2 I L J1.env0 hr.hd un n1 kp
    refine PySem.W.kla_codeExpr (wpAny_mono ((hbody _ _ s1 H1 (hr.deeper _) hgu).run [] _ _ H1 Q J2 k3) ?_ fun e s' z => z)
    rintro v s' ⟨w', H', J3, rv, q⟩
    exact ⟨w', H', J3.os, J3.bare, J3.base, J3.hok, rv, q⟩
  · have hx : Passes (L2.CX X.prog X.w) ((cxOf CXg X.prog X.w X.K X.mg X.base Ng qg sg g cdg X.A X.stack s H Eg).tr pn xe) E := passes_call tk hW
    rintro (e | fl) s' z
    · exact hx pz σz H1 s1 e s' J1 z
    · cases fl with
      | ret u => exact J1.after z
      | next => exact z.elim
      | brk => exact z.elim
      | cont => exact z.elim
end
variable [DLX]
def tLamD (K : PySem.W.Frag) (TT : (XK → Hp → VK → Prop) → Hp → VK → Prop) (t : XK → TE) : TE := fun σ H Q => ∃ H0 α0 α st, Rel K H0 α0 H α σ st ∧ tabsOk DLX.T.length st.μ = true ∧ ∀ H1, StayC H α H1 α → RelC K H1 α st.μ → TT (fun E H' Q' => t E σ H' Q') H1 Q
section
variable {X : Cx}
theorem pe_lamcallD {TT : (XK → Hp → VK → Prop) → Hp → VK → Prop} {x a : Str} {g c P : Addr} {k : Nat} {pg : Arguments} {bg : List Stmt} {sg : Scope} {dV kV doc pm cdv ct oc : Value} {an od : Option Addr} {osl : Array (Option Value)} {Ng : List Str}
    {params : Arguments} {body : Expr} {scope : Scope} {t : XK → TE} {p lpos pos : Pos} (hg : Gl X x) (hm : X.mg x = some (.ref g)) (hk : PySem.W.keepIn X.K (.ref g) = true)
    (lk : X.K.lookup g = some ⟨oc, od, .func (PySem.W.fnOf x x pg bg sg dV kV doc pm an cdv ct), osl⟩) (hcg : PySem.W.codeIn X.K cdv x = true) (hb : L2.Binds X.K (PySem.W.fnOf x x pg bg sg dV kV doc pm an cdv ct) [a] []) (Sg : FnScope Ng [a] sg) (hNg : Ng[0]? = some a) (hva : Vis sg a)
    (hG : LamX.GivesTo X Ng x sg g cdv bg a (X.env.qual ++ "<lambda>") TT)
    (TB : LamX.TabB X.base X.mg c P) (hcode : X.env.code = .ref c) (hmT : (P, X.env.qual ++ "<lambda>") ∈ DLX.T) (hr : Room (k + 2) X.A) (hgu : X.A.guards = some []) (L : LamX.LamS X.env.scope scope) (hdef : defaultsOf params X.env = ([], []))
    (hbind : ∀ (q : Str) (cl : List (Str × Addr)) (pm cv ctv : Value), bindArgs (PySem.W.kla_fn "<lambda>" q params body scope cl pm cv ctv) ⟨[], []⟩ = pure [])
    (hbody : ∀ (A : Around) (outer : List Env) (s : Shared) (H : Hp) (E : XK) (f c' : Addr), Room k (A.deeper (LamX.lamEnv X scope s.heap.objs.size f c')) → A.guards = some [] → PE (LamX.lamCx X A outer s H E scope f c') body (t E))
    (hdb : (x == ("__debug__" : Str)) = false := by decide) (hd : (a == ("__debug__" : Str)) = false := by decide) (hcd : (a == ("__classdict__" : Str)) = false := by decide) :
    PE X (.Call (.Name x p) [.Lambda params body scope lpos] [] pos) (tLamD X.K TT t) := by
  constructor
  rintro pins s σ H Q I ⟨H0, α0, α, st, rl, ht, h⟩
  refine wpAny_Call_Name_kw (ld_glob I hg hm (PySem.W.callWith_K (h₀ := X.base) I.ok.mod.kin hk ?_ (by rfl) (by rfl)) hdb)
  show wpAny _ _ (spliced ((false, eval (.Lambda params body scope lpos) X.env) :: backTo pos (starEach [] X.env))) _ _ s
  refine Calls.spliced_cons (lam_makeD I rl.cells ht TB hcode hmT hdef (L.has I.ok) fun f c' pm' ctv H1 s' I1 sc rc hf hfn hfr hco => Calls.spliced_nil ⟨I1.kIn, ?_⟩)
  refine wpAny_call (codeAny_mono (R := L2.CR C8.CX0 X.stack X.prog X.w H1 s' Q C8.E0) ?_ ?_)
  · refine LamX.run_ofS (N := Ng) (ps := [a]) (us := [.ref f]) (vs := [.ref f]) lk hcg Sg hr I1.env0 (hb s' [.ref f] I1.kIn rfl) (.cons rfl .nil) rfl fun hr' => ?_
    obtain ⟨t', ht', hq'⟩ := hG f c' s' H1 Q (fun E H' Q' => t E σ H' Q') (fun W pn xe E p1 p2 tk hW => pe_actD (i := 0) I1 L hf hfn hfr (hbind _ _ _ _ _) tk hW hr' hgu (fun A outer s H hr2 hg2 => hbody A outer s H E f c' hr2 hg2) hNg hva hd hcd) hco (h H1 sc rc)
    exact ⟨t', ht'.nox, hq'⟩
  · rintro (e | fl) s2 z
    · exact (show False from z).elim
    · cases fl with
      | ret u => exact I1.after z
      | next => exact z.elim
      | brk => exact z.elim
      | cont => exact z.elim
end
end DL

namespace DL
open PySem PySem.Spec PyProof.Rows L2
variable [DLX]
/-! ### 50. try: call() / except ..: return a text -/
/-- what is told of a caught error: a text; a text and how one of its fields is shown -/
inductive CK where
  | cst (r : Str) | rep (t f : Str)
def wCK (K : PySem.W.Frag) (Q : VK) (C : Value) : CK → XK
  | .cst r => fun _ _ H => Q (.str r) H
  | .rep t f => fun cls d H => cls = C ∧ ∃ (dx : Addr) (vs : List (Str × V)) (v : V), d = some dx ∧ H dx = some (.xd vs) ∧ vs.lookup f = some v ∧ rBI K gRepr [v] H fun u H1 => ∃ x, u = .str x ∧ t.length + x.length ≤ sizeLine ∧ Q (.str (t ++ x)) H1
def wCl (K : PySem.W.Frag) (mg : Str → Option Value) (Q : VK) : List (Str × CK) → XK
  | [] => fun _ _ _ => False
  | (c, k) :: r => fun cls d H => ∃ C b, mg c = some C ∧ PySem.W.exmOne K cls C = some b ∧ (b = true → wCK K Q C k cls d H) ∧ (b = false → wCl K mg Q r cls d H)
def TTmet (K : PySem.W.Frag) (mg : Str → Option Value) (cl : List (Str × CK)) (fine : Str) : (XK → Hp → VK → Prop) → Hp → VK → Prop := fun tl H Q => tl (wCl K mg Q cl) H fun _ H' => Q (.str fine) H'
section
variable {X : Cx}
/-- a name whose slot's number is within what the def has -/
def tVarL (i : Nat) (a : Addr) : TE := fun σ H Q => (i < σ.length → σ[i]? = some (some (.ref a))) ∧ Q (.ref a) H
theorem pe_varL {i : Nat} {a : Addr} {x : Str} {pos : Pos} (hN : X.N[i]? = some x) (hv : Vis X.env.scope x) (hd : (x == ("__debug__" : Str)) = false := by decide) (hcd : (x == ("__classdict__" : Str)) = false := by decide) : PE X (.Name x pos) (tVarL i a) :=
  ⟨fun pins s σ H Q I h => (pe_var hN hv hd hcd).run pins s σ H Q I ⟨_, h.1 (by rw [I.len]; exact (List.getElem?_eq_some_iff.mp hN).1), h.2⟩⟩
def tsRep (K : PySem.W.Frag) (i : Nat) (C : Addr) (t f : Str) (a : Addr) (cls : Value) (d : Option Addr) : TS :=
  tRet (tOp rAddS (tC (.str t)) (tCB (rBI K gRepr) (tCons (tXf a cls d C f (tVarL i a)) tNil)))
/-- the clauses of such a def: names of classes, and what is told -/
inductive MetC (X : Cx) : List ExceptHandler → List (Str × CK) → Prop
  | nil : MetC X [] []
  | cst {x r : Str} {C : Value} {j : Nat} {np p1 p2 pos' : Pos} {hds : List ExceptHandler} {cl : List (Str × CK)} (hm : X.mg x = some C) (hg : Gl X x) (hd : (x == ("__debug__" : Str)) = false) (h : MetC X hds cl) :
      MetC X (.ExceptHandler (some (.Name x np)) none [.Return (some (.Constant (.str r) j p1)) p2] pos' :: hds) ((x, .cst r) :: cl)
  | rep {x n t f : Str} {C : Addr} {i j : Nat} {np p1 p2 p3 p4 p5 p6 p7 pos' : Pos} {hds : List ExceptHandler} {cl : List (Str × CK)} (hm : X.mg x = some (.ref C)) (hg : Gl X x) (hd : (x == ("__debug__" : Str)) = false)
      (hN : X.N.Nodup) (hi : X.N[i]? = some n) (hln : X.env.kindOf n = some .local) (hv : Vis X.env.scope n) (hdn : (n == ("__debug__" : Str)) = false) (hcd : (n == ("__classdict__" : Str)) = false) (T : XfC X.K C) (hno : PySem.W.findIn X.K (.ref C) f = some none)
      (hgr : Gl X "repr") (hmr : X.mg "repr" = none) (hgu : X.A.guards = some []) (hu : X.A.units + 65 < cLine) (hb : ∀ e : Env, e = X.env → attributeBase (.Name n p3) f e (eval (.Name n p3) e) = eval (.Name n p3) e)
      (he : starEach [.Attribute (.Name n p3) f p4] X.env = (false, eval (.Attribute (.Name n p3) f p4) X.env) :: starEach [] X.env) (h : MetC X hds cl) :
      MetC X (.ExceptHandler (some (.Name x np)) (some n) [.Return (some (.BinOp (.Constant (.str t) j p1) .Add (.Call (.Name "repr" p2) [.Attribute (.Name n p3) f p4] [] p5) p6)) p7] pos' :: hds) ((x, .rep t f) :: cl)
theorem metC_cls {hds : List ExceptHandler} {cl : List (Str × CK)} (h : MetC X hds cl) : ∃ l : List Cl, ClsOk X hds l ∧ ∀ (D : Ends) (cls : Value) (d : Option Addr) (σ : Sg) (H : Hp), wCl X.K X.mg D.rt cl cls d H → wMix X.K (fun _ _ _ _ => False) D l cls d σ H := by
  induction h with
  | nil => exact ⟨[], .nil, fun _ _ _ _ _ z => z⟩
  | @cst x r C j np p1 p2 pos' hds cl hm hg hd h ih =>
    obtain ⟨l, h1, h2⟩ := ih
    refine ⟨⟨C, none, fun _ _ _ => tRet (tC (.str r))⟩ :: l, .bare ⟨hg, hd, .inl hm⟩ (fun a oe cls d pn _ _ => pss_one (ps_ret pe_str)) h1, ?_⟩
    rintro D cls d σ H ⟨C', b, e1, e2, e3, e4⟩
    rw [hm] at e1
    cases e1
    exact ⟨b, e2, fun hb a na => e3 hb, fun hb => h2 _ _ _ _ _ (e4 hb)⟩
  | @rep x n t f C i j np p1 p2 p3 p4 p5 p6 p7 pos' hds cl hm hg hd hN hi hln hv hdn hcd T hno hgr hmr hgu hu hb he h ih =>
    obtain ⟨l, h1, h2⟩ := ih
    refine ⟨⟨.ref C, some i, tsRep X.K i C t f⟩ :: l, .as hN hi hln ⟨hg, hd, .inl hm⟩ (fun a oe cls d pn hz hf => pss_one (ps_ret ?_)) h1, ?_⟩
    · have hx : PE (X.suite a ((a, oe) :: pn)) (.Attribute (.Name n p3) f p4) (tXf a cls d C f (tVarL i a)) := pe_xf (X := X) T hno hz hf (pe_varL (X := X.suite a ((a, oe) :: pn)) hi hv hdn hcd) (hb _ rfl)
      exact pe_op op_add_str pe_str (pe_callB (X := X.suite a ((a, oe) :: pn)) (BI.call (bi_repr (X := X.suite a ((a, oe) :: pn)) hgu hu)) hgr hmr rfl (pa_cons hx pa_nil he) (by decide) (by decide) he (by rfl))
    · rintro D cls d σ H ⟨C', b, e1, e2, e3, e4⟩
      rw [hm] at e1
      cases e1
      refine ⟨b, e2, fun hb a na => ?_, fun hb => h2 _ _ _ _ _ (e4 hb)⟩
      obtain ⟨rfl, dx, vs, v, rfl, k1, k2, k3⟩ := e3 hb
      obtain ⟨H0, σ1, α0, α, st, ds, dd, r1, r2, r3, r4⟩ := k3
      refine ⟨fun hl => ?_, rfl, rfl, dx, vs, v, rfl, k1, k2, H0, σ1, α0, α, st, ds, dd, r1, r2, r3, fun u H' α' r' t' rx => ?_⟩
      · show (σ.set i (some (V.ref a)))[i]? = _
        rw [List.getElem?_set_self (by simpa [onI] using hl)]
      · obtain ⟨y, rfl, hl, q⟩ := r4 u H' α' r' t' rx
        exact ⟨t, y, rfl, rfl, hl, q⟩
/-- the whole def -/
theorem met_gives {Ng : List Str} {x a q fine : Str} {sg : Scope} {g : Addr} {cdg : Value} {j : Nat} {h₀ : ExceptHandler} {hds : List ExceptHandler} {cl : List (Str × CK)} {p1 p2 p3 p4 p5 p6 : Pos} (h0 : ∀ f : Addr, (L2.start Ng [V.ref f])[0]? = some (some (V.ref f)))
    (hC : ∀ (s : Shared) (H : Hp), MetC (cxOf C8.CX0 X.prog X.w X.K X.mg X.base Ng x sg g cdg X.A X.stack s H C8.E0).nox (h₀ :: hds) cl) :
    LamX.GivesTo X Ng x sg g cdg [.Try [.Expr (.Call (.Name a p1) [] [] p2) p3] (h₀ :: hds) [] [] p4, .Return (some (.Constant (.str fine) j p5)) p6] a q (TTmet X.K X.mg cl fine) := by
  intro f c' s H Q tl act hc h
  obtain ⟨l, h1, h2⟩ := metC_cls (hC s H)
  refine ⟨_, pss_cons (ps_tryMix (X := (cxOf C8.CX0 X.prog X.w X.K X.mg X.base Ng x sg g cdg X.A X.stack s H C8.E0).nox) (Wout := fun _ _ _ _ => False)
      (tb := fun W D σ H => ∃ Ech : XK, (∀ cls d σ' H', Ech cls d H' → W cls d σ' H') ∧ σ[0]? = some (some (.ref f)) ∧ H c' = some (LamX.CodeO c' q) ∧ tl Ech H fun _ H1 => D.nx σ H1)
      rfl rfl LamX.takes0 (fun W pn xe tk _ => ⟨fun pins s' σ H' D I h' => ?_⟩) h1) (pss_one (ps_ret pe_str)), ?_⟩
  · obtain ⟨Ech, hW, k1, k2, k3⟩ := h'
    exact (pss_one (ps_expr (act W pn xe Ech p1 p2 tk hW))).run pins s' σ H' D I ⟨k1, k2, k3⟩
  · exact ⟨_, fun cls d σ' H' z => h2 _ cls d σ' H' z, h0 f, hc, h⟩
end
end DL

namespace DL
open PySem PySem.Spec PyProof.Rows L2
/-! ### 51. met(lambda: body) -/
def hideS : Slot → Slot
  | .own _ => .no
  | x => x
/-- what one owns is not seen -/
def hide (s : S) : S := ⟨s.δ.map hideS, s.μ⟩
def dCK (s : S) (e : EX) (c : Str) : CK → Option Str
  | .cst r => some r
  | .rep t f => if e.cls = c then e.fs.bind fun fs => (fs.lookup f).bind fun d => (shownD s d).bind fun x => if t.length + x.length ≤ 16777216 then some (t ++ x) else none else none
/-- the first clause that takes it -/
def dMatch (sub : Str → Str → Option Bool) (s : S) (e : EX) : List (Str × CK) → Option Str
  | [] => none
  | (c, k) :: r => match sub e.cls c with
    | some true => dCK s e c k
    | some false => dMatch sub s e r
    | none => none
/-- T: how many tables there are -/
def dMet (T : Nat) (sub : Str → Str → Option Bool) (cl : List (Str × CK)) (fine : Str) (fb : FE) : FE := fun s => if tabsOk T s.μ then (match fb (hide s) with
  | .ok _ s2 => .ok (.str fine) { s with μ := s2.μ }
  | .exc e s2 => (match dMatch sub s2 e cl with
    | some x => .ok (.str x) { s with μ := s2.μ }
    | none => .bad)
  | .bad => .bad) else .bad
variable [DLX]
theorem hide_get {s : S} {i : Nat} {x : Slot} (h : (hide s).δ[i]? = some x) : ∃ y, s.δ[i]? = some y ∧ x = hideS y := by
  unfold hide at h
  simp only [List.getElem?_map, Option.map_eq_some_iff] at h
  obtain ⟨y, h1, h2⟩ := h
  exact ⟨y, h1, h2.symm⟩
section
variable {K : PySem.W.Frag} {H0 H H1 : Hp} {α0 α α1 : List Addr} {σ : Sg} {s : S}
theorem Rel.hide (r : Rel K H0 α0 H α σ s) (sc : StayC H α H1 α) (rc : RelC K H1 α s.μ) : Rel K H1 α H1 α σ (hide s) := by
  refine ⟨rc, ⟨by rw [r.slots.len]; simp [DL.hide], fun i d e => ?_, fun i c e => ?_, fun i j c c' a e => ?_⟩, fun _ _ h _ => h, fun _ h => .inl h, Stay.refl _ _⟩
  · obtain ⟨y, h1, h2⟩ := hide_get e
    cases y <;> cases h2
    obtain ⟨v, e1, e2⟩ := r.slots.val i d h1
    exact ⟨v, e1, Rv.stay sc.st _ _ e2⟩
  · obtain ⟨y, h1, h2⟩ := hide_get e
    cases y <;> cases h2
  · obtain ⟨y, h1, h2⟩ := hide_get e
    cases y <;> cases h2
theorem StayC.trans {H2 : Hp} {α2 : List Addr} (a : StayC H α H1 α1) (b : StayC H1 α1 H2 α2) : StayC H α H2 α2 := by
  refine ⟨a.st.trans b.st, fun c o h n => b.ot c o (a.ot c o h n) fun z => ?_, fun c h => ?_⟩
  · rcases a.nw c z with y | y
    · exact n y
    · rw [h] at y; cases y
  · rcases b.nw c h with z | z
    · exact a.nw c z
    · exact .inr (a.st.dom c z)
theorem rfs_look {f : Str} : ∀ {fs : List (Str × D)} {vs : List (Str × V)} {d : D}, Rfs K H α fs vs → fs.lookup f = some d → ∃ v, vs.lookup f = some v ∧ Rv K H α d v
  | [], _, _, _, e => by simp at e
  | (k, d) :: fs, l, d', h, e => by
    simp only [Rfs] at h
    obtain ⟨v, r, rfl, h1, h2⟩ := h
    simp only [List.lookup_cons] at e ⊢
    split at e
    · cases e
      exact ⟨v, rfl, h1⟩
    · exact rfs_look h2 e
theorem match_ok {mg : Str → Option Value} {sub : Str → Str → Option Bool} {Q : VK} {e : EX} {cls : Value} {dd : Option Addr} {y : Str} (hmg : DLX.mg = mg) (hsub : ∀ a c b, sub a c = some b → ∃ A C, mg a = some A ∧ mg c = some C ∧ PySem.W.exmOne K A C = some b) (r : Rel K H0 α0 H α σ s) (x : ExR K H α e cls dd)
    (q : ∀ H' α', Rel K H0 α0 H' α' σ s → Stay H α H' α' → Q (.str y) H') : ∀ {cl : List (Str × CK)}, dMatch sub s e cl = some y → wCl K mg Q cl cls dd H
  | [], h => by cases h
  | (c, k) :: rest, h => by
    unfold dMatch at h
    cases eb : sub e.cls c with
    | none => rw [eb] at h; cases h
    | some b =>
      obtain ⟨A, C, h1, h2, h3⟩ := hsub _ _ _ eb
      obtain ⟨x1, x2⟩ := x
      rw [hmg, h1] at x1
      cases x1
      refine ⟨C, b, h2, h3, fun hb => ?_, fun hb => ?_⟩
      · subst hb
        rw [eb] at h
        cases k with
        | cst t =>
          cases h
          exact q H α r (Stay.refl _ _)
        | rep t f =>
          unfold dCK at h
          simp only at h
          split at h
          · rename_i hc
            rw [hc, h2] at h1
            cases h1
            simp only [Option.bind_eq_some_iff] at h
            obtain ⟨fs, e1, d, e2, z, e3, e4⟩ := h
            split at e4
            · rename_i hl
              cases e4
              obtain ⟨a, vs, rfl, k1, k2⟩ := x2 fs e1
              obtain ⟨v, k3, k4⟩ := rfs_look k2 e2
              refine ⟨rfl, a, vs, v, rfl, k1, k3, H0, σ, α0, α, s, [d], .str z, r, .cons k4.x .nil, ?_, fun u H' α' r' t' rx => ⟨z, ?_, by rw [sizeLine_eq]; exact hl, q H' α' r' t'⟩⟩
              · simp only [gRepr, e3, Option.map_some]
              · simpa only [Rx, Rv] using rx
            · cases e4
          · cases h
      · subst hb
        rw [eb] at h
        exact match_ok hmg hsub r ⟨by rw [hmg]; exact h1, x2⟩ q h
end
section
variable {X : Cx}
/-- THE RULE: x tells what a lambda's call comes to -/
theorem pd_met {x a fine : Str} {g c P : Addr} {k T : Nat} {sub : Str → Str → Option Bool} {cl : List (Str × CK)} {pg : Arguments} {bg : List Stmt} {sg : Scope} {dV kV doc pm cdv ct oc : Value} {an od : Option Addr} {osl : Array (Option Value)} {Ng : List Str}
    {params : Arguments} {body : Expr} {scope : Scope} {fb : FE} {p lpos pos : Pos} (hg : Gl X x) (hm : X.mg x = some (.ref g)) (hk : PySem.W.keepIn X.K (.ref g) = true)
    (lk : X.K.lookup g = some ⟨oc, od, .func (PySem.W.fnOf x x pg bg sg dV kV doc pm an cdv ct), osl⟩) (hcg : PySem.W.codeIn X.K cdv x = true) (hb : L2.Binds X.K (PySem.W.fnOf x x pg bg sg dV kV doc pm an cdv ct) [a] []) (Sg : FnScope Ng [a] sg) (hNg : Ng[0]? = some a) (hva : Vis sg a)
    (hG : LamX.GivesTo X Ng x sg g cdv bg a (X.env.qual ++ "<lambda>") (TTmet X.K X.mg cl fine)) (hmg : DLX.mg = X.mg) (hT : DLX.T.length = T) (hsub : ∀ a c b, sub a c = some b → ∃ A C, X.mg a = some A ∧ X.mg c = some C ∧ PySem.W.exmOne X.K A C = some b)
    (TB : LamX.TabB X.base X.mg c P) (hcode : X.env.code = .ref c) (hmT : (P, X.env.qual ++ "<lambda>") ∈ DLX.T) (hr : Room (k + 2) X.A) (hgu : X.A.guards = some []) (L : LamX.LamS X.env.scope scope) (hdef : defaultsOf params X.env = ([], []))
    (hbind : ∀ (q : Str) (cl : List (Str × Addr)) (pm cv ctv : Value), bindArgs (PySem.W.kla_fn "<lambda>" q params body scope cl pm cv ctv) ⟨[], []⟩ = pure [])
    (hbody : ∀ (A : Around) (outer : List Env) (s : Shared) (H : Hp) (E : XK) (f c' : Addr), Room k (A.deeper (LamX.lamEnv X scope s.heap.objs.size f c')) → A.guards = some [] → PED (LamX.lamCx X A outer s H E scope f c') body fb)
    (hdb : (x == ("__debug__" : Str)) = false := by decide) (hd : (a == ("__debug__" : Str)) = false := by decide) (hcd : (a == ("__classdict__" : Str)) = false := by decide) :
    PED X (.Call (.Name x p) [.Lambda params body scope lpos] [] pos) (dMet T sub cl fine fb) := by
  refine ⟨fun W tk => ⟨_, pe_lamcallD (t := fun E σ H Q => ∃ H0 α0 α s, Rel X.K H0 α0 H α σ s ∧ PostE X.K H0 α0 σ (fun cls d _ H' => E cls d H') H α Q (fb s)) hg hm hk lk hcg hb Sg hNg hva hG TB hcode hmT hr hgu L hdef hbind (fun A outer s H E f c' hr' hg' => ?_) hdb hd hcd, fun H0 α0 σ H α s Q r q => ?_⟩⟩
  · have tk' : Takes (LamX.lamCx X A outer s H E scope f c') (fun cls d _ H' => E cls d H') := takes_of (E := E) (E₁ := fun e' s'' => L2.CX X.prog X.w outer H s E e' s'') rfl rfl rfl rfl
    obtain ⟨t, pt, qt⟩ := (hbody A outer s H E f c' hr' hg').run _ tk'
    exact ⟨fun pins s' σ' H' Q' I ⟨H0, α0, α, st, rl, q⟩ => pt.run pins s' σ' H' Q' I (qt H0 α0 σ' H' α st Q' rl q)⟩
  · unfold dMet at q
    split at q
    · rename_i ht
      refine ⟨H0, α0, α, s, r, by rw [hT]; exact ht, fun H1 sc rc => ?_⟩
      have r1 := r.hide sc rc
      refine ⟨H1, α, α, hide s, r1, ?_⟩
      cases ef : fb (hide s) with
      | bad => rw [ef] at q; exact q.elim
      | ok d s2 =>
        rw [ef] at q
        intro v H' α' r' t' rx
        exact q (.str fine) H' α' (r.after (sc.trans r'.stayC) r'.cells) (sc.st.trans t') ox_str
      | exc e s2 =>
        rw [ef] at q
        intro cls dd H' α' r' x
        dsimp only at q
        cases em : dMatch sub s2 e cl with
        | none => rw [em] at q; exact q.elim
        | some y =>
          rw [em] at q
          exact match_ok hmg hsub r' x (fun H'' α'' r'' t'' => q (.str y) H'' α'' (r.after (sc.trans r''.stayC) r''.cells) (sc.st.trans r''.st) ox_str) em
    · exact q.elim
end
end DL

namespace DL
open PySem PySem.Spec PyProof.Rows L2
/-! ### 52. the law's end where lambdas are made -/
def tabs0 (n : Nat) : List Cell := (List.range n).map .tab
section
variable [DLX]
/-- as end_core, with the tables of the makers, empty as yet -/
theorem end_coreT {P : Program} {w : World} {K : PySem.W.Frag} {mg mb : Str → Option Value} {k : Nat} {fa a : Addr} {nm : Str} {FL : FF} {s₁ : Shared} {vs : List Value} {ns : List Int} {μ : List Cell} {cs : List (Addr × Addr)} (KX : K.In s₁.heap) (hns : s₁.heap.Ns mainGlobals mg) (hb : s₁.heap.Ns builtinsNs mb)
    (hbb : ∀ x : Str, x ≠ "__name__" → mb x = bootBuiltins x) (hlim : s₁.heap.NoLimit) (hg : s₁.gens = #[]) (ha : s₁.heap.get? a = some { cls := .type "list", data := .seq vs.toArray }) (hr : Room k callerA) (hfa : mg nm = some (.ref fa))
    (hT : ∀ p ∈ cs, s₁.heap.get? p.2 = some { cls := .none, data := .fields #[] }) (nT : ∀ p ∈ cs, K.lookup p.2 = none) (C : ∀ p ∈ cs, PySem.W.CodeHd s₁.heap p.1 p.2) (hnd : (cs.map (·.2)).Nodup) (eT : DLX.T.map (·.1) = cs.map (·.2))
    (hbm : ∃ (bm : Addr) (ob : Obj), mg "__builtins__" = some (.ref bm) ∧ bm ≠ builtinsNs ∧ s₁.heap.get? bm = some ob ∧ ob.cls = .type "module" ∧ ob.dict = some builtinsNs ∧ ob.data = .plain)
    (F : ∀ base : Heap, K.In base → base.Ns mainGlobals mg → (∀ p ∈ cs, LamX.TabB base mg p.1 p.2) → FnD P w K mg base nm k 1 FL) (hF : FL [.lst (ns.map .int)] (tabs0 cs.length) = .ok (.bl true) μ)
    (H : Hp) (hO : ∀ b u, H b = some u → (b = a ∧ ∃ xs, u = .frz { cls := .type "list", data := .seq vs.toArray } (.lst xs)) ∨ (b ∈ cs.map (·.2) ∧ u = .tbl #[])) (hH : ∀ p ∈ cs, H p.2 = some (.tbl #[])) (hS : SqF K H a (ns.map V.int)) (hok : HOk P w H s₁.heap) (hK : H a ≠ none → K.lookup a = none) :
    codeAny (model P w) callerA (.call (.ref fa) ⟨[.ref a], []⟩) (fun r s' => r = .ok (.ret (.bool true)) ∧ OldK s₁.heap s'.heap ∧ s'.os = s₁.os ∧ AllBare s'.gens) s₁ := by
  have off : ∀ {b : Addr} {o : Obj}, s₁.heap.get? b = some o → (∀ xs n, o.data ≠ .seq xs n) → o.data ≠ .fields #[] → H b = none := fun {b o} e h1 h2 => by
    cases q : H b with
    | none => rfl
    | some u =>
      rcases hO b u q with ⟨rfl, _⟩ | ⟨hm, _⟩
      · rw [ha] at e
        cases e
        exact (h1 _ _ rfl).elim
      · obtain ⟨p, hp, rfl⟩ := List.mem_map.mp hm
        rw [hT p hp] at e
        cases e
        exact (h2 rfl).elim
  have dct : ∀ {b : Addr} {m : Str → Option Value}, s₁.heap.Ns b m → (hidT s₁.heap H).Ns b m := fun {b m} ⟨o, es, ep, e, d, r⟩ =>
    ⟨o, es, ep, hidT_get e (off e (fun xs n z => by rw [d] at z; cases z) (fun z => by rw [d] at z; cases z)), d, r⟩
  have kin : K.In (hidT s₁.heap H) := fun b o e => hidT_get (KX b o e) <| by
    cases q : H b with
    | none => rfl
    | some u =>
      rcases hO b u q with ⟨rfl, _⟩ | ⟨hm, _⟩
      · rw [hK (by rw [q]; exact fun z => nomatch z)] at e
        cases e
      · obtain ⟨p, hp, rfl⟩ := List.mem_map.mp hm
        rw [nT p hp] at e
        cases e
  have TB : ∀ p ∈ cs, LamX.TabB (hidT s₁.heap H) mg p.1 p.2 := fun p hp => by
    obtain ⟨og, es, ep, eg, dg, _⟩ := hns
    refine ⟨?_, ?_, fun z => ?_⟩
    · obtain ⟨o, us, file, tf, flags, tg, inF, text, tt, e1, r1, r2, r3, r⟩ := C p hp
      refine ⟨o, us, file, tf, flags, tg, inF, text, tt, hidT_get e1 (off e1 (fun xs n z => ?_) fun z => ?_), r1, r2, r3, r⟩ <;> rw [r2] at z <;> cases z
      simp at r3
    · obtain ⟨bm, ob, b1, b2, b3, b4, b5, b6⟩ := hbm
      refine ⟨bm, ob, b1, b2, fun q => ?_, fun q => ?_, hidT_get b3 (off b3 (fun xs n z => ?_) fun z => ?_), b4, b5, b6⟩
      · rw [q, eg] at b3
        cases b3
        rw [dg] at b6
        cases b6
      · rw [q, hT p hp] at b3
        cases b3
        cases b6
      all_goals
        rw [b6] at z
        cases z
    · rw [z, hT p hp] at eg
      cases eg
      cases dg
  obtain ⟨mc, l1, l2⟩ := hlim
  have e0 : Env0 P w K mg (hidT s₁.heap H) callerA [] s₁ H := ⟨rfl, ⟨kin, dct hns, ⟨mb, dct hb, hbb⟩, mc, dct l1, l2⟩, fun b o e => of_hidT e, Nat.le_of_eq (hidT_size _ _), trivial, fun b z => (nomatch z), hok, .of_eq hg⟩
  obtain ⟨f, fd, ps, h1, h2, h3, h4⟩ := (F _ kin (dct hns) TB).ex
  cases hfa.symm.trans h1
  have lenT : DLX.T.length = cs.length := by simpa using congrArg List.length eT
  have rc : RelC K H (cs.map (·.2)) (tabs0 cs.length) := by
    refine ⟨by simp [tabs0], hnd, fun n b c e1 e2 => ?_⟩
    have hn : n < cs.length := by simpa using (List.getElem?_eq_some_iff.mp e1).1
    have e3 : c = .tab n := by
      unfold tabs0 at e2
      rw [List.getElem?_map, List.getElem?_range hn] at e2
      exact (Option.some.inj e2).symm
    subst e3
    have e4 : (DLX.T.map (·.1))[n]? = some b := by rw [eT]; exact e1
    rw [List.getElem?_map, Option.map_eq_some_iff] at e4
    obtain ⟨pq, e5, rfl⟩ := e4
    obtain ⟨p, hp, ep⟩ := List.mem_map.mp (List.mem_of_getElem? e1)
    exact ⟨pq.2, e5, LamX.TabS.nil (by rw [← ep]; exact hH p hp)⟩
  have hsp : spD K 1 FL [V.ref a] H (fun v _ => v = .bl true) (fun _ _ _ => False) := by
    refine ⟨rfl, _, [.lst (ns.map .int)], _, rc, .single ?_, ?_⟩
    · simp only [Rv]
      exact ⟨a, _, rfl, hS, rvs_map_int ns⟩
    · rw [hF]
      intro v H' α' _ _ rv
      simpa only [Rv] using rv
  have hlen : ([Value.ref a] ++ ([] : List Value)).length = ps.length := h3.len _ _ _ _ hsp
  refine codeAny_mono (h3.run callerA [] s₁ H ⟨[.ref a], []⟩ [.ref a] [.ref a] _ _ hr rfl e0 (h4 s₁ [.ref a] KX hlen) (.cons rfl .nil) hsp) fun r s' h => ?_
  cases r with
  | error e =>
    obtain ⟨_, _, _, _, _, _, _, _, _, _, _, _, z⟩ := h
    exact z.elim
  | ok fl =>
    cases fl with
    | next => exact False.elim h
    | brk => exact False.elim h
    | cont => exact False.elim h
    | ret u =>
      obtain ⟨v, H', os, bare, un, hok', r', q⟩ := h
      cases (show v = .bl true from q)
      cases (show u = Value.bool true from r')
      refine ⟨rfl, ⟨fun b o e => ?_, fun b o e => ?_⟩, os, bare⟩
      all_goals
        cases q : H b with
        | none =>
          have := un.keep b o e q (fun z => nomatch z) (fun z => nomatch z)
          first
            | exact .inl this
            | exact ⟨_, this⟩
        | some u =>
          rcases hO b u q with ⟨rfl, xs, rfl⟩ | ⟨hm, rfl⟩
          · obtain ⟨e1, _⟩ := hok b _ q
            obtain ⟨e2, _⟩ := hok' b _ (un.frzs b _ _ q)
            rw [e] at e1
            cases e1
            first
              | exact .inl e2
              | exact ⟨_, e2⟩
          · obtain ⟨p, hp, rfl⟩ := List.mem_map.mp hm
            obtain ⟨more, z⟩ := un.tbls p.2 #[] q
            have hm := hok' p.2 _ z
            first
              | (rw [hT p hp] at e
                 cases e
                 exact .inr (.inl ⟨((C p hp).tab (hT p hp)).isCodeTable, rfl, #[], more, rfl, hm.trans (by rw [Array.empty_append])⟩))
              | exact ⟨_, hm⟩
end
/-- the goal that k_head leaves where lambdas are made (case hc) -/
theorem walkGT {l : PySem.W.OpenLaw} {n k : Nat} {q : Program} {loose : List Str} {XP : (Str → Option Value) → Heap → Prop} {YP : World → Heap → Prop} {d : DefRec} {K : Params → PySem.W.Frag} {FL : FF} (cs : List (Addr × Addr)) (qs : List Str) (hn : l.most = some n) (hn2 : n ≤ sizeLine) (hdf : d.params.defaults = []) (hr : Room k callerA)
    (hY : ∀ (w : World) (h : Heap), YP w h → (K w.params).In h) (hT : ∀ (w : World) (h : Heap), YP w h → ∀ p ∈ cs, h.get? p.2 = some { cls := .none, data := .fields #[] }) (nT : ∀ (w : World), ∀ p ∈ cs, (K w.params).lookup p.2 = none) (C : ∀ (w : World), ∀ p ∈ cs, PySem.W.codeHdIn (K w.params) p.1 p.2 = true)
    (hnd : (cs.map (·.2)).Nodup) (hq : qs.length = cs.length)
    (F : ∀ (w : World) (mg : Str → Option Value) (fa : Addr) (h : Heap), (K w.params).In h → h.Ns mainGlobals mg → mg d.name = some (.ref fa) → ∀ base : Heap, (K w.params).In base → base.Ns mainGlobals mg → (∀ p ∈ cs, LamX.TabB base mg p.1 p.2) → @FnD ⟨(cs.map (·.2)).zip qs, mg⟩ l.prog w (K w.params) mg base d.name k 1 FL)
    (hL : ∀ ns : List Int, ns.length ≤ n → ∃ μ, FL [.lst (ns.map .int)] (tabs0 cs.length) = .ok (.bl true) μ) : PySem.W.WalkO q loose XP YP l.row.toRowW d [] (fun f vs => PySem.call f vs) := by
  refine Att.attach_call hn hdf fun w s₀ s₁ mg mb fa o pm cd doc a vs ns G Y ho hd hcd hmg hobj hints hlen hg => ?_
  have KX := hY w _ Y
  have rv := vals_ints hints
  have lenV := hints.length
  have hl : ns.length ≤ sizeLine := Nat.le_trans hlen hn2
  obtain ⟨μ, hF⟩ := hL ns hlen
  have tT := hT w _ Y
  have isT : ∀ b, b ∈ cs.map (·.2) → s₁.heap.get? b = some { cls := .none, data := .fields #[] } := fun b hb => by
    obtain ⟨p, hp, rfl⟩ := List.mem_map.mp hb
    exact tT p hp
  have aT : a ∉ cs.map (·.2) := fun z => by
    have q := isT a z
    rw [hobj] at q
    cases (show Data.seq vs.toArray _ = Data.fields #[] from congrArg Obj.data (Option.some.inj q))
  have memT : ∀ p ∈ cs, p.2 ∈ cs.map (·.2) := fun p hp => List.mem_map.mpr ⟨p, hp, rfl⟩
  have fin := @end_coreT ⟨(cs.map (·.2)).zip qs, mg⟩ _ _ _ _ _ _ _ _ _ _ _ _ _ _ _ KX G.T.g G.T.b G.T.builtins G.T.nolimit hg hobj hr hmg tT (nT w) (fun p hp => PySem.W.codeHd_of_K KX (C w p hp)) hnd (by
    show ((cs.map (·.2)).zip qs).map (·.1) = _
    rw [List.map_fst_zip (by rw [hq, List.length_map]; exact Nat.le_refl _)]) G.T.bmain (F w mg fa _ KX G.T.g hmg) hF
  have tb : ∀ {b : Addr} {u : HO}, (if b ∈ cs.map (·.2) then some (HO.tbl #[]) else none) = some u → b ∈ cs.map (·.2) ∧ u = .tbl #[] := fun {b u} z => by
    split at z
    · rename_i hb
      cases z
      exact ⟨hb, rfl⟩
    · cases z
  cases hk : (K w.params).lookup a with
  | some o' =>
    have e := KX a o' hk
    rw [hobj] at e
    cases e
    refine fin (fun b => if b ∈ cs.map (·.2) then some (.tbl #[]) else none) (fun b u z => .inr (tb z)) (fun p hp => if_pos (memT p hp)) (.inr ⟨_, vs.toArray, _, hk, rfl, rfl, rfl, by rw [List.size_toArray, lenV]; exact hl, by simpa using rv⟩) (fun b u z => ?_) fun z => absurd (if_neg aT) z
    obtain ⟨hb, rfl⟩ := tb z
    exact isT b hb
  | none =>
    refine fin (upd (fun b => if b ∈ cs.map (·.2) then some (.tbl #[]) else none) a (.frz { cls := .type "list", data := .seq vs.toArray } (.lst (ns.map V.int)))) (fun b u z => ?_) (fun p hp => ?_) (.inl ⟨_, upd_same⟩) (fun b u z => ?_) fun _ => hk
    · by_cases hb : b = a
      · subst hb
        rw [upd_same] at z
        cases z
        exact .inl ⟨rfl, _, rfl⟩
      · rw [upd_ne hb] at z
        exact .inr (tb z)
    · rw [upd_ne (fun z => aT (by rw [← z]; exact memT p hp)), if_pos (memT p hp)]
    · by_cases hb : b = a
      · subst hb
        rw [upd_same] at z
        cases z
        exact ⟨hobj, by rw [List.length_map]; exact hl, vs, _, rv, hobj⟩
      · rw [upd_ne hb] at z
        obtain ⟨hb, rfl⟩ := tb z
        exact isT b hb
end DL

namespace DL
open PySem PySem.Spec PyProof.Rows L2
/-! ### 53. what a law's head hands to its walks of errors and thunks -/
/-- a class that is raised with a text, without an __init__ of its own -/
structure ErT (K : PySem.W.Frag) (mg : Str → Option Value) (n : Str) : Prop where
  ex : ∃ (C : Addr) (B newId i : String) (bmB : List Value), ExcBaseFacts B newId i bmB ∧ PySem.W.excIn K C bmB newId = true ∧ mg n = some (.ref C) ∧ PySem.W.keepIn K (.ref C) = true ∧ PySem.W.subIn K (.ref C) (.type "BaseException") = some true ∧ PySem.W.typeIn K (.ref C) = some (.type "type")
/-- a class whose __init__ says super().__init__(f'..') and keeps its argument as f -/
structure ErS (P : Program) (K : PySem.W.Frag) (mg : Str → Option Value) (n f : Str) (g : Str → Str) : Prop where
  ex : ∃ (C : Addr) (x : Str) (js : Expr) (B newId i : String) (bmB : List Value) (fI cc cda : Addr) (qual : Str) (params : Arguments) (scope : Scope) (p0 p1 p2 p3 p4 p5 p6 p7 p8 : Pos) (dV kV doc pm ct oc : Value) (an od : Option Addr) (osl : Array (Option Value)) (ccl cl : Value) (cdd cld : Option Addr) (ccs csl : Array (Option Value)) (vs : Array Value) (file : Str) (tf : Tok) (cdD : ClassData),
    SupC K mg P.main.file C f x g js B newId i bmB fI cc cda qual params scope p0 p1 p2 p3 p4 p5 p6 p7 p8 dV kV doc pm ct oc an od osl ccl cl cdd cld ccs csl vs file tf cdD ∧ mg n = some (.ref C)
  top : (P.main.scope.names.lookup ("super" : Str)).isSome = false
/-- which of the classes are subclasses of which -/
def SubOk (K : PySem.W.Frag) (mg : Str → Option Value) (sub : Str → Str → Option Bool) : Prop := ∀ a c b, sub a c = some b → ∃ A C, mg a = some A ∧ mg c = some C ∧ PySem.W.exmOne K A C = some b
/-- a table of subclasses: names in a row, for each the ones of the row of which it is one -/
def subOf (l : List (Str × List (Str × Bool))) : Str → Str → Option Bool := fun a c => (l.lookup a).bind fun r => r.lookup c
theorem lookup_mem {α : Type} {l : List (Str × α)} {a : Str} {x : α} (h : l.lookup a = some x) : (a, x) ∈ l := by
  induction l with
  | nil => cases h
  | cons p l ih =>
    obtain ⟨k, y⟩ := p
    simp only [List.lookup_cons] at h
    split at h
    · rename_i e
      cases h
      rw [beq_iff_eq.mp e]
      exact List.mem_cons_self
    · exact List.mem_cons_of_mem _ (ih h)
theorem subOk_of {K : PySem.W.Frag} {mg : Str → Option Value} {l : List (Str × List (Str × Bool))} (h : ∀ p ∈ l, ∀ r ∈ p.2, ∃ A C, mg p.1 = some A ∧ mg r.1 = some C ∧ PySem.W.exmOne K A C = some r.2) : SubOk K mg (subOf l) := fun a c b e => by
  unfold subOf at e
  rw [Option.bind_eq_some_iff] at e
  obtain ⟨r, e1, e2⟩ := e
  exact h _ (lookup_mem e1) _ (lookup_mem e2)
/-- the classes' facts that an except clause with a name asks -/
structure ErX (K : PySem.W.Frag) (mg : Str → Option Value) (n f : Str) : Prop where
  ex : ∃ C, mg n = some (.ref C) ∧ XfC K C ∧ PySem.W.findIn K (.ref C) f = some none
variable [DLX]
/-- the def x: try: a() / except ..: return ..; behind it return fine -/
structure MetD (P : Program) (w : World) (K : PySem.W.Frag) (mg : Str → Option Value) (base : Heap) (x a fine : Str) (cl : List (Str × CK)) : Prop where
  ex : ∃ (g : Addr) (st : Stmt) (Ng : List Str) (oc : Value) (od : Option Addr) (kV doc pm : Value) (an : Option Addr) (cdv ct : Value) (osl : Array (Option Value)), mg x = some (.ref g) ∧ PySem.W.keepIn K (.ref g) = true ∧
    K.lookup g = some ⟨oc, od, .func (PySem.W.fnOf x x (defArgs st) (defBody st) (defScope st) .none kV doc pm an cdv ct), osl⟩ ∧ PySem.W.codeIn K cdv x = true ∧ L2.Binds K (PySem.W.fnOf x x (defArgs st) (defBody st) (defScope st) .none kV doc pm an cdv ct) [a] [] ∧
    FnScope Ng [a] (defScope st) ∧ Ng[0]? = some a ∧ Vis (defScope st) a ∧
    ∀ (X : Cx) (q : Str), X.prog = P → X.w = w → X.K = K → X.mg = mg → X.base = base → X.A.guards = some [] → Room 1 X.A → LamX.GivesTo X Ng x (defScope st) g cdv (defBody st) a q (TTmet K mg cl fine)
theorem metD_of {P : Program} {w : World} {K : PySem.W.Frag} {mg : Str → Option Value} {base : Heap} {x a fine : Str} {cl : List (Str × CK)} {Ng : List Str} {st : Stmt} {g : Addr} {fd : FuncData} (F : Fun K x x st g fd) (hm : mg x = some (.ref g)) (hb : L2.Binds K fd [a] []) (S : FnScope Ng [a] (defScope st)) (hNg : Ng[0]? = some a) (hva : Vis (defScope st) a)
    (hG : ∀ (X : Cx) (q : Str) (cdv : Value), X.prog = P → X.w = w → X.K = K → X.mg = mg → X.base = base → X.A.guards = some [] → Room 1 X.A → LamX.GivesTo X Ng x (defScope st) g cdv (defBody st) a q (TTmet K mg cl fine)) : MetD P w K mg base x a fine cl := by
  obtain ⟨oc, od, kV, doc, pm, an, cdv, ct, osl, rfl, lk, hcd⟩ := F.ex
  exact ⟨g, st, Ng, oc, od, kV, doc, pm, an, cdv, ct, osl, hm, F.kp, lk, hcd, hb, S, hNg, hva, fun X q e1 e2 e3 e4 e5 e6 e7 => hG X q cdv e1 e2 e3 e4 e5 e6 e7⟩
section
variable {X : Cx}
theorem sd_erT {n m : Str} {j : Nat} {p p2 pos pos' : Pos} (h : ErT X.K X.mg n) (hmg : DLX.mg = X.mg) (hc : X.calm = true := by rfl) (hg : Gl X n := by rfl) (hdb : (n == ("__debug__" : Str)) = false := by decide) : PSD X (.Raise (some (.Call (.Name n p) [.Constant (.str m) j p2] [] pos)) none pos') (dRaiseT n) := by
  obtain ⟨C, B, newId, i, bmB, h1, h2, h3, h4, h5, h6⟩ := h.ex
  exact sd_raiseT hc h1 h2 h3 (congrFun hmg n) h4 (raises_own h5 h6) hg hdb
theorem sd_erS {n f : Str} {g : Str → Str} {p pos pos' : Pos} {e : Expr} {fa : FE} (h : ErS X.prog X.K X.mg n f g) (hmg : DLX.mg = X.mg) (hr : Room 4 X.A) (hgu : X.A.guards = some []) (ha : PED X e fa) (hc : X.calm = true := by rfl) (hg : Gl X n := by rfl) (hdb : (n == ("__debug__" : Str)) = false := by decide)
    (he : starEach [e] X.env = (false, eval e X.env) :: starEach [] X.env := by rfl) : PSD X (.Raise (some (.Call (.Name n p) [e] [] pos)) none pos') (dRaiseS n f g fa) := by
  obtain ⟨C, x, js, B, newId, i, bmB, fI, cc, cda, qual, params, scope, p0, p1, p2, p3, p4, p5, p6, p7, p8, dV, kV, doc, pm, ct, oc, an, od, osl, ccl, cl, cdd, cld, ccs, csl, vs, file, tf, cdD, T, hm⟩ := h.ex
  exact sd_raiseS hc T h.top hr hgu hg hm (congrFun hmg n) ha hdb he
theorem pd_metD {x a fine : Str} {c P : Addr} {k T : Nat} {sub : Str → Str → Option Bool} {cl : List (Str × CK)} {params : Arguments} {body : Expr} {scope : Scope} {fb : FE} {p lpos pos : Pos} (h : MetD X.prog X.w X.K X.mg X.base x a fine cl) (hmg : DLX.mg = X.mg) (hT : DLX.T.length = T) (hsub : SubOk X.K X.mg sub)
    (TB : LamX.TabB X.base X.mg c P) (hmT : (P, X.env.qual ++ "<lambda>") ∈ DLX.T) (hcode : X.env.code = .ref c) (hr : Room (k + 2) X.A) (hgu : X.A.guards = some []) (L : LamX.LamS X.env.scope scope) (hdef : defaultsOf params X.env = ([], []))
    (hbind : ∀ (q : Str) (cl : List (Str × Addr)) (pm cv ctv : Value), bindArgs (PySem.W.kla_fn "<lambda>" q params body scope cl pm cv ctv) ⟨[], []⟩ = pure []) (hg : Gl X x)
    (hbody : ∀ (A : Around) (outer : List Env) (s : Shared) (H : Hp) (E : XK) (f c' : Addr), Room k (A.deeper (LamX.lamEnv X scope s.heap.objs.size f c')) → A.guards = some [] → PED (LamX.lamCx X A outer s H E scope f c') body fb)
    (hdb : (x == ("__debug__" : Str)) = false := by decide) (hd : (a == ("__debug__" : Str)) = false := by decide) (hcd : (a == ("__classdict__" : Str)) = false := by decide) :
    PED X (.Call (.Name x p) [.Lambda params body scope lpos] [] pos) (dMet T sub cl fine fb) := by
  obtain ⟨g, st, Ng, oc, od, kV, doc, pm, an, cdv, ct, osl, hm, hk, lk, hcg, hb, S, hNg, hva, hG⟩ := h.ex
  exact pd_met hg hm hk lk hcg hb S hNg hva (hG X _ rfl rfl rfl rfl rfl hgu (hr.mono (by omega))) hmg hT hsub TB hcode hmT hr hgu L hdef hbind hbody hdb hd hcd
/-! ### 54. functions as values -/
theorem pd_fn {x : Str} {a : Addr} {pos : Pos} (hm : X.mg x = some (.ref a)) (hmg : DLX.mg = X.mg) (hg : Gl X x := by rfl) (hd : (x == ("__debug__" : Str)) = false := by decide) : PED X (.Name x pos) (dC (.fn x)) :=
  pd_c (pe_glob (v := .ref a) hg hm rfl hd) fun _ _ => by
    simp only [Rv]
    exact ⟨a, (congrFun hmg x).trans hm, rfl⟩
theorem FnD.fn {P : Program} {w : World} {K : PySem.W.Frag} {mg : Str → Option Value} {base : Heap} {x : Str} {k n : Nat} {F : FF} (h : FnD P w K mg base x k n F) : ∃ a, mg x = some (.ref a) := by
  obtain ⟨a, _, _, h1, _⟩ := h.ex
  exact ⟨a, h1⟩
/-- a call of what slot i holds: one of some defs -/
def dCallV (i : Nat) (Fs : List (Str × FF)) (fa : FA) : FE := fun s => match s.δ[i]? with
  | some (.val (.fn x)) => (match Fs.lookup x with
    | some F => dCall F fa s
    | none => .bad)
  | _ => .bad
def tCallV (P : Program) (w : World) (K : PySem.W.Frag) (mg : Str → Option Value) (base : Heap) (k i : Nat) (W : Sg → XK) (t : TA) : TE := fun σ H Q => ∃ (f : Addr) (fd : FuncData) (ps : List Str) (sp : Sp), σ[i]? = some (some (.ref f)) ∧ FnG P w K mg base k f fd ps sp ∧ PySem.W.keepIn K (.ref f) = true ∧ Binds K fd ps [] ∧ tCallS sp W t σ H Q
theorem pe_callV {k i : Nat} {a : Str} {p pos : Pos} {e : Expr} {es : List Expr} {t : TA} {E : Sg → XK} (hr : Room k X.A) (hgu : X.A.guards = some []) (hv : PE X (.Name a p) (tVar i)) (hx : ∀ σ, PassesAt (L2.CX X.prog X.w) X σ (E σ)) (ha : PA X (e :: es) t)
    (he : starEach (e :: es) X.env = (false, eval e X.env) :: starEach es X.env := by rfl) (hpl : (backTo pos (starEach es X.env)).any (·.1) = false := by rfl) : PE X (.Call (.Name a p) (e :: es) [] pos) (tCallV X.prog X.w X.K X.mg X.base k i E t) := by
  constructor
  rintro pins s σ H Q I ⟨f, fd, ps, sp, h1, F, hk, hb, h⟩
  refine wpAny_Call_Name_kw (thn (hv.run pins s σ H (fun v H1 => v = .ref f ∧ H1 = H) I ⟨.ref f, h1, rfl, rfl⟩) ?_)
  rintro u s1 ⟨v, H1, I1, r1, rfl, rfl⟩
  obtain rfl : u = Value.ref f := r1
  refine PySem.W.callWith_K (h₀ := X.base) I.ok.mod.kin hk (thn (ha.run pos pins s1 σ H1 _ I1 h) ?_) he hpl
  rintro us s2 ⟨vs, H2, I2, r, q⟩
  exact ⟨I2.kIn, run_fnG F hr hgu hb (hx σ) I2 r q⟩
theorem pd_callV {k i n : Nat} {a : Str} {p pos : Pos} {e : Expr} {es : List Expr} {fa : FA} {Fs : List (Str × FF)} (hmg : DLX.mg = X.mg) (hF : ∀ q ∈ Fs, FnD X.prog X.w X.K X.mg X.base q.1 k n q.2) (hr : Room k X.A) (hgu : X.A.guards = some []) (hv : PE X (.Name a p) (tVar i)) (ha : PAD X (e :: es) fa) (hl : PALen (e :: es) fa) (hn : n = (e :: es).length := by rfl)
    (he : starEach (e :: es) X.env = (false, eval e X.env) :: starEach es X.env := by rfl) (hpl : (backTo pos (starEach es X.env)).any (·.1) = false := by rfl) : PED X (.Call (.Name a p) (e :: es) [] pos) (dCallV i Fs fa) := by
  refine ⟨fun W tk => ?_⟩
  obtain ⟨t, pa, qa⟩ := ha.run W tk
  refine ⟨_, pe_callV hr hgu hv (fun σ => passAt tk σ) pa he hpl, fun H0 α0 σ H α s Q r q => ?_⟩
  unfold dCallV at q
  split at q
  · rename_i x hs
    split at q
    · rename_i F hx
      obtain ⟨f, fd, ps, h1, h2, h3, h4⟩ := (hF _ (lookup_mem hx)).ex
      obtain ⟨v, e1, e2⟩ := r.slots.val i _ hs
      simp only [Rv] at e2
      obtain ⟨b, e3, rfl⟩ := e2
      rw [hmg, h1] at e3
      cases e3
      exact ⟨f, fd, ps, _, e1, h3, h2, h4, call_core qa hn hl.len r q⟩
    · exact q.elim
  · exact q.elim
end
end DL

namespace DL
open PySem PySem.Spec PyProof.Rows L2
/-! ### 55. the same from the written part -/
theorem erT_mk {K : PySem.W.Frag} {mg : Str → Option Value} {h : Heap} {n : Str} {C : Addr} {B newId i : String} {bmB : List Value} (X : K.In h) (G : h.Ns mainGlobals mg) (FB : ExcBaseFacts B newId i bmB) (a : PySem.W.nsIn K mainGlobals n = some (some (.ref C))) (q : PySem.W.excIn K C bmB newId = true) (k : PySem.W.keepIn K (.ref C) = true)
    (s : PySem.W.subIn K (.ref C) (.type "BaseException") = some true) (t : PySem.W.typeIn K (.ref C) = some (.type "type")) : ErT K mg n := ⟨C, B, newId, i, bmB, FB, q, PySem.W.mg_of X G a, k, s, t⟩
theorem erX_mk {K : PySem.W.Frag} {mg : Str → Option Value} {h : Heap} {n f : Str} {C : Addr} (X : K.In h) (G : h.Ns mainGlobals mg) (a : PySem.W.nsIn K mainGlobals n = some (some (.ref C))) (x : xfB K C = true) (y : PySem.W.findIn K (.ref C) f = some none) : ErX K mg n f := ⟨C, PySem.W.mg_of X G a, xfB_ok x, y⟩
theorem sub_nil {K : PySem.W.Frag} {mg : Str → Option Value} : ∀ p ∈ ([] : List (Str × List (Str × Bool))), ∀ r ∈ p.2, ∃ A C, mg p.1 = some A ∧ mg r.1 = some C ∧ PySem.W.exmOne K A C = some r.2 := fun _ h => nomatch h
theorem sub_cons {K : PySem.W.Frag} {mg : Str → Option Value} {a : Str} {A : Value} {l : List (Str × Bool)} {L : List (Str × List (Str × Bool))} (ha : mg a = some A) (hl : ∀ r ∈ l, ∃ C, mg r.1 = some C ∧ PySem.W.exmOne K A C = some r.2) (h : ∀ p ∈ L, ∀ r ∈ p.2, ∃ A C, mg p.1 = some A ∧ mg r.1 = some C ∧ PySem.W.exmOne K A C = some r.2) :
    ∀ p ∈ (a, l) :: L, ∀ r ∈ p.2, ∃ A C, mg p.1 = some A ∧ mg r.1 = some C ∧ PySem.W.exmOne K A C = some r.2 := List.forall_mem_cons.mpr ⟨fun r hr => by
    obtain ⟨C, h1, h2⟩ := hl r hr
    exact ⟨A, C, ha, h1, h2⟩, h⟩
theorem subr_nil {K : PySem.W.Frag} {mg : Str → Option Value} {A : Value} : ∀ r ∈ ([] : List (Str × Bool)), ∃ C, mg r.1 = some C ∧ PySem.W.exmOne K A C = some r.2 := fun _ h => nomatch h
theorem subr_cons {K : PySem.W.Frag} {mg : Str → Option Value} {A C : Value} {c : Str} {b : Bool} {l : List (Str × Bool)} (hc : mg c = some C) (e : PySem.W.exmOne K A C = some b) (h : ∀ r ∈ l, ∃ C, mg r.1 = some C ∧ PySem.W.exmOne K A C = some r.2) : ∀ r ∈ (c, b) :: l, ∃ C, mg r.1 = some C ∧ PySem.W.exmOne K A C = some r.2 :=
  List.forall_mem_cons.mpr ⟨⟨C, hc, e⟩, h⟩
open PySem.W in
theorem erS_mk {P : Program} {K : Frag} {mg : Str → Option Value} {h : Heap} {n : Str}  {C : Addr} {f x : Str} {g : Str → Str} {js : Expr} {B newId i : String} {bmB : List Value} {fI cc cda : Addr} {qual : Str} {params : Arguments} {scope : Scope} {p0 p1 p2 p3 p4 p5 p6 p7 p8 : Pos} {dV kV doc pm ct oc : Value} {an od : Option Addr} {osl : Array (Option Value)} {ccl cl : Value} {cdd cld : Option Addr} {ccs csl : Array (Option Value)} {vs : Array Value} {file : Str} {tf : Tok} {cdD : ClassData} (X : K.In h) (G : h.Ns mainGlobals mg) (a : nsIn K mainGlobals n = some (some (.ref C))) (hsup : nsIn K mainGlobals "super" = some none) (htop : (P.main.scope.names.lookup ("super" : Str)).isSome = false)
    (J : JsOk x js g) (FB : ExcBaseFacts B newId i bmB) (KF : KxsFacts B i) (SF : StoreFacts B bmB "object.__setattr__" "object") (hi : findIn K (.ref C) "__init__" = some (some (.ref fI))) (q : excInitIn K C bmB newId = true) (tI : typeIn K (.ref fI) = some (.type "function")) (lk : K.lookup fI = some ⟨oc, od, .func (ksFn "__init__" qual params (supBody js f x p0 p1 p2 p3 p4 p5 p6 p7 p8) scope dV kV doc pm an (.ref cda) ct cc), osl⟩) (hcd : codeIn K (.ref cda) qual = true) (hcode : K.lookup cda = some ⟨ccl, cdd, .fields vs, ccs⟩) (hvs : vs[2]? = some (.str file tf)) (hfile : (P.main.file == file) = true) (hcell : K.lookup cc = some ⟨cl, cld, .cell (some (.ref C)), csl⟩) (hD : clsIn K C = some cdD) (hsub : mroIn K C (.ref C) = some true) (hm : ks_superIn K C C "__init__" = some (some (.builtin i))) (hB : subIn K (.ref C) (.type B) = some true) (hth : nsIn K cStatics "thirdparty.any" = some none) (hsa : findIn K (.ref C) "__setattr__" = some (some (.builtin "object.__setattr__"))) (hov : excOver K C bmB = true) (htk : takerIn K C f = some none) (hhd : hasDictIn K C = true) (hsx : subIn K (.ref C) (.type "BaseException") = some true) (tyC : typeIn K (.ref C) = some (.type "type")) (kC : keepIn K (.ref C) = true) (hp : (params.posonlyargs ++ params.args).head? = some ⟨"self", none, ⟨0, 0, 0, 0⟩⟩ ∨ ∃ ar : Arg, (params.posonlyargs ++ params.args).head? = some ar ∧ ar.arg = "self") (hb : ∀ (s : Shared) (a b : Value), BindsTo s (ksFn "__init__" qual params (supBody js f x p0 p1 p2 p3 p4 p5 p6 p7 p8) scope dV kV doc pm an (.ref cda) ct cc) ⟨[a, b], []⟩ [("self", a), (x, b)]) (hks : scope.names.lookup ("super" : Str) = some .globalImplicit) (hkc : scope.names.lookup ("__class__" : Str) = some .free) (hka : scope.names.lookup ("self" : Str) = some .local) (hkx : scope.names.lookup x = some .local) (hxs : (x == ("self" : Str)) = false) (hxd : (x == ("__debug__" : Str)) = false) (hk : scope.kind = .function) (hco : scope.isCoroutine = false) (hge : scope.isGenerator = false) (hnc : ∀ y ∈ scope.names, y.2 ≠ .cell) (hE : ∀ L' : Addr, ∃ pl : Sem Bool, eval (.Call (.Attribute (.Call (.Name "super" p0) [] [] p1) "__init__" p2) [js] [] p3) (ksEnv qual scope L' fI (.ref cda) cc) = (do
    let ov ← attributeBase (.Call (.Name "super" p0) [] [] p1) "__init__" (ksEnv qual scope L' fI (.ref cda) cc) (eval (.Call (.Name "super" p0) [] [] p1) (ksEnv qual scope L' fI (.ref cda) cc))
    standAt p2.atName
    let (f, first) ← holding [ov] (getMethod ov "__init__" pl)
    callWith p3 f first (backTo p3 (starEach [js] (ksEnv qual scope L' fI (.ref cda) cc))) [])) (hI : ∀ L' : Addr, interactive (ksEnv qual scope L' fI (.ref cda) cc) = false) (hS1 : ∀ L' : Addr, swapsWith (.Call (.Attribute (.Call (.Name "super" p0) [] [] p1) "__init__" p2) [js] [] p3) none p4.line (ksEnv qual scope L' fI (.ref cda) cc) = pure false) (hS2 : ∀ L' : Addr, swapsWith (.Name x p7) (some (.Attribute (.Name "self" p5) f p6)) p8.line (ksEnv qual scope L' fI (.ref cda) cc) = pure false) : ErS P K mg n f g :=
  ⟨⟨C, x, js, B, newId, i, bmB, fI, cc, cda, qual, params, scope, p0, p1, p2, p3, p4, p5, p6, p7, p8, dV, kV, doc, pm, ct, oc, an, od, osl, ccl, cl, cdd, cld, ccs, csl, vs, file, tf, cdD, ⟨J, FB, KF, SF, hi, q, tI, lk, hcd, hcode, hvs, hfile, hcell, hD, hsub, mg_none_of X G hsup, hm, hB, hth, hsa, hov, htk, hhd, hsx, tyC, kC, hp, hb, hks, hkc, hka, hkx, hxs, hxd, hk, hco, hge, hnc, hE, hI, hS1, hS2⟩, mg_of X G a⟩, htop⟩
end DL

namespace K14
open PySem PySem.Spec PyProof.Rows L2 DL
def subL : List (Str × List (Str × Bool)) := [("InvalidCount", [("InvalidCount", true), ("InvalidRow", false), ("InvalidLot", false), ("InvalidOperation", false)]), ("InvalidRow", [("InvalidCount", false), ("InvalidRow", true), ("InvalidLot", false), ("InvalidOperation", false)]), ("InvalidOperation", [("InvalidCount", false), ("InvalidRow", false), ("InvalidLot", false), ("InvalidOperation", true)]), ("InvalidLot", [("InvalidCount", false), ("InvalidRow", false), ("InvalidLot", true), ("InvalidOperation", false)])]
def sub : Str → Str → Option Bool := subOf subL
def b_is_integer : FS := (dRet (dAndV (dB gIsi (dCons (dVar 0) (dCons (dC (.ty "int")) dNil))) (dNotV (dB gIsi (dCons (dVar 0) (dCons (dC (.ty "bool")) dNil))))))
def F_is_integer : FF := runF b_is_integer 1
def b_require_width : FS := (dIfS (dOrT (dNotT (dTruth (dCall F_is_integer (dCons (dVar 0) dNil)))) (dNotT (dChainT gLe gLe (dC (.int (1))) (dVar 0) (dC (.int (60)))))) (dRaiseS "InvalidCount" "given" (fun y => Str.empty ++ y ++ " is given") (dVar 0)) dSkip)
def F_require_width : FF := runF b_require_width 1
def b_lead_in : FS := (dSeq (dForI (dIterEn (dCons (dVar 0) dNil)) (gT (gC (gNm 1) (gC (gNm 2) gN))) (dIfS (dCmpT neS (dVar 2) (dC (.int (0)))) (dRet (dVar 1)) dSkip))
    (dRet (dC .non)))
def F_lead_in : FF := runF b_lead_in 3
def b_common_share (n0 : Nat) : FS := (dSeq (dWhile (dCmpT neS (dVar 1) (dC (.int (0)))) (dPar 0 1 (dCons (dVar 1) (dCons (dOp gMod (dVar 0) (dVar 1)) dNil))) n0)
    (dRet (dB gAbs (dCons (dVar 0) dNil))))
def fu0_common_share (ds : List D) (μ : List Cell) : Nat := match ds with | [_, .int b] => b.natAbs + 1 | _ => 0
def F_common_share : FF := fun ds μ => runF (b_common_share (fu0_common_share ds μ)) 2 ds μ
def b_lowest_row : FS := (dSeq (dAsg 1 (dC (.int (0))))
    (dSeq (dForI (dIter (dVar 0)) (gNm 2) (dAsg 1 (dCall F_common_share (dCons (dVar 1) (dCons (dVar 2) dNil)))))
    (dSeq (dIfS (dCmpT eqS (dVar 1) (dC (.int (0)))) (dRet (dB gTuple (dCons (dVar 0) dNil))) dSkip)
    (dSeq (dIfS (dCmpT gLt (dOp gIx (dVar 0) (dCall F_lead_in (dCons (dVar 0) dNil))) (dC (.int (0)))) (dAsg 1 (dOp gSub (dC (.int (0))) (dVar 1))) dSkip)
    (dRet (dB gTuple (dCons (dFrz (dLc [2] (dIter (dVar 0)) (gNm 2) dYes (dOp gFdiv (dVar 2) (dVar 1)))) dNil)))))))
def F_lowest_row : FF := runF b_lowest_row 3
def b_is_plain_row : FS := (dRet (dAndV (dB gIsi (dCons (dVar 1) (dCons (dC (.ty "tuple")) dNil))) (dAndV (dOp eqS (dB gLen (dCons (dVar 1) dNil)) (dVar 0)) (dB gAll (dCons (dFrz (dLc [2] (dIter (dVar 1)) (gNm 2) dYes (dCall F_is_integer (dCons (dVar 2) dNil)))) dNil)))))
def F_is_plain_row : FF := runF b_is_plain_row 3
def b_require_row : FS := (dIfS (dNotT (dTruth (dCall F_is_plain_row (dCons (dVar 0) (dCons (dVar 1) dNil))))) (dRaiseT "InvalidRow") dSkip)
def F_require_row : FF := runF b_require_row 2
def b_lowest : FS := (dSeq (dDrop (dCall F_require_width (dCons (dVar 0) dNil)))
    (dSeq (dDrop (dCall F_require_row (dCons (dVar 0) (dCons (dVar 1) dNil))))
    (dRet (dCall F_lowest_row (dCons (dVar 1) dNil)))))
def F_lowest : FF := runF b_lowest 2
def b_less_by : FS := (dSeq (dAsg 2 (dCall F_lead_in (dCons (dVar 1) dNil)))
    (dSeq (dIfS (dCmpT eqS (dOp gIx (dVar 0) (dVar 2)) (dC (.int (0)))) (dRet (dVar 0)) dSkip)
    (dRet (dB gTuple (dCons (dFrz (dLc [3, 4] (dIterZp (dCons (dVar 0) (dCons (dVar 1) dNil))) (gT (gC (gNm 3) (gC (gNm 4) gN))) dYes (dOp gSub (dOp gMul (dOp gIx (dVar 1) (dVar 2)) (dVar 3)) (dOp gMul (dOp gIx (dVar 0) (dVar 2)) (dVar 4))))) dNil)))))
def F_less_by : FF := runF b_less_by 5
def b_rest_by : FS := (dSeq (dForI (dIter (dVar 0)) (gNm 2) (dAsg 1 (dCall F_less_by (dCons (dVar 1) (dCons (dVar 2) dNil)))))
    (dRet (dVar 1)))
def F_rest_by : FF := runF b_rest_by 3
def b_with_row : FS := (dSeq (dAsg 2 (dCall F_lowest_row (dCons (dCall F_rest_by (dCons (dVar 0) (dCons (dVar 1) dNil))) dNil)))
    (dSeq (dIfS (dCmpT isN (dCall F_lead_in (dCons (dVar 2) dNil)) (dC .non)) (dRet (dVar 0)) dSkip)
    (dSeq (dAsg 3 (dOp gAdd (dFrz (dLc [4] (dIter (dVar 0)) (gNm 4) dYes (dCall F_lowest_row (dCons (dCall F_less_by (dCons (dVar 4) (dCons (dVar 2) dNil))) dNil)))) (dFrz (dLst (dCons (dVar 2) dNil)))))
    (dRet (dB gTuple (dCons (dFrz (dSortKey F_lead_in (dVar 3))) dNil))))))
def F_with_row : FF := runF b_with_row 5
def b_lot_in : FS := (dSeq (dAsg 1 (dTup dNil))
    (dSeq (dForI (dIter (dVar 0)) (gNm 2) (dAsg 1 (dCall F_with_row (dCons (dVar 1) (dCons (dVar 2) dNil)))))
    (dRet (dVar 1))))
def F_lot_in : FF := runF b_lot_in 3
def b_require_rows : FS := (dIfS (dOrT (dNotT (dTruth (dB gIsi (dCons (dVar 1) (dCons (dC (.ty "tuple")) dNil))))) (dNotT (dTruth (dB gAll (dCons (dFrz (dLc [2] (dIter (dVar 1)) (gNm 2) dYes (dCall F_is_plain_row (dCons (dVar 0) (dCons (dVar 2) dNil))))) dNil))))) (dRaiseT "InvalidRow") dSkip)
def F_require_rows : FF := runF b_require_rows 3
def b_lot_of : FS := (dSeq (dDrop (dCall F_require_width (dCons (dVar 0) dNil)))
    (dSeq (dDrop (dCall F_require_rows (dCons (dVar 0) (dCons (dVar 1) dNil))))
    (dRet (dCall F_lot_in (dCons (dVar 1) dNil)))))
def F_lot_of : FF := runF b_lot_of 2
def b_L_dice : FS := (dSeq (dAsg 2 (dIf (dCmpT gLt (dVar 1) (dB gLen (dCons (dVar 0) dNil))) (dB gInt (dCons (dOp gIx (dVar 0) (dVar 1)) dNil)) (dOp gAdd (dOp gMul (dC (.int (131))) (dVar 1)) (dC (.int (37))))))
    (dSeq (dAsg 3 (dOp gMod (dB gInt (dCons (dB gAbs (dCons (dVar 2) dNil)) dNil)) (dOp gPow (dOp gPow (dC (.int (10))) (dC (.int (53)))) (dC (.int (6))))))
    (dSeq (dAsg 4 (dOp gAdd (dOp gAdd (dOp gAdd (dOp gMul (dOp gMod (dVar 3) (dC (.int (2305843009213693907)))) (dC (.int (73)))) (dOp gMul (dC (.int (619))) (dVar 1))) (dOp gMul (dC (.int (41))) (dB gInt (dCons (dOp gLt (dVar 2) (dC (.int (0)))) dNil)))) (dC (.int (17)))))
    (dRetF (dLst (dCons (dB gMax2 (dCons (dC (.int (0))) (dCons (dOp gSub (dVar 3) (dOp gPow (dC (.int (10))) (dC (.int (16))))) dNil))) (dCons (dVar 4) (dCons (dC (.int (0))) dNil))))))))
def F_L_dice : FF := runF b_L_dice 5
def cl_L_met : List (Str × CK) := [("InvalidCount", .rep "count " "given"), ("InvalidRow", .cst "row"), ("InvalidLot", .cst "lot"), ("InvalidOperation", .cst "operation")]
def b_is_row : FS := (dSeq (dDrop (dCall F_require_width (dCons (dVar 0) dNil)))
    (dRet (dCall F_is_plain_row (dCons (dVar 0) (dCons (dVar 1) dNil)))))
def F_is_row : FF := runF b_is_row 2
def b_is_plain_lot : FS := (dSeq (dIfS (dOrT (dNotT (dTruth (dB gIsi (dCons (dVar 1) (dCons (dC (.ty "tuple")) dNil))))) (dNotT (dTruth (dB gAll (dCons (dFrz (dLc [2] (dIter (dVar 1)) (gNm 2) dYes (dCall F_is_plain_row (dCons (dVar 0) (dCons (dVar 2) dNil))))) dNil))))) (dRet (dC (.bl false))) dSkip)
    (dSeq (dAsg 3 (dNeg (dC (.int (1)))))
    (dSeq (dForI (dIterEn (dCons (dVar 1) dNil)) (gT (gC (gNm 4) (gC (gNm 2) gN))) (dSeq (dAsg 5 (dCall F_lead_in (dCons (dVar 2) dNil)))
    (dSeq (dIfS (dOrT (dCmpT isN (dVar 5) (dC .non)) (dOrT (dCmpT gLe (dVar 5) (dVar 3)) (dCmpT neS (dCall F_lowest_row (dCons (dVar 2) dNil)) (dVar 2)))) (dRet (dC (.bl false))) dSkip)
    (dSeq (dIfS (dTruth (dB gAny (dCons (dFrz (dLc [6, 7] (dIterEn (dCons (dVar 1) dNil)) (gT (gC (gNm 6) (gC (gNm 7) gN))) (dCmpT neS (dVar 6) (dVar 4)) (dOp neS (dOp gIx (dVar 7) (dVar 5)) (dC (.int (0)))))) dNil))) (dRet (dC (.bl false))) dSkip)
    (dAsg 3 (dVar 5))))))
    (dRet (dC (.bl true))))))
def F_is_plain_lot : FF := runF b_is_plain_lot 8
def b_is_lot : FS := (dSeq (dDrop (dCall F_require_width (dCons (dVar 0) dNil)))
    (dRet (dCall F_is_plain_lot (dCons (dVar 0) (dCons (dVar 1) dNil)))))
def F_is_lot : FF := runF b_is_lot 2
def b_sum_of_rows : FS := (dRet (dB gTuple (dCons (dFrz (dLc [2, 3] (dIterZp (dCons (dVar 0) (dCons (dVar 1) dNil))) (gT (gC (gNm 2) (gC (gNm 3) gN))) dYes (dOp gAdd (dVar 2) (dVar 3)))) dNil)))
def F_sum_of_rows : FF := runF b_sum_of_rows 4
def b_row_plus : FS := (dSeq (dDrop (dCall F_require_width (dCons (dVar 0) dNil)))
    (dSeq (dDrop (dCall F_require_row (dCons (dVar 0) (dCons (dVar 1) dNil))))
    (dSeq (dDrop (dCall F_require_row (dCons (dVar 0) (dCons (dVar 2) dNil))))
    (dRet (dCall F_sum_of_rows (dCons (dVar 1) (dCons (dVar 2) dNil)))))))
def F_row_plus : FF := runF b_row_plus 3
def b_times_row : FS := (dRet (dB gTuple (dCons (dFrz (dLc [2] (dIter (dVar 1)) (gNm 2) dYes (dOp gMul (dVar 0) (dVar 2)))) dNil)))
def F_times_row : FF := runF b_times_row 3
def b_row_times : FS := (dSeq (dDrop (dCall F_require_width (dCons (dVar 0) dNil)))
    (dSeq (dIfS (dNotT (dTruth (dCall F_is_integer (dCons (dVar 1) dNil)))) (dRaiseT "InvalidOperation") dSkip)
    (dSeq (dDrop (dCall F_require_row (dCons (dVar 0) (dCons (dVar 2) dNil))))
    (dRet (dCall F_times_row (dCons (dVar 1) (dCons (dVar 2) dNil)))))))
def F_row_times : FF := runF b_row_times 3
def b_dot : FS := (dRet (dB gSum (dCons (dFrz (dLc [2, 3] (dIterZp (dCons (dVar 0) (dCons (dVar 1) dNil))) (gT (gC (gNm 2) (gC (gNm 3) gN))) dYes (dOp gMul (dVar 2) (dVar 3)))) dNil)))
def F_dot : FF := runF b_dot 4
def b_product : FS := (dSeq (dDrop (dCall F_require_width (dCons (dVar 0) dNil)))
    (dSeq (dDrop (dCall F_require_row (dCons (dVar 0) (dCons (dVar 1) dNil))))
    (dSeq (dDrop (dCall F_require_row (dCons (dVar 0) (dCons (dVar 2) dNil))))
    (dRet (dCall F_dot (dCons (dVar 1) (dCons (dVar 2) dNil)))))))
def F_product : FF := runF b_product 3
def b_does_hold : FS := (dRet (dOp isN (dCall F_lead_in (dCons (dCall F_rest_by (dCons (dVar 0) (dCons (dVar 1) dNil))) dNil)) (dC .non)))
def F_does_hold : FF := runF b_does_hold 2
def b_require_lot : FS := (dIfS (dNotT (dTruth (dCall F_is_plain_lot (dCons (dVar 0) (dCons (dVar 1) dNil))))) (dRaiseT "InvalidLot") dSkip)
def F_require_lot : FF := runF b_require_lot 2
def b_holds : FS := (dSeq (dDrop (dCall F_require_width (dCons (dVar 0) dNil)))
    (dSeq (dDrop (dCall F_require_lot (dCons (dVar 0) (dCons (dVar 1) dNil))))
    (dSeq (dDrop (dCall F_require_row (dCons (dVar 0) (dCons (dVar 2) dNil))))
    (dRet (dCall F_does_hold (dCons (dVar 1) (dCons (dVar 2) dNil)))))))
def F_holds : FF := runF b_holds 3
def b_require_two_lots : FS := (dSeq (dDrop (dCall F_require_width (dCons (dVar 0) dNil)))
    (dSeq (dDrop (dCall F_require_lot (dCons (dVar 0) (dCons (dVar 1) dNil))))
    (dDrop (dCall F_require_lot (dCons (dVar 0) (dCons (dVar 2) dNil))))))
def F_require_two_lots : FF := runF b_require_two_lots 3
def b_joined_lots : FS := (dSeq (dDrop (dCall F_require_two_lots (dCons (dVar 0) (dCons (dVar 1) (dCons (dVar 2) dNil)))))
    (dRet (dCall F_lot_in (dCons (dOp gAdd (dVar 1) (dVar 2)) dNil))))
def F_joined_lots : FF := runF b_joined_lots 3
def b_apart_in : FS := (dSeq (dParM3 3 4 5 (dMv (dFrz (dLc [2] (dIter (dVar 1)) (gNm 2) dYes (dCall F_lead_in (dCons (dVar 2) dNil)))) (dMv (dC (.int (1))) (dMc (dLst dNil) dMn))))
    (dSeq (dForI (dIterZp (dCons (dVar 3) (dCons (dVar 1) dNil))) (gT (gC (gNm 6) (gC (gNm 2) gN))) (dAsg 4 (dOp gMul (dVar 4) (dOp gIx (dVar 2) (dVar 6)))))
    (dSeq (dFrzS 5 (dForI (dRng1 (dCons (dVar 0) dNil)) (gNm 7) (dIfS (dCmpT (gDat niG) (dVar 7) (dVar 3)) (dSeq (dAsgO 8 (dRepF (dLst (dCons (dC (.int (0))) dNil)) (dVar 0)))
    (dSeq (dSetI gSetI (dVar 4) (dVar 8) (dVar 7))
    (dSeq (dForI (dIterZp (dCons (dVar 3) (dCons (dVar 1) dNil))) (gT (gC (gNm 6) (gC (gNm 2) gN))) (dSetI gSetI (dOp gSub (dC (.int (0))) (dOp gMul (dOp gIx (dVar 2) (dVar 7)) (dOp gFdiv (dVar 4) (dOp gIx (dVar 2) (dVar 6))))) (dVar 8) (dVar 6)))
    (dDrop (dM "list" gAppend (dVar 5) (dCons (dB gTuple (dCons (dVar 8) dNil)) dNil)))))) dSkip)))
    (dRet (dCall F_lot_in (dCons (dVar 5) dNil))))))
def F_apart_in : FF := runF b_apart_in 9
def b_met_lots : FS := (dSeq (dDrop (dCall F_require_two_lots (dCons (dVar 0) (dCons (dVar 1) (dCons (dVar 2) dNil)))))
    (dRet (dCall F_apart_in (dCons (dVar 0) (dCons (dCall F_lot_in (dCons (dOp gAdd (dCall F_apart_in (dCons (dVar 0) (dCons (dVar 1) dNil))) (dCall F_apart_in (dCons (dVar 0) (dCons (dVar 2) dNil)))) dNil)) dNil)))))
def F_met_lots : FF := runF b_met_lots 3
def b_rows_apart : FS := (dSeq (dDrop (dCall F_require_width (dCons (dVar 0) dNil)))
    (dSeq (dDrop (dCall F_require_lot (dCons (dVar 0) (dCons (dVar 1) dNil))))
    (dRet (dCall F_apart_in (dCons (dVar 0) (dCons (dVar 1) dNil))))))
def F_rows_apart : FF := runF b_rows_apart 2
def b_sum_in : FS := (dSeq (dParM 3 4 (dMv (dB gLen (dCons (dVar 1) dNil)) (dMc (dLst dNil) dMn)))
    (dSeq (dFrzS 4 (dForI (dIterEn (dCons (dVar 1) dNil)) (gT (gC (gNm 5) (gC (gNm 6) gN))) (dSeq (dAsg 7 (dB gTuple (dCons (dFrz (dLc [12] (dRng1 (dCons (dOp gAdd (dVar 3) (dC (.int (1)))) dNil)) (gNm 12) dYes (dIf (dCmpT eqS (dVar 12) (dVar 5)) (dC (.int (1))) (dC (.int (0)))))) dNil)))
    (dSeq (dAsg 8 (dLend 4 (dCall F_rest_by (dCons (dVar 4) (dCons (dOp gAdd (dVar 6) (dVar 7)) dNil)))))
    (dIfS (dCmpT notN (dCall F_lead_in (dCons (dSl (dVar 8) dNo (dPart (dVar 0))) dNil)) (dC .non)) (dDrop (dM "list" gAppend (dVar 4) (dCons (dCall F_lowest_row (dCons (dVar 8) dNil)) dNil))) dSkip)))))
    (dSeq (dAsg 8 (dCall F_rest_by (dCons (dVar 4) (dCons (dOp gAdd (dOp gAdd (dVar 2) (dOp gMul (dTup (dCons (dC (.int (0))) dNil)) (dVar 3))) (dTup (dCons (dC (.int (1))) dNil))) dNil))))
    (dSeq (dIfS (dCmpT notN (dCall F_lead_in (dCons (dSl (dVar 8) dNo (dPart (dVar 0))) dNil)) (dC .non)) (dRet (dC .non)) dSkip)
    (dSeq (dAsg 9 (dSl (dVar 8) (dPart (dVar 0)) dNo))
    (dSeq (dAsg 10 (dC (.int (0))))
    (dSeq (dForI (dIter (dVar 9)) (gNm 11) (dAsg 10 (dCall F_common_share (dCons (dVar 10) (dCons (dVar 11) dNil)))))
    (dRet (dTup (dCons (dOp gFdiv (dOp gIx (dVar 9) (dNeg (dC (.int (1))))) (dVar 10)) (dCons (dB gTuple (dCons (dFrz (dLc [11] (dIter (dSl (dVar 9) dNo (dPart (dNeg (dC (.int (1))))))) (gNm 11) dYes (dOp gSub (dC (.int (0))) (dOp gFdiv (dVar 11) (dVar 10))))) dNil)) dNil)))))))))))
def F_sum_in : FF := runF b_sum_in 13
def b_span_paper : FS := (dSeq (dDrop (dCall F_require_width (dCons (dVar 0) dNil)))
    (dSeq (dDrop (dCall F_require_rows (dCons (dVar 0) (dCons (dVar 1) dNil))))
    (dSeq (dDrop (dCall F_require_row (dCons (dVar 0) (dCons (dVar 2) dNil))))
    (dSeq (dAsg 3 (dCall F_sum_in (dCons (dVar 0) (dCons (dVar 1) (dCons (dVar 2) dNil)))))
    (dSeq (dIfS (dCmpT notN (dVar 3) (dC .non)) (dRet (dTup (dCons (dC (.str "sum")) (dStar (dVar 3) dNil)))) dSkip)
    (dSeq (dFrzS 4 (dAsgO 4 (dLc [5] (dIter (dCall F_apart_in (dCons (dVar 0) (dCons (dCall F_lot_in (dCons (dVar 1) dNil)) dNil)))) (gNm 5) (dCmpT neS (dCall F_dot (dCons (dVar 5) (dCons (dVar 2) dNil))) (dC (.int (0)))) (dVar 5))))
    (dRet (dTup (dCons (dC (.str "apart")) (dCons (dOp gIx (dVar 4) (dC (.int (0)))) dNil))))))))))
def F_span_paper : FF := runF b_span_paper 6
def b_is_span_paper : FS := (dSeq (dDrop (dCall F_require_width (dCons (dVar 0) dNil)))
    (dSeq (dDrop (dCall F_require_rows (dCons (dVar 0) (dCons (dVar 1) dNil))))
    (dSeq (dDrop (dCall F_require_row (dCons (dVar 0) (dCons (dVar 2) dNil))))
    (dSeq (dIfS (dOrT (dNotT (dTruth (dB gIsi (dCons (dVar 3) (dCons (dC (.ty "tuple")) dNil))))) (dOrT (dCmpT eqS (dVar 3) (dTup dNil)) (dNotT (dTruth (dB gIsi (dCons (dOp gIx (dVar 3) (dC (.int (0)))) (dCons (dC (.ty "str")) dNil))))))) (dRet (dC (.bl false))) dSkip)
    (dSeq (dIfS (dCmpT eqS (dOp gIx (dVar 3) (dC (.int (0)))) (dC (.str "apart"))) (dSeq (dIfS (dOrT (dCmpT neS (dB gLen (dCons (dVar 3) dNil)) (dC (.int (2)))) (dNotT (dTruth (dCall F_is_plain_row (dCons (dVar 0) (dCons (dOp gIx (dVar 3) (dC (.int (1)))) dNil)))))) (dRet (dC (.bl false))) dSkip)
    (dRet (dAndV (dB gAll (dCons (dFrz (dLc [4] (dIter (dVar 1)) (gNm 4) dYes (dOp eqS (dCall F_dot (dCons (dVar 4) (dCons (dOp gIx (dVar 3) (dC (.int (1)))) dNil))) (dC (.int (0)))))) dNil)) (dOp neS (dCall F_dot (dCons (dVar 2) (dCons (dOp gIx (dVar 3) (dC (.int (1)))) dNil))) (dC (.int (0))))))) dSkip)
    (dSeq (dIfS (dOrT (dCmpT neS (dOp gIx (dVar 3) (dC (.int (0)))) (dC (.str "sum"))) (dOrT (dCmpT neS (dB gLen (dCons (dVar 3) dNil)) (dC (.int (3)))) (dOrT (dNotT (dTruth (dCall F_is_integer (dCons (dOp gIx (dVar 3) (dC (.int (1)))) dNil)))) (dCmpT gLt (dOp gIx (dVar 3) (dC (.int (1)))) (dC (.int (1))))))) (dRet (dC (.bl false))) dSkip)
    (dSeq (dIfS (dNotT (dTruth (dCall F_is_plain_row (dCons (dB gLen (dCons (dVar 1) dNil)) (dCons (dOp gIx (dVar 3) (dC (.int (2)))) dNil))))) (dRet (dC (.bl false))) dSkip)
    (dSeq (dAsg 5 (dOp gMul (dTup (dCons (dC (.int (0))) dNil)) (dVar 0)))
    (dSeq (dForI (dIterZp (dCons (dOp gIx (dVar 3) (dC (.int (2)))) (dCons (dVar 1) dNil))) (gT (gC (gNm 6) (gC (gNm 4) gN))) (dAsg 5 (dCall F_sum_of_rows (dCons (dVar 5) (dCons (dCall F_times_row (dCons (dVar 6) (dCons (dVar 4) dNil))) dNil)))))
    (dRet (dOp eqS (dVar 5) (dCall F_times_row (dCons (dOp gIx (dVar 3) (dC (.int (1)))) (dCons (dVar 2) dNil))))))))))))))
def F_is_span_paper : FF := runF b_is_span_paper 7
def b_L_roll : FS := (dSeq (dIfS (dCmpT gGt (dOp gIx (dVar 0) (dC (.int (0)))) (dC (.int (0)))) (dSeq (dAsg 2 (dOp gMod (dOp gIx (dVar 0) (dC (.int (0)))) (dVar 1)))
    (dSeq (dSetI gSetI (dOp gFdiv (dOp gIx (dVar 0) (dC (.int (0)))) (dVar 1)) (dVar 0) (dC (.int (0))))
    (dRet (dB gInt (dCons (dVar 2) dNil))))) dSkip)
    (dSeq (dSetI gSetI (dOp gAdd (dOp gIx (dVar 0) (dC (.int (2)))) (dC (.int (1)))) (dVar 0) (dC (.int (2))))
    (dSeq (dAsg 3 (dOp gMod (dOp gAdd (dOp gIx (dVar 0) (dC (.int (1)))) (dOp gMul (dC (.int (49979687))) (dOp gIx (dVar 0) (dC (.int (2)))))) (dC (.int (2305843009213693951)))))
    (dSeq (dAsg 4 (dOp gAdd (dOp gMul (dOp gMod (dOp gAdd (dOp gMul (dVar 3) (dVar 3)) (dOp gMul (dC (.int (131))) (dOp gIx (dVar 0) (dC (.int (2)))))) (dC (.int (2305843009213693921)))) (dC (.int (32452843)))) (dVar 3)))
    (dRet (dOp gMod (dB gInt (dCons (dOp gFdiv (dVar 4) (dC (.int (65587)))) dNil)) (dVar 1)))))))
def F_L_roll : FF := runF b_L_roll 5
def b_L_pick : FS := (dRet (dOp gIx (dVar 1) (dCall F_L_roll (dCons (dVar 0) (dCons (dB gLen (dCons (dVar 1) dNil)) dNil)))))
def F_L_pick : FF := runF b_L_pick 2
def b_L_one : FS := (dSeq (dIfS (dCmpT gGt (dCall F_L_roll (dCons (dVar 0) (dCons (dC (.int (3))) dNil))) (dC (.int (0)))) (dRet (dTup (dCons (dVar 1) (dCons (dC (.bl false)) dNil)))) dSkip)
    (dRet (dTup (dCons (dCall F_L_pick (dCons (dVar 0) (dCons (dVar 2) dNil))) (dCons (dC (.bl true)) dNil)))))
def F_L_one : FF := runF b_L_one 3
def b_L_due : FS := (dRet (dOp gIx (dOp gAdd (dFrz (dLc [1, 2] (dIter (dVar 0)) (gT (gC (gNm 1) (gC (gNm 2) gN))) (dTruth (dVar 2)) (dVar 1))) (dFrz (dLst (dCons (dC (.str "fine")) dNil)))) (dC (.int (0)))))
def F_L_due : FF := runF b_L_due 3
def b_L_right : FS := (dSeq (dAsg 1 (dOp gAdd (dC (.int (1))) (dCall F_L_roll (dCons (dVar 0) (dCons (dC (.int (4))) dNil)))))
    (dSeq (dAsgG (dCall F_L_one (dCons (dVar 0) (dCons (dVar 1) (dCons (dFrz (dLst (dCons (dC (.int (0))) (dCons (dC (.int (61))) (dCons (dNeg (dC (.int (1)))) (dCons (dC (.bl true)) (dCons (dC .non) (dCons (dC (.str "2")) (dCons (dTup (dCons (dC (.int (2))) dNil)) (dCons (dOp gPow (dC (.int (10))) (dC (.int (30)))) dNil)))))))))) dNil)))) (gT (gC (gNm 21) (gC (gNm 2) gN))))
    (dSeq (dAsg 3 (dFrz (dLst (dCons (dC .non) (dCons (dTup dNil) (dCons (dOp gMul (dTup (dCons (dC (.int (0))) dNil)) (dOp gAdd (dVar 1) (dC (.int (1))))) (dCons (dFrz (dRepF (dLst (dCons (dC (.int (0))) dNil)) (dVar 1))) (dCons (dOp gMul (dTup (dCons (dC .non) dNil)) (dVar 1)) (dCons (dOp gMul (dTup (dCons (dC (.bl true)) dNil)) (dVar 1)) (dCons (dC (.int (0))) (dCons (dOp gMul (dTup (dCons (dC (.str "0")) dNil)) (dVar 1)) (dCons (dFrz dEmp) dNil))))))))))))
    (dSeq (dAsgG (dCall F_L_one (dCons (dVar 0) (dCons (dOp gMul (dTup (dCons (dC (.int (2))) dNil)) (dVar 1)) (dCons (dVar 3) dNil)))) (gT (gC (gNm 18) (gC (gNm 4) gN))))
    (dSeq (dAsgG (dCall F_L_one (dCons (dVar 0) (dCons (dOp gMul (dTup (dCons (dC (.int (0))) dNil)) (dVar 1)) (dCons (dVar 3) dNil)))) (gT (gC (gNm 19) (gC (gNm 5) gN))))
    (dSeq (dAsg 6 (dFrz (dLst (dCons (dC .non) (dCons (dFrz (dLst (dCons (dTup dNil) dNil))) (dCons (dTup (dCons (dOp gMul (dTup (dCons (dC (.int (0))) dNil)) (dVar 1)) dNil)) (dCons (dTup (dCons (dOp gMul (dTup (dCons (dC (.int (2))) dNil)) (dVar 1)) dNil)) (dCons (dTup (dCons (dOp gMul (dTup (dCons (dC (.int (1))) dNil)) (dOp gAdd (dVar 1) (dC (.int (1))))) dNil)) (dCons (dC (.int (0))) (dCons (dTup (dCons (dOp gMul (dTup (dCons (dC (.bl true)) dNil)) (dVar 1)) dNil)) (dCons (dFrz dEmp) dNil)))))))))))
    (dSeq (dAsgG (dCall F_L_one (dCons (dVar 0) (dCons (dTup (dCons (dOp gMul (dTup (dCons (dC (.int (1))) dNil)) (dVar 1)) dNil)) (dCons (dVar 6) dNil)))) (gT (gC (gNm 16) (gC (gNm 7) gN))))
    (dSeq (dAsgG (dCall F_L_one (dCons (dVar 0) (dCons (dTup dNil) (dCons (dVar 6) dNil)))) (gT (gC (gNm 17) (gC (gNm 8) gN))))
    (dSeq (dAsgG (dCall F_L_one (dCons (dVar 0) (dCons (dTup (dCons (dOp gMul (dTup (dCons (dC (.int (3))) dNil)) (dVar 1)) dNil)) (dCons (dFrz (dLst (dCons (dC .non) (dCons (dFrz (dLst (dCons (dOp gMul (dTup (dCons (dC (.int (3))) dNil)) (dVar 1)) dNil))) (dCons (dTup (dCons (dOp gMul (dTup (dCons (dC (.int (3))) dNil)) (dOp gAdd (dVar 1) (dC (.int (1))))) dNil)) (dCons (dTup (dCons (dC .non) dNil)) (dCons (dTup (dCons (dOp gMul (dTup (dCons (dC (.bl true)) dNil)) (dVar 1)) dNil)) (dCons (dC (.int (0))) dNil)))))))) dNil)))) (gT (gC (gNm 20) (gC (gNm 9) gN))))
    (dSeq (dAsgG (dCall F_L_one (dCons (dVar 0) (dCons (dNeg (dC (.int (4)))) (dCons (dFrz (dLst (dCons (dC .non) (dCons (dC (.bl true)) (dCons (dC (.str "3")) (dCons (dTup (dCons (dC (.int (1))) dNil)) (dCons (dFrz (dLst dNil)) dNil))))))) dNil)))) (gT (gC (gNm 14) (gC (gNm 10) gN))))
    (dSeq (dAsg 11 (dTup (dCons (dOp gAdd (dC (.str "count ")) (dB gRepr (dCons (dVar 21) dNil))) (dCons (dVar 2) dNil))))
    (dSeq (dAsgO 12 (dLst (dCons (dMet 2 sub cl_L_met "fine" (dCall F_row_plus (dCons (dVar 21) (dCons (dVar 18) (dCons (dVar 19) dNil))))) (dCons (dMet 2 sub cl_L_met "fine" (dCall F_row_times (dCons (dVar 21) (dCons (dVar 14) (dCons (dVar 18) dNil))))) dNil))))
    (dSeq (dAsgO 13 (dLst (dCons (dCall F_L_due (dCons (dFrz (dLst (dCons (dVar 11) (dCons (dTup (dCons (dC (.str "row")) (dCons (dVar 4) dNil))) (dCons (dTup (dCons (dC (.str "row")) (dCons (dVar 5) dNil))) dNil))))) dNil)) (dCons (dCall F_L_due (dCons (dFrz (dLst (dCons (dVar 11) (dCons (dTup (dCons (dC (.str "operation")) (dCons (dVar 10) dNil))) (dCons (dTup (dCons (dC (.str "row")) (dCons (dVar 4) dNil))) dNil))))) dNil)) dNil))))
    (dSeq (dAsgO 12 (dCat (dVar 12) (dFrz (dLst (dCons (dMet 2 sub cl_L_met "fine" (dCall F_product (dCons (dVar 21) (dCons (dVar 18) (dCons (dVar 19) dNil))))) (dCons (dMet 2 sub cl_L_met "fine" (dCall F_lowest (dCons (dVar 21) (dCons (dVar 18) dNil)))) dNil))))))
    (dSeq (dAsgO 13 (dCat (dVar 13) (dFrz (dLst (dCons (dCall F_L_due (dCons (dFrz (dLst (dCons (dVar 11) (dCons (dTup (dCons (dC (.str "row")) (dCons (dVar 4) dNil))) (dCons (dTup (dCons (dC (.str "row")) (dCons (dVar 5) dNil))) dNil))))) dNil)) (dCons (dCall F_L_due (dCons (dFrz (dLst (dCons (dVar 11) (dCons (dTup (dCons (dC (.str "row")) (dCons (dVar 4) dNil))) dNil)))) dNil)) dNil))))))
    (dSeq (dAsgO 12 (dCat (dVar 12) (dFrz (dLst (dCons (dMet 2 sub cl_L_met "fine" (dCall F_lot_of (dCons (dVar 21) (dCons (dVar 20) dNil)))) (dCons (dMet 2 sub cl_L_met "fine" (dCall F_holds (dCons (dVar 21) (dCons (dVar 16) (dCons (dVar 18) dNil))))) dNil))))))
    (dSeq (dAsgO 13 (dCat (dVar 13) (dFrz (dLst (dCons (dCall F_L_due (dCons (dFrz (dLst (dCons (dVar 11) (dCons (dTup (dCons (dC (.str "row")) (dCons (dVar 9) dNil))) dNil)))) dNil)) (dCons (dCall F_L_due (dCons (dFrz (dLst (dCons (dVar 11) (dCons (dTup (dCons (dC (.str "lot")) (dCons (dVar 7) dNil))) (dCons (dTup (dCons (dC (.str "row")) (dCons (dVar 4) dNil))) dNil))))) dNil)) dNil))))))
    (dSeq (dForI (dIter (dTup (dCons (dC (.fn "joined_lots")) (dCons (dC (.fn "met_lots")) dNil)))) (gNm 15) (dSeq (dDrop (dM "list" gAppend (dVar 12) (dCons (dMet 2 sub cl_L_met "fine" (dCallV 15 [("joined_lots", F_joined_lots), ("met_lots", F_met_lots)] (dCons (dVar 21) (dCons (dVar 16) (dCons (dVar 17) dNil))))) dNil)))
    (dDrop (dM "list" gAppend (dVar 13) (dCons (dCall F_L_due (dCons (dFrz (dLst (dCons (dVar 11) (dCons (dTup (dCons (dC (.str "lot")) (dCons (dVar 7) dNil))) (dCons (dTup (dCons (dC (.str "lot")) (dCons (dVar 8) dNil))) dNil))))) dNil)) dNil)))))
    (dSeq (dAsgO 12 (dCat (dVar 12) (dFrz (dLst (dCons (dMet 2 sub cl_L_met "fine" (dCall F_rows_apart (dCons (dVar 21) (dCons (dVar 16) dNil)))) (dCons (dMet 2 sub cl_L_met "fine" (dCall F_span_paper (dCons (dVar 21) (dCons (dVar 20) (dCons (dVar 18) dNil))))) dNil))))))
    (dSeq (dAsgO 13 (dCat (dVar 13) (dFrz (dLst (dCons (dCall F_L_due (dCons (dFrz (dLst (dCons (dVar 11) (dCons (dTup (dCons (dC (.str "lot")) (dCons (dVar 7) dNil))) dNil)))) dNil)) (dCons (dCall F_L_due (dCons (dFrz (dLst (dCons (dVar 11) (dCons (dTup (dCons (dC (.str "row")) (dCons (dVar 9) dNil))) (dCons (dTup (dCons (dC (.str "row")) (dCons (dVar 4) dNil))) dNil))))) dNil)) dNil))))))
    (dSeq (dAsgO 12 (dCat (dVar 12) (dFrz (dLst (dCons (dMet 2 sub cl_L_met "fine" (dCall F_is_row (dCons (dVar 21) (dCons (dVar 18) dNil)))) (dCons (dMet 2 sub cl_L_met "fine" (dCall F_is_lot (dCons (dVar 21) (dCons (dVar 16) dNil)))) dNil))))))
    (dSeq (dAsgO 13 (dCat (dVar 13) (dFrz (dRepF (dLst (dCons (dCall F_L_due (dCons (dFrz (dLst (dCons (dVar 11) dNil))) dNil)) dNil)) (dC (.int (2)))))))
    (dSeq (dFrzS 12 (dDrop (dM "list" gAppend (dVar 12) (dCons (dMet 2 sub cl_L_met "fine" (dCall F_is_span_paper (dCons (dVar 21) (dCons (dVar 20) (dCons (dVar 18) (dCons (dC .non) dNil)))))) dNil))))
    (dSeq (dFrzS 13 (dDrop (dM "list" gAppend (dVar 13) (dCons (dCall F_L_due (dCons (dFrz (dLst (dCons (dVar 11) (dCons (dTup (dCons (dC (.str "row")) (dCons (dVar 9) dNil))) (dCons (dTup (dCons (dC (.str "row")) (dCons (dVar 4) dNil))) dNil))))) dNil)) dNil))))
    (dRet (dOp eqS (dVar 12) (dVar 13)))))))))))))))))))))))))))
def F_L_right : FF := runF b_L_right 22
def b_law : FS := (dSeq (dForI (dRng1 (dCons (dB gMax2 (dCons (dC (.int (1))) (dCons (dB gMin2 (dCons (dC (.int (6))) (dCons (dB gLen (dCons (dVar 0) dNil)) dNil))) dNil))) dNil)) (gNm 1) (dSeq (dAsgR 2 (dCallF F_L_dice (dCons (dVar 0) (dCons (dVar 1) dNil))))
    (dForI (dRng1 (dCons (dC (.int (6))) dNil)) (gNm 3) (dIfS (dNotT (dTruth (dCall F_L_right (dCons (dVar 2) dNil)))) (dRet (dC (.bl false))) dSkip))))
    (dSeq (dAsg 4 (dFrz (dLst (dCons (dMet 2 sub cl_L_met "fine" (dCall F_lowest (dCons (dC (.int (60))) (dCons (dOp gMul (dTup (dCons (dC (.int (1))) dNil)) (dC (.int (60)))) dNil)))) (dCons (dMet 2 sub cl_L_met "fine" (dCall F_lowest (dCons (dC (.int (1))) (dCons (dTup (dCons (dC (.int (0))) dNil)) dNil)))) (dCons (dMet 2 sub cl_L_met "fine" (dCall F_lot_of (dCons (dC (.int (3))) (dCons (dTup dNil) dNil)))) dNil))))))
    (dRet (dAndV (dOp eqS (dC (.int (60))) (dC (.int (60)))) (dOp eqS (dVar 4) (dFrz (dRepF (dLst (dCons (dC (.str "fine")) dNil)) (dC (.int (3))))))))))
def F_law : FF := runF b_law 5
end K14

namespace K14
open PySem PySem.Spec PyProof.Rows L2 DL
def top (i : Nat) : Stmt := PySem.Challenge.pw_anywaybuilt_k14_errors_of_rows.main.body.getD i (.Pass ⟨0, 0, 0, 0⟩)
def lamQ_L_right : Str := ("_law_right" : Str) ++ ".<locals>." ++ "<lambda>"
def lamQ_law : Str := ("law" : Str) ++ ".<locals>." ++ "<lambda>"
structure Glb (mg : Str → Option Value) : Prop where
  b_abs : mg "abs" = none
  b_all : mg "all" = none
  b_any : mg "any" = none
  b_bool : mg "bool" = none
  b_enumerate : mg "enumerate" = none
  b_int : mg "int" = none
  b_isinstance : mg "isinstance" = none
  b_len : mg "len" = none
  b_max : mg "max" = none
  b_min : mg "min" = none
  b_range : mg "range" = none
  b_repr : mg "repr" = none
  b_sorted : mg "sorted" = none
  b_str : mg "str" = none
  b_sum : mg "sum" = none
  b_tuple : mg "tuple" = none
  b_zip : mg "zip" = none
  c_APART : ∃ t, mg "APART" = some (.str "apart" t)
  c_MAX_WIDTH : ∃ t, mg "MAX_WIDTH" = some (.int (60) t)
  c_SUM : ∃ t, mg "SUM" = some (.str "sum" t)
structure Glx [DLX] (P : Program) (K : PySem.W.Frag) (mg : Str → Option Value) : Prop where
  hmg : DLX.mg = mg
  hT : DLX.T.length = 2
  sub : SubOk K mg sub
  s_InvalidCount : ErS P K mg "InvalidCount" "given" (fun y => Str.empty ++ y ++ " is given")
  t_InvalidRow : ErT K mg "InvalidRow"
  t_InvalidOperation : ErT K mg "InvalidOperation"
  t_InvalidLot : ErT K mg "InvalidLot"
  x_InvalidCount : ErX K mg "InvalidCount" "given"
  m_InvalidRow : ∃ C, mg "InvalidRow" = some C
  m_InvalidLot : ∃ C, mg "InvalidLot" = some C
  m_InvalidOperation : ∃ C, mg "InvalidOperation" = some C
section
variable [DLX] {P : Program} {w : World} {K : PySem.W.Frag} {mg : Str → Option Value} {base : Heap}
theorem sc_is_integer : FnScope ["value"] ["value"] (defScope (top 10)) := ⟨rfl, rfl, rfl, by decide +kernel, rfl, by decide +kernel, by decide +kernel⟩
theorem ok_is_integer {f : Addr} {fd : FuncData} (T : Glb mg) (TX : Glx P K mg) (F : Fun K "is_integer" "is_integer" (top 10) f fd) (hm : mg "is_integer" = some (.ref f)) (hb : Binds K fd ["value"] []) : FnD P w K mg base "is_integer" 1 1 F_is_integer := by
  refine fnD (k := 0) F hm hb sc_is_integer F_is_integer fun cdv A outer s H E hr hgu ds μ hl hG => ⟨b_is_integer, ?_, rfl⟩
  have hu := room_u hr
  exact (sd_one (sd_ret (pd_and (pd_b bi_isi (by rfl) T.b_isinstance rfl (pa_c (pd_var 0 (pv 0)) (pa_c (pd_bltT (by rfl) T.b_int rfl) pa_n))) (pd_one (pd_not (pd_b bi_isi (by rfl) T.b_isinstance rfl (pa_c (pd_var 0 (pv 0)) (pa_c (pd_bltT (by rfl) T.b_bool rfl) pa_n))))))))
theorem sc_require_width : FnScope ["width"] ["width"] (defScope (top 11)) := ⟨rfl, rfl, rfl, by decide +kernel, rfl, by decide +kernel, by decide +kernel⟩
theorem ok_require_width {f : Addr} {fd : FuncData} (T : Glb mg) (TX : Glx P K mg) (F : Fun K "require_width" "require_width" (top 11) f fd) (hm : mg "require_width" = some (.ref f)) (hb : Binds K fd ["width"] []) (h_is_integer : FnD P w K mg base "is_integer" 1 1 F_is_integer) : FnD P w K mg base "require_width" 5 1 F_require_width := by
  refine fnD (k := 4) F hm hb sc_require_width F_require_width fun cdv A outer s H E hr hgu ds μ hl hG => ⟨b_require_width, ?_, rfl⟩
  have hu := room_u hr
  exact (sd_one (sd_if (PWD.pt (pw_o (pt_nt (pt_tr (pd_call h_is_integer (hr.mono (by decide)) hgu (by rfl) (pa_c (pd_var 0 (pv 0)) pa_n) (al_c al_n)))) (pw_o1 (pt_nt (DL.pt_chain c_le c_le pd_int (pd_var 0 (pv 0)) (pd_globI (by rfl) T.c_MAX_WIDTH.choose_spec)))))) (sd_one (sd_erS TX.s_InvalidCount TX.hmg (hr.mono (by decide)) hgu (pd_var 0 (pv 0)))) sd_nil))
theorem sc_lead_in : FnScope ["row", "index", "number"] ["row"] (defScope (top 13)) := ⟨rfl, rfl, rfl, by decide +kernel, rfl, by decide +kernel, by decide +kernel⟩
theorem ok_lead_in {f : Addr} {fd : FuncData} (T : Glb mg) (TX : Glx P K mg) (F : Fun K "lead_in" "lead_in" (top 13) f fd) (hm : mg "lead_in" = some (.ref f)) (hb : Binds K fd ["row"] []) : FnD P w K mg base "lead_in" 1 1 F_lead_in := by
  refine fnD (k := 0) F hm hb sc_lead_in F_lead_in fun cdv A outer s H E hr hgu ds μ hl hG => ⟨b_lead_in, ?_, rfl⟩
  have hu := room_u hr
  exact (sd_cons (sd_for (passes_of rfl) rfl (id_en (pa_c (pd_var 0 (pv 0)) pa_n) (by rfl) T.b_enumerate) (gd_tup rfl (gd_cons (gd_name (pg_name (i := 1) sc_lead_in.nd rfl (by first | exact Or.inl rfl | exact Or.inr rfl))) (gd_cons (gd_name (pg_name (i := 2) sc_lead_in.nd rfl (by first | exact Or.inl rfl | exact Or.inr rfl))) gd_nil))) (sd_one (sd_if (pt_cm (c_neS hu) (pd_var 2 (pv 2)) pd_int) (sd_one (sd_ret (pd_var 1 (pv 1)))) sd_nil)))
    (sd_one (sd_ret pd_non)))
theorem sc_common_share : FnScope ["one", "other"] ["one", "other"] (defScope (top 14)) := ⟨rfl, rfl, rfl, by decide +kernel, rfl, by decide +kernel, by decide +kernel⟩
theorem ok_common_share {f : Addr} {fd : FuncData} (T : Glb mg) (TX : Glx P K mg) (F : Fun K "common_share" "common_share" (top 14) f fd) (hm : mg "common_share" = some (.ref f)) (hb : Binds K fd ["one", "other"] []) : FnD P w K mg base "common_share" 1 2 F_common_share := by
  refine fnD (k := 0) F hm hb sc_common_share F_common_share fun cdv A outer s H E hr hgu ds μ hl hG => ⟨b_common_share (fu0_common_share ds μ), ?_, rfl⟩
  have hu := room_u hr
  exact (sd_cons (sd_while (fu0_common_share ds μ) (passes_of rfl) (pt_cm (c_neS hu) (pd_var 1 (pv 1)) pd_int) (sd_one (sd_par (fun ta h => ps_par (i := 0) (j := 1) rfl sc_common_share.nd rfl rfl (by decide) rfl rfl h (by rfl)) (pa_c (pd_var 1 (pv 1)) (pa_c (pd_mod (pd_var 0 (pv 0)) (pd_var 1 (pv 1))) pa_n)))))
    (sd_one (sd_ret (pd_b bi_abs (by rfl) T.b_abs rfl (pa_c (pd_var 0 (pv 0)) pa_n)))))
theorem sc_lowest_row : FnScope ["row", "share", "number"] ["row"] (defScope (top 15)) := ⟨rfl, rfl, rfl, by decide +kernel, rfl, by decide +kernel, by decide +kernel⟩
theorem ok_lowest_row {f : Addr} {fd : FuncData} (T : Glb mg) (TX : Glx P K mg) (F : Fun K "lowest_row" "lowest_row" (top 15) f fd) (hm : mg "lowest_row" = some (.ref f)) (hb : Binds K fd ["row"] []) (h_lead_in : FnD P w K mg base "lead_in" 1 1 F_lead_in) (h_common_share : FnD P w K mg base "common_share" 1 2 F_common_share) : FnD P w K mg base "lowest_row" 2 1 F_lowest_row := by
  refine fnD (k := 1) F hm hb sc_lowest_row F_lowest_row fun cdv A outer s H E hr hgu ds μ hl hG => ⟨b_lowest_row, ?_, rfl⟩
  have hu := room_u hr
  exact (sd_cons (sd_asg (fun te h => ps_set (i := 1) sc_lowest_row.nd rfl (by first | exact Or.inl rfl | exact Or.inr rfl) h) pd_int)
    (sd_cons (sd_for (passes_of rfl) rfl (id_seq (pd_var 0 (pv 0))) (gd_name (pg_name (i := 2) sc_lowest_row.nd rfl (by first | exact Or.inl rfl | exact Or.inr rfl))) (sd_one (sd_asg (fun te h => ps_set (i := 1) sc_lowest_row.nd rfl (by first | exact Or.inl rfl | exact Or.inr rfl) h) (pd_call h_common_share (hr.mono (by decide)) hgu (by rfl) (pa_c (pd_var 1 (pv 1)) (pa_c (pd_var 2 (pv 2)) pa_n)) (al_c (al_c al_n))))))
    (sd_cons (sd_if (pt_cm (c_eqS hu) (pd_var 1 (pv 1)) pd_int) (sd_one (sd_ret (pd_ty bi_tuple (by rfl) T.b_tuple rfl (pa_c (pd_var 0 (pv 0)) pa_n)))) sd_nil)
    (sd_cons (sd_if (pt_cm c_lt (pd_ix (pd_var 0 (pv 0)) (pd_call h_lead_in (hr.mono (by decide)) hgu (by rfl) (pa_c (pd_var 0 (pv 0)) pa_n) (al_c al_n))) pd_int) (sd_one (sd_asg (fun te h => ps_set (i := 1) sc_lowest_row.nd rfl (by first | exact Or.inl rfl | exact Or.inr rfl) h) (pd_sub pd_int (pd_var 1 (pv 1))))) sd_nil)
    (sd_one (sd_ret (pd_ty bi_tuple (by rfl) T.b_tuple rfl (pa_c (pd_f (pf_lc (own := [("number", 2)]) rfl sc_lowest_row.nd (by kernel_rfl) (id_seq (pd_var 0 (pv 0))) (fun b => (gd_name (pg_name (i := 2) sc_lowest_row.nd rfl (by first | exact Or.inl rfl | exact Or.inr rfl)))) (fun b => td_nil) (fun b => (pd_fdiv (pd_var 2 (pv 2)) (pd_var 1 (pv 1)))))) pa_n))))))))
theorem sc_is_plain_row : FnScope ["width", "value", "one"] ["width", "value"] (defScope (top 12)) := ⟨rfl, rfl, rfl, by decide +kernel, rfl, by decide +kernel, by decide +kernel⟩
theorem ok_is_plain_row {f : Addr} {fd : FuncData} (T : Glb mg) (TX : Glx P K mg) (F : Fun K "is_plain_row" "is_plain_row" (top 12) f fd) (hm : mg "is_plain_row" = some (.ref f)) (hb : Binds K fd ["width", "value"] []) (h_is_integer : FnD P w K mg base "is_integer" 1 1 F_is_integer) : FnD P w K mg base "is_plain_row" 2 2 F_is_plain_row := by
  refine fnD (k := 1) F hm hb sc_is_plain_row F_is_plain_row fun cdv A outer s H E hr hgu ds μ hl hG => ⟨b_is_plain_row, ?_, rfl⟩
  have hu := room_u hr
  exact (sd_one (sd_ret (pd_and (pd_b bi_isi (by rfl) T.b_isinstance rfl (pa_c (pd_var 1 (pv 1)) (pa_c (pd_bltT (by rfl) T.b_tuple rfl) pa_n))) (pd_and (pd_cm (c_eqS hu) (pd_b bi_len (by rfl) T.b_len rfl (pa_c (pd_var 1 (pv 1)) pa_n)) (pd_var 0 (pv 0))) (pd_one (pd_b (bi_all rfl) (by rfl) T.b_all rfl (pa_c (pd_f (pf_lc (own := [("one", 2)]) rfl sc_is_plain_row.nd (by kernel_rfl) (id_seq (pd_var 1 (pv 1))) (fun b => (gd_name (pg_name (i := 2) sc_is_plain_row.nd rfl (by first | exact Or.inl rfl | exact Or.inr rfl)))) (fun b => td_nil) (fun b => (pd_call h_is_integer (hr.mono (by decide)) hgu (by rfl) (pa_c (pd_var 2 (pv 2)) pa_n) (al_c al_n))))) pa_n)))))))
theorem sc_require_row : FnScope ["width", "row"] ["width", "row"] (defScope (top 28)) := ⟨rfl, rfl, rfl, by decide +kernel, rfl, by decide +kernel, by decide +kernel⟩
theorem ok_require_row {f : Addr} {fd : FuncData} (T : Glb mg) (TX : Glx P K mg) (F : Fun K "require_row" "require_row" (top 28) f fd) (hm : mg "require_row" = some (.ref f)) (hb : Binds K fd ["width", "row"] []) (h_is_plain_row : FnD P w K mg base "is_plain_row" 2 2 F_is_plain_row) : FnD P w K mg base "require_row" 3 2 F_require_row := by
  refine fnD (k := 2) F hm hb sc_require_row F_require_row fun cdv A outer s H E hr hgu ds μ hl hG => ⟨b_require_row, ?_, rfl⟩
  have hu := room_u hr
  exact (sd_one (sd_if (pt_nt (pt_tr (pd_call h_is_plain_row (hr.mono (by decide)) hgu (by rfl) (pa_c (pd_var 0 (pv 0)) (pa_c (pd_var 1 (pv 1)) pa_n)) (al_c (al_c al_n))))) (sd_one (sd_erT TX.t_InvalidRow TX.hmg)) sd_nil))
theorem sc_lowest : FnScope ["width", "row"] ["width", "row"] (defScope (top 34)) := ⟨rfl, rfl, rfl, by decide +kernel, rfl, by decide +kernel, by decide +kernel⟩
theorem ok_lowest {f : Addr} {fd : FuncData} (T : Glb mg) (TX : Glx P K mg) (F : Fun K "lowest" "lowest" (top 34) f fd) (hm : mg "lowest" = some (.ref f)) (hb : Binds K fd ["width", "row"] []) (h_require_width : FnD P w K mg base "require_width" 5 1 F_require_width) (h_lowest_row : FnD P w K mg base "lowest_row" 2 1 F_lowest_row) (h_require_row : FnD P w K mg base "require_row" 3 2 F_require_row) : FnD P w K mg base "lowest" 6 2 F_lowest := by
  refine fnD (k := 5) F hm hb sc_lowest F_lowest fun cdv A outer s H E hr hgu ds μ hl hG => ⟨b_lowest, ?_, rfl⟩
  have hu := room_u hr
  exact (sd_cons (sd_drop (pd_call h_require_width (hr.mono (by decide)) hgu (by rfl) (pa_c (pd_var 0 (pv 0)) pa_n) (al_c al_n)))
    (sd_cons (sd_drop (pd_call h_require_row (hr.mono (by decide)) hgu (by rfl) (pa_c (pd_var 0 (pv 0)) (pa_c (pd_var 1 (pv 1)) pa_n)) (al_c (al_c al_n))))
    (sd_one (sd_ret (pd_call h_lowest_row (hr.mono (by decide)) hgu (by rfl) (pa_c (pd_var 1 (pv 1)) pa_n) (al_c al_n))))))
theorem sc_less_by : FnScope ["row", "other", "index", "one", "two"] ["row", "other"] (defScope (top 20)) := ⟨rfl, rfl, rfl, by decide +kernel, rfl, by decide +kernel, by decide +kernel⟩
theorem ok_less_by {f : Addr} {fd : FuncData} (T : Glb mg) (TX : Glx P K mg) (F : Fun K "less_by" "less_by" (top 20) f fd) (hm : mg "less_by" = some (.ref f)) (hb : Binds K fd ["row", "other"] []) (h_lead_in : FnD P w K mg base "lead_in" 1 1 F_lead_in) : FnD P w K mg base "less_by" 2 2 F_less_by := by
  refine fnD (k := 1) F hm hb sc_less_by F_less_by fun cdv A outer s H E hr hgu ds μ hl hG => ⟨b_less_by, ?_, rfl⟩
  have hu := room_u hr
  exact (sd_cons (sd_asg (fun te h => ps_set (i := 2) sc_less_by.nd rfl (by first | exact Or.inl rfl | exact Or.inr rfl) h) (pd_call h_lead_in (hr.mono (by decide)) hgu (by rfl) (pa_c (pd_var 1 (pv 1)) pa_n) (al_c al_n)))
    (sd_cons (sd_if (pt_cm (c_eqS hu) (pd_ix (pd_var 0 (pv 0)) (pd_var 2 (pv 2))) pd_int) (sd_one (sd_ret (pd_var 0 (pv 0)))) sd_nil)
    (sd_one (sd_ret (pd_ty bi_tuple (by rfl) T.b_tuple rfl (pa_c (pd_f (pf_lc (own := [("one", 3), ("two", 4)]) rfl sc_less_by.nd (by kernel_rfl) (id_zp (pa_c (pd_var 0 (pv 0)) (pa_c (pd_var 1 (pv 1)) pa_n)) (by rfl) T.b_zip) (fun b => (gd_tup rfl (gd_cons (gd_name (pg_name (i := 3) sc_less_by.nd rfl (by first | exact Or.inl rfl | exact Or.inr rfl))) (gd_cons (gd_name (pg_name (i := 4) sc_less_by.nd rfl (by first | exact Or.inl rfl | exact Or.inr rfl))) gd_nil)))) (fun b => td_nil) (fun b => (pd_sub (pd_mul (pd_ix (pd_var 1 (pv 1)) (pd_var 2 (pv 2))) (pd_var 3 (pv 3))) (pd_mul (pd_ix (pd_var 0 (pv 0)) (pd_var 2 (pv 2))) (pd_var 4 (pv 4))))))) pa_n))))))
theorem sc_rest_by : FnScope ["lot", "row", "other"] ["lot", "row"] (defScope (top 21)) := ⟨rfl, rfl, rfl, by decide +kernel, rfl, by decide +kernel, by decide +kernel⟩
theorem ok_rest_by {f : Addr} {fd : FuncData} (T : Glb mg) (TX : Glx P K mg) (F : Fun K "rest_by" "rest_by" (top 21) f fd) (hm : mg "rest_by" = some (.ref f)) (hb : Binds K fd ["lot", "row"] []) (h_less_by : FnD P w K mg base "less_by" 2 2 F_less_by) : FnD P w K mg base "rest_by" 3 2 F_rest_by := by
  refine fnD (k := 2) F hm hb sc_rest_by F_rest_by fun cdv A outer s H E hr hgu ds μ hl hG => ⟨b_rest_by, ?_, rfl⟩
  have hu := room_u hr
  exact (sd_cons (sd_for (passes_of rfl) rfl (id_seq (pd_var 0 (pv 0))) (gd_name (pg_name (i := 2) sc_rest_by.nd rfl (by first | exact Or.inl rfl | exact Or.inr rfl))) (sd_one (sd_asg (fun te h => ps_set (i := 1) sc_rest_by.nd rfl (by first | exact Or.inl rfl | exact Or.inr rfl) h) (pd_call h_less_by (hr.mono (by decide)) hgu (by rfl) (pa_c (pd_var 1 (pv 1)) (pa_c (pd_var 2 (pv 2)) pa_n)) (al_c (al_c al_n))))))
    (sd_one (sd_ret (pd_var 1 (pv 1)))))
theorem sc_with_row : FnScope ["lot", "row", "left", "found", "other"] ["lot", "row"] (defScope (top 23)) := ⟨rfl, rfl, rfl, by decide +kernel, rfl, by decide +kernel, by decide +kernel⟩
theorem ok_with_row {f : Addr} {fd : FuncData} (T : Glb mg) (TX : Glx P K mg) (F : Fun K "with_row" "with_row" (top 23) f fd) (hm : mg "with_row" = some (.ref f)) (hb : Binds K fd ["lot", "row"] []) (h_lead_in : FnD P w K mg base "lead_in" 1 1 F_lead_in) (h_lowest_row : FnD P w K mg base "lowest_row" 2 1 F_lowest_row) (h_less_by : FnD P w K mg base "less_by" 2 2 F_less_by) (h_rest_by : FnD P w K mg base "rest_by" 3 2 F_rest_by) : FnD P w K mg base "with_row" 4 2 F_with_row := by
  refine fnD (k := 3) F hm hb sc_with_row F_with_row fun cdv A outer s H E hr hgu ds μ hl hG => ⟨b_with_row, ?_, rfl⟩
  have hu := room_u hr
  exact (sd_cons (sd_asg (fun te h => ps_set (i := 2) sc_with_row.nd rfl (by first | exact Or.inl rfl | exact Or.inr rfl) h) (pd_call h_lowest_row (hr.mono (by decide)) hgu (by rfl) (pa_c (pd_call h_rest_by (hr.mono (by decide)) hgu (by rfl) (pa_c (pd_var 0 (pv 0)) (pa_c (pd_var 1 (pv 1)) pa_n)) (al_c (al_c al_n))) pa_n) (al_c al_n)))
    (sd_cons (sd_if (pt_cm c_is (pd_call h_lead_in (hr.mono (by decide)) hgu (by rfl) (pa_c (pd_var 2 (pv 2)) pa_n) (al_c al_n)) pd_non) (sd_one (sd_ret (pd_var 0 (pv 0)))) sd_nil)
    (sd_cons (sd_asg (fun te h => ps_set (i := 3) sc_with_row.nd rfl (by first | exact Or.inl rfl | exact Or.inr rfl) h) (pd_add (pd_f (pf_lc (own := [("other", 4)]) rfl sc_with_row.nd (by kernel_rfl) (id_seq (pd_var 0 (pv 0))) (fun b => (gd_name (pg_name (i := 4) sc_with_row.nd rfl (by first | exact Or.inl rfl | exact Or.inr rfl)))) (fun b => td_nil) (fun b => (pd_call h_lowest_row (hr.mono (by decide)) hgu (by rfl) (pa_c (pd_call h_less_by (hr.mono (by decide)) hgu (by rfl) (pa_c (pd_var 4 (pv 4)) (pa_c (pd_var 2 (pv 2)) pa_n)) (al_c (al_c al_n))) pa_n) (al_c al_n))))) (pd_f (pf_lst (pa_c (pd_var 2 (pv 2)) pa_n)))))
    (sd_one (sd_ret (pd_ty bi_tuple (by rfl) T.b_tuple rfl (pa_c (pd_f (pf_sortKey h_lead_in (hr.mono (by decide)) hgu (by rfl) (by rfl) T.b_sorted (pd_var 3 (pv 3)))) pa_n)))))))
theorem sc_lot_in : FnScope ["rows", "lot", "row"] ["rows"] (defScope (top 24)) := ⟨rfl, rfl, rfl, by decide +kernel, rfl, by decide +kernel, by decide +kernel⟩
theorem ok_lot_in {f : Addr} {fd : FuncData} (T : Glb mg) (TX : Glx P K mg) (F : Fun K "lot_in" "lot_in" (top 24) f fd) (hm : mg "lot_in" = some (.ref f)) (hb : Binds K fd ["rows"] []) (h_with_row : FnD P w K mg base "with_row" 4 2 F_with_row) : FnD P w K mg base "lot_in" 5 1 F_lot_in := by
  refine fnD (k := 4) F hm hb sc_lot_in F_lot_in fun cdv A outer s H E hr hgu ds μ hl hG => ⟨b_lot_in, ?_, rfl⟩
  have hu := room_u hr
  exact (sd_cons (sd_asg (fun te h => ps_set (i := 1) sc_lot_in.nd rfl (by first | exact Or.inl rfl | exact Or.inr rfl) h) (pd_tup pa_n))
    (sd_cons (sd_for (passes_of rfl) rfl (id_seq (pd_var 0 (pv 0))) (gd_name (pg_name (i := 2) sc_lot_in.nd rfl (by first | exact Or.inl rfl | exact Or.inr rfl))) (sd_one (sd_asg (fun te h => ps_set (i := 1) sc_lot_in.nd rfl (by first | exact Or.inl rfl | exact Or.inr rfl) h) (pd_call h_with_row (hr.mono (by decide)) hgu (by rfl) (pa_c (pd_var 1 (pv 1)) (pa_c (pd_var 2 (pv 2)) pa_n)) (al_c (al_c al_n))))))
    (sd_one (sd_ret (pd_var 1 (pv 1))))))
theorem sc_require_rows : FnScope ["width", "rows", "row"] ["width", "rows"] (defScope (top 29)) := ⟨rfl, rfl, rfl, by decide +kernel, rfl, by decide +kernel, by decide +kernel⟩
theorem ok_require_rows {f : Addr} {fd : FuncData} (T : Glb mg) (TX : Glx P K mg) (F : Fun K "require_rows" "require_rows" (top 29) f fd) (hm : mg "require_rows" = some (.ref f)) (hb : Binds K fd ["width", "rows"] []) (h_is_plain_row : FnD P w K mg base "is_plain_row" 2 2 F_is_plain_row) : FnD P w K mg base "require_rows" 3 2 F_require_rows := by
  refine fnD (k := 2) F hm hb sc_require_rows F_require_rows fun cdv A outer s H E hr hgu ds μ hl hG => ⟨b_require_rows, ?_, rfl⟩
  have hu := room_u hr
  exact (sd_one (sd_if (PWD.pt (pw_o (pt_nt (pt_tr (pd_b bi_isi (by rfl) T.b_isinstance rfl (pa_c (pd_var 1 (pv 1)) (pa_c (pd_bltT (by rfl) T.b_tuple rfl) pa_n))))) (pw_o1 (pt_nt (pt_tr (pd_b (bi_all rfl) (by rfl) T.b_all rfl (pa_c (pd_f (pf_lc (own := [("row", 2)]) rfl sc_require_rows.nd (by kernel_rfl) (id_seq (pd_var 1 (pv 1))) (fun b => (gd_name (pg_name (i := 2) sc_require_rows.nd rfl (by first | exact Or.inl rfl | exact Or.inr rfl)))) (fun b => td_nil) (fun b => (pd_call h_is_plain_row (hr.mono (by decide)) hgu (by rfl) (pa_c (pd_var 0 (pv 0)) (pa_c (pd_var 2 (pv 2)) pa_n)) (al_c (al_c al_n)))))) pa_n))))))) (sd_one (sd_erT TX.t_InvalidRow TX.hmg)) sd_nil))
theorem sc_lot_of : FnScope ["width", "rows"] ["width", "rows"] (defScope (top 35)) := ⟨rfl, rfl, rfl, by decide +kernel, rfl, by decide +kernel, by decide +kernel⟩
theorem ok_lot_of {f : Addr} {fd : FuncData} (T : Glb mg) (TX : Glx P K mg) (F : Fun K "lot_of" "lot_of" (top 35) f fd) (hm : mg "lot_of" = some (.ref f)) (hb : Binds K fd ["width", "rows"] []) (h_require_width : FnD P w K mg base "require_width" 5 1 F_require_width) (h_lot_in : FnD P w K mg base "lot_in" 5 1 F_lot_in) (h_require_rows : FnD P w K mg base "require_rows" 3 2 F_require_rows) : FnD P w K mg base "lot_of" 6 2 F_lot_of := by
  refine fnD (k := 5) F hm hb sc_lot_of F_lot_of fun cdv A outer s H E hr hgu ds μ hl hG => ⟨b_lot_of, ?_, rfl⟩
  have hu := room_u hr
  exact (sd_cons (sd_drop (pd_call h_require_width (hr.mono (by decide)) hgu (by rfl) (pa_c (pd_var 0 (pv 0)) pa_n) (al_c al_n)))
    (sd_cons (sd_drop (pd_call h_require_rows (hr.mono (by decide)) hgu (by rfl) (pa_c (pd_var 0 (pv 0)) (pa_c (pd_var 1 (pv 1)) pa_n)) (al_c (al_c al_n))))
    (sd_one (sd_ret (pd_call h_lot_in (hr.mono (by decide)) hgu (by rfl) (pa_c (pd_var 1 (pv 1)) pa_n) (al_c al_n))))))
theorem sc_L_dice : FnScope ["script", "spot", "cell", "great", "seed"] ["script", "spot"] (defScope (top 45)) := ⟨rfl, rfl, rfl, by decide +kernel, rfl, by decide +kernel, by decide +kernel⟩
theorem ok_L_dice {f : Addr} {fd : FuncData} (T : Glb mg) (TX : Glx P K mg) (F : Fun K "_law_dice" "_law_dice" (top 45) f fd) (hm : mg "_law_dice" = some (.ref f)) (hb : Binds K fd ["script", "spot"] []) : FnD P w K mg base "_law_dice" 1 2 F_L_dice := by
  refine fnD (k := 0) F hm hb sc_L_dice F_L_dice fun cdv A outer s H E hr hgu ds μ hl hG => ⟨b_L_dice, ?_, rfl⟩
  have hu := room_u hr
  exact (sd_cons (sd_asg (fun te h => ps_set (i := 2) sc_L_dice.nd rfl (by first | exact Or.inl rfl | exact Or.inr rfl) h) (pd_if (pt_cm c_lt (pd_var 1 (pv 1)) (pd_b bi_len (by rfl) T.b_len rfl (pa_c (pd_var 0 (pv 0)) pa_n))) (pd_ty bi_int (by rfl) T.b_int rfl (pa_c (pd_ix (pd_var 0 (pv 0)) (pd_var 1 (pv 1))) pa_n)) (pd_add (pd_mul pd_int (pd_var 1 (pv 1))) pd_int)))
    (sd_cons (sd_asg (fun te h => ps_set (i := 3) sc_L_dice.nd rfl (by first | exact Or.inl rfl | exact Or.inr rfl) h) (pd_mod (pd_ty bi_int (by rfl) T.b_int rfl (pa_c (pd_b bi_abs (by rfl) T.b_abs rfl (pa_c (pd_var 2 (pv 2)) pa_n)) pa_n)) (pd_pow (pd_pow pd_int pd_int) pd_int)))
    (sd_cons (sd_asg (fun te h => ps_set (i := 4) sc_L_dice.nd rfl (by first | exact Or.inl rfl | exact Or.inr rfl) h) (pd_add (pd_add (pd_add (pd_mul (pd_mod (pd_var 3 (pv 3)) pd_int) pd_int) (pd_mul pd_int (pd_var 1 (pv 1)))) (pd_mul pd_int (pd_ty bi_int (by rfl) T.b_int rfl (pa_c (pd_cm c_lt (pd_var 2 (pv 2)) pd_int) pa_n)))) pd_int))
    (sd_one (sd_retF (pf_lst (pa_c (pd_b (bi_max2 rfl) (by rfl) T.b_max rfl (pa_c pd_int (pa_c (pd_sub (pd_var 3 (pv 3)) (pd_pow pd_int pd_int)) pa_n))) (pa_c (pd_var 4 (pv 4)) (pa_c pd_int pa_n)))))))))
theorem sc_L_met : FnScope ["call", "error"] ["call"] (defScope (top 48)) := ⟨rfl, rfl, rfl, by decide +kernel, rfl, by decide +kernel, by decide +kernel⟩
theorem ok_L_met {f : Addr} {fd : FuncData} (T : Glb mg) (TX : Glx P K mg) (F : Fun K "_law_met" "_law_met" (top 48) f fd) (hm : mg "_law_met" = some (.ref f)) (hb : Binds K fd ["call"] []) : MetD P w K mg base "_law_met" "call" "fine" cl_L_met := by
  refine metD_of F hm hb sc_L_met rfl (Or.inl rfl) fun X q cdv e1 e2 e3 e4 e5 hgu hr => ?_
  subst e1 e2 e3 e4 e5
  exact met_gives (fun _ => rfl) (fun s H => (MetC.rep TX.x_InvalidCount.ex.choose_spec.1 rfl (by decide) sc_L_met.nd (i := 1) rfl rfl (Or.inl rfl) (by decide) (by decide) TX.x_InvalidCount.ex.choose_spec.2.1 TX.x_InvalidCount.ex.choose_spec.2.2 rfl T.b_repr hgu (room_u (hr.deeper _)) (fun e he => by subst he; rfl) (by rfl) (MetC.cst TX.m_InvalidRow.choose_spec rfl (by decide) (MetC.cst TX.m_InvalidLot.choose_spec rfl (by decide) (MetC.cst TX.m_InvalidOperation.choose_spec rfl (by decide) MetC.nil)))))
theorem sc_is_row : FnScope ["width", "value"] ["width", "value"] (defScope (top 26)) := ⟨rfl, rfl, rfl, by decide +kernel, rfl, by decide +kernel, by decide +kernel⟩
theorem ok_is_row {f : Addr} {fd : FuncData} (T : Glb mg) (TX : Glx P K mg) (F : Fun K "is_row" "is_row" (top 26) f fd) (hm : mg "is_row" = some (.ref f)) (hb : Binds K fd ["width", "value"] []) (h_require_width : FnD P w K mg base "require_width" 5 1 F_require_width) (h_is_plain_row : FnD P w K mg base "is_plain_row" 2 2 F_is_plain_row) : FnD P w K mg base "is_row" 6 2 F_is_row := by
  refine fnD (k := 5) F hm hb sc_is_row F_is_row fun cdv A outer s H E hr hgu ds μ hl hG => ⟨b_is_row, ?_, rfl⟩
  have hu := room_u hr
  exact (sd_cons (sd_drop (pd_call h_require_width (hr.mono (by decide)) hgu (by rfl) (pa_c (pd_var 0 (pv 0)) pa_n) (al_c al_n)))
    (sd_one (sd_ret (pd_call h_is_plain_row (hr.mono (by decide)) hgu (by rfl) (pa_c (pd_var 0 (pv 0)) (pa_c (pd_var 1 (pv 1)) pa_n)) (al_c (al_c al_n))))))
theorem sc_is_plain_lot : FnScope ["width", "value", "row", "ahead", "place", "index", "at", "other"] ["width", "value"] (defScope (top 16)) := ⟨rfl, rfl, rfl, by decide +kernel, rfl, by decide +kernel, by decide +kernel⟩
theorem ok_is_plain_lot {f : Addr} {fd : FuncData} (T : Glb mg) (TX : Glx P K mg) (F : Fun K "is_plain_lot" "is_plain_lot" (top 16) f fd) (hm : mg "is_plain_lot" = some (.ref f)) (hb : Binds K fd ["width", "value"] []) (h_is_plain_row : FnD P w K mg base "is_plain_row" 2 2 F_is_plain_row) (h_lead_in : FnD P w K mg base "lead_in" 1 1 F_lead_in) (h_lowest_row : FnD P w K mg base "lowest_row" 2 1 F_lowest_row) : FnD P w K mg base "is_plain_lot" 3 2 F_is_plain_lot := by
  refine fnD (k := 2) F hm hb sc_is_plain_lot F_is_plain_lot fun cdv A outer s H E hr hgu ds μ hl hG => ⟨b_is_plain_lot, ?_, rfl⟩
  have hu := room_u hr
  exact (sd_cons (sd_if (PWD.pt (pw_o (pt_nt (pt_tr (pd_b bi_isi (by rfl) T.b_isinstance rfl (pa_c (pd_var 1 (pv 1)) (pa_c (pd_bltT (by rfl) T.b_tuple rfl) pa_n))))) (pw_o1 (pt_nt (pt_tr (pd_b (bi_all rfl) (by rfl) T.b_all rfl (pa_c (pd_f (pf_lc (own := [("row", 2)]) rfl sc_is_plain_lot.nd (by kernel_rfl) (id_seq (pd_var 1 (pv 1))) (fun b => (gd_name (pg_name (i := 2) sc_is_plain_lot.nd rfl (by first | exact Or.inl rfl | exact Or.inr rfl)))) (fun b => td_nil) (fun b => (pd_call h_is_plain_row (hr.mono (by decide)) hgu (by rfl) (pa_c (pd_var 0 (pv 0)) (pa_c (pd_var 2 (pv 2)) pa_n)) (al_c (al_c al_n)))))) pa_n))))))) (sd_one (sd_ret pd_bl)) sd_nil)
    (sd_cons (sd_asg (fun te h => ps_set (i := 3) sc_is_plain_lot.nd rfl (by first | exact Or.inl rfl | exact Or.inr rfl) h) (pd_neg pd_int))
    (sd_cons (sd_for (passes_of rfl) rfl (id_en (pa_c (pd_var 1 (pv 1)) pa_n) (by rfl) T.b_enumerate) (gd_tup rfl (gd_cons (gd_name (pg_name (i := 4) sc_is_plain_lot.nd rfl (by first | exact Or.inl rfl | exact Or.inr rfl))) (gd_cons (gd_name (pg_name (i := 2) sc_is_plain_lot.nd rfl (by first | exact Or.inl rfl | exact Or.inr rfl))) gd_nil))) (sd_cons (sd_asg (fun te h => ps_set (i := 5) sc_is_plain_lot.nd rfl (by first | exact Or.inl rfl | exact Or.inr rfl) h) (pd_call h_lead_in (hr.mono (by decide)) hgu (by rfl) (pa_c (pd_var 2 (pv 2)) pa_n) (al_c al_n)))
    (sd_cons (sd_if (PWD.pt (pw_o (pt_cm c_is (pd_var 5 (pv 5)) pd_non) (pw_o (pt_cm c_le (pd_var 5 (pv 5)) (pd_var 3 (pv 3))) (pw_o1 (pt_cm (c_neS hu) (pd_call h_lowest_row (hr.mono (by decide)) hgu (by rfl) (pa_c (pd_var 2 (pv 2)) pa_n) (al_c al_n)) (pd_var 2 (pv 2))))))) (sd_one (sd_ret pd_bl)) sd_nil)
    (sd_cons (sd_if (pt_tr (pd_b (bi_any rfl) (by rfl) T.b_any rfl (pa_c (pd_f (pf_lc (own := [("at", 6), ("other", 7)]) rfl sc_is_plain_lot.nd (by kernel_rfl) (id_en (pa_c (pd_var 1 (pv 1)) pa_n) (by rfl) T.b_enumerate) (fun b => (gd_tup rfl (gd_cons (gd_name (pg_name (i := 6) sc_is_plain_lot.nd rfl (by first | exact Or.inl rfl | exact Or.inr rfl))) (gd_cons (gd_name (pg_name (i := 7) sc_is_plain_lot.nd rfl (by first | exact Or.inl rfl | exact Or.inr rfl))) gd_nil)))) (fun b => (td_one (pt_cm (c_neS hu) (pd_var 6 (pv 6)) (pd_var 4 (pv 4))))) (fun b => (pd_cm (c_neS hu) (pd_ix (pd_var 7 (pv 7)) (pd_var 5 (pv 5))) pd_int)))) pa_n))) (sd_one (sd_ret pd_bl)) sd_nil)
    (sd_one (sd_asg (fun te h => ps_set (i := 3) sc_is_plain_lot.nd rfl (by first | exact Or.inl rfl | exact Or.inr rfl) h) (pd_var 5 (pv 5))))))))
    (sd_one (sd_ret pd_bl)))))
theorem sc_is_lot : FnScope ["width", "value"] ["width", "value"] (defScope (top 27)) := ⟨rfl, rfl, rfl, by decide +kernel, rfl, by decide +kernel, by decide +kernel⟩
theorem ok_is_lot {f : Addr} {fd : FuncData} (T : Glb mg) (TX : Glx P K mg) (F : Fun K "is_lot" "is_lot" (top 27) f fd) (hm : mg "is_lot" = some (.ref f)) (hb : Binds K fd ["width", "value"] []) (h_require_width : FnD P w K mg base "require_width" 5 1 F_require_width) (h_is_plain_lot : FnD P w K mg base "is_plain_lot" 3 2 F_is_plain_lot) : FnD P w K mg base "is_lot" 6 2 F_is_lot := by
  refine fnD (k := 5) F hm hb sc_is_lot F_is_lot fun cdv A outer s H E hr hgu ds μ hl hG => ⟨b_is_lot, ?_, rfl⟩
  have hu := room_u hr
  exact (sd_cons (sd_drop (pd_call h_require_width (hr.mono (by decide)) hgu (by rfl) (pa_c (pd_var 0 (pv 0)) pa_n) (al_c al_n)))
    (sd_one (sd_ret (pd_call h_is_plain_lot (hr.mono (by decide)) hgu (by rfl) (pa_c (pd_var 0 (pv 0)) (pa_c (pd_var 1 (pv 1)) pa_n)) (al_c (al_c al_n))))))
theorem sc_sum_of_rows : FnScope ["one", "other", "left", "right"] ["one", "other"] (defScope (top 18)) := ⟨rfl, rfl, rfl, by decide +kernel, rfl, by decide +kernel, by decide +kernel⟩
theorem ok_sum_of_rows {f : Addr} {fd : FuncData} (T : Glb mg) (TX : Glx P K mg) (F : Fun K "sum_of_rows" "sum_of_rows" (top 18) f fd) (hm : mg "sum_of_rows" = some (.ref f)) (hb : Binds K fd ["one", "other"] []) : FnD P w K mg base "sum_of_rows" 1 2 F_sum_of_rows := by
  refine fnD (k := 0) F hm hb sc_sum_of_rows F_sum_of_rows fun cdv A outer s H E hr hgu ds μ hl hG => ⟨b_sum_of_rows, ?_, rfl⟩
  have hu := room_u hr
  exact (sd_one (sd_ret (pd_ty bi_tuple (by rfl) T.b_tuple rfl (pa_c (pd_f (pf_lc (own := [("left", 2), ("right", 3)]) rfl sc_sum_of_rows.nd (by kernel_rfl) (id_zp (pa_c (pd_var 0 (pv 0)) (pa_c (pd_var 1 (pv 1)) pa_n)) (by rfl) T.b_zip) (fun b => (gd_tup rfl (gd_cons (gd_name (pg_name (i := 2) sc_sum_of_rows.nd rfl (by first | exact Or.inl rfl | exact Or.inr rfl))) (gd_cons (gd_name (pg_name (i := 3) sc_sum_of_rows.nd rfl (by first | exact Or.inl rfl | exact Or.inr rfl))) gd_nil)))) (fun b => td_nil) (fun b => (pd_add (pd_var 2 (pv 2)) (pd_var 3 (pv 3)))))) pa_n))))
theorem sc_row_plus : FnScope ["width", "one", "other"] ["width", "one", "other"] (defScope (top 31)) := ⟨rfl, rfl, rfl, by decide +kernel, rfl, by decide +kernel, by decide +kernel⟩
theorem ok_row_plus {f : Addr} {fd : FuncData} (T : Glb mg) (TX : Glx P K mg) (F : Fun K "row_plus" "row_plus" (top 31) f fd) (hm : mg "row_plus" = some (.ref f)) (hb : Binds K fd ["width", "one", "other"] []) (h_require_width : FnD P w K mg base "require_width" 5 1 F_require_width) (h_sum_of_rows : FnD P w K mg base "sum_of_rows" 1 2 F_sum_of_rows) (h_require_row : FnD P w K mg base "require_row" 3 2 F_require_row) : FnD P w K mg base "row_plus" 6 3 F_row_plus := by
  refine fnD (k := 5) F hm hb sc_row_plus F_row_plus fun cdv A outer s H E hr hgu ds μ hl hG => ⟨b_row_plus, ?_, rfl⟩
  have hu := room_u hr
  exact (sd_cons (sd_drop (pd_call h_require_width (hr.mono (by decide)) hgu (by rfl) (pa_c (pd_var 0 (pv 0)) pa_n) (al_c al_n)))
    (sd_cons (sd_drop (pd_call h_require_row (hr.mono (by decide)) hgu (by rfl) (pa_c (pd_var 0 (pv 0)) (pa_c (pd_var 1 (pv 1)) pa_n)) (al_c (al_c al_n))))
    (sd_cons (sd_drop (pd_call h_require_row (hr.mono (by decide)) hgu (by rfl) (pa_c (pd_var 0 (pv 0)) (pa_c (pd_var 2 (pv 2)) pa_n)) (al_c (al_c al_n))))
    (sd_one (sd_ret (pd_call h_sum_of_rows (hr.mono (by decide)) hgu (by rfl) (pa_c (pd_var 1 (pv 1)) (pa_c (pd_var 2 (pv 2)) pa_n)) (al_c (al_c al_n))))))))
theorem sc_times_row : FnScope ["number", "row", "one"] ["number", "row"] (defScope (top 19)) := ⟨rfl, rfl, rfl, by decide +kernel, rfl, by decide +kernel, by decide +kernel⟩
theorem ok_times_row {f : Addr} {fd : FuncData} (T : Glb mg) (TX : Glx P K mg) (F : Fun K "times_row" "times_row" (top 19) f fd) (hm : mg "times_row" = some (.ref f)) (hb : Binds K fd ["number", "row"] []) : FnD P w K mg base "times_row" 1 2 F_times_row := by
  refine fnD (k := 0) F hm hb sc_times_row F_times_row fun cdv A outer s H E hr hgu ds μ hl hG => ⟨b_times_row, ?_, rfl⟩
  have hu := room_u hr
  exact (sd_one (sd_ret (pd_ty bi_tuple (by rfl) T.b_tuple rfl (pa_c (pd_f (pf_lc (own := [("one", 2)]) rfl sc_times_row.nd (by kernel_rfl) (id_seq (pd_var 1 (pv 1))) (fun b => (gd_name (pg_name (i := 2) sc_times_row.nd rfl (by first | exact Or.inl rfl | exact Or.inr rfl)))) (fun b => td_nil) (fun b => (pd_mul (pd_var 0 (pv 0)) (pd_var 2 (pv 2)))))) pa_n))))
theorem sc_row_times : FnScope ["width", "number", "row"] ["width", "number", "row"] (defScope (top 32)) := ⟨rfl, rfl, rfl, by decide +kernel, rfl, by decide +kernel, by decide +kernel⟩
theorem ok_row_times {f : Addr} {fd : FuncData} (T : Glb mg) (TX : Glx P K mg) (F : Fun K "row_times" "row_times" (top 32) f fd) (hm : mg "row_times" = some (.ref f)) (hb : Binds K fd ["width", "number", "row"] []) (h_is_integer : FnD P w K mg base "is_integer" 1 1 F_is_integer) (h_require_width : FnD P w K mg base "require_width" 5 1 F_require_width) (h_times_row : FnD P w K mg base "times_row" 1 2 F_times_row) (h_require_row : FnD P w K mg base "require_row" 3 2 F_require_row) : FnD P w K mg base "row_times" 6 3 F_row_times := by
  refine fnD (k := 5) F hm hb sc_row_times F_row_times fun cdv A outer s H E hr hgu ds μ hl hG => ⟨b_row_times, ?_, rfl⟩
  have hu := room_u hr
  exact (sd_cons (sd_drop (pd_call h_require_width (hr.mono (by decide)) hgu (by rfl) (pa_c (pd_var 0 (pv 0)) pa_n) (al_c al_n)))
    (sd_cons (sd_if (pt_nt (pt_tr (pd_call h_is_integer (hr.mono (by decide)) hgu (by rfl) (pa_c (pd_var 1 (pv 1)) pa_n) (al_c al_n)))) (sd_one (sd_erT TX.t_InvalidOperation TX.hmg)) sd_nil)
    (sd_cons (sd_drop (pd_call h_require_row (hr.mono (by decide)) hgu (by rfl) (pa_c (pd_var 0 (pv 0)) (pa_c (pd_var 2 (pv 2)) pa_n)) (al_c (al_c al_n))))
    (sd_one (sd_ret (pd_call h_times_row (hr.mono (by decide)) hgu (by rfl) (pa_c (pd_var 1 (pv 1)) (pa_c (pd_var 2 (pv 2)) pa_n)) (al_c (al_c al_n))))))))
theorem sc_dot : FnScope ["one", "other", "left", "right"] ["one", "other"] (defScope (top 17)) := ⟨rfl, rfl, rfl, by decide +kernel, rfl, by decide +kernel, by decide +kernel⟩
theorem ok_dot {f : Addr} {fd : FuncData} (T : Glb mg) (TX : Glx P K mg) (F : Fun K "dot" "dot" (top 17) f fd) (hm : mg "dot" = some (.ref f)) (hb : Binds K fd ["one", "other"] []) : FnD P w K mg base "dot" 1 2 F_dot := by
  refine fnD (k := 0) F hm hb sc_dot F_dot fun cdv A outer s H E hr hgu ds μ hl hG => ⟨b_dot, ?_, rfl⟩
  have hu := room_u hr
  exact (sd_one (sd_ret (pd_b (bi_sum rfl) (by rfl) T.b_sum rfl (pa_c (pd_f (pf_lc (own := [("left", 2), ("right", 3)]) rfl sc_dot.nd (by kernel_rfl) (id_zp (pa_c (pd_var 0 (pv 0)) (pa_c (pd_var 1 (pv 1)) pa_n)) (by rfl) T.b_zip) (fun b => (gd_tup rfl (gd_cons (gd_name (pg_name (i := 2) sc_dot.nd rfl (by first | exact Or.inl rfl | exact Or.inr rfl))) (gd_cons (gd_name (pg_name (i := 3) sc_dot.nd rfl (by first | exact Or.inl rfl | exact Or.inr rfl))) gd_nil)))) (fun b => td_nil) (fun b => (pd_mul (pd_var 2 (pv 2)) (pd_var 3 (pv 3)))))) pa_n))))
theorem sc_product : FnScope ["width", "one", "other"] ["width", "one", "other"] (defScope (top 33)) := ⟨rfl, rfl, rfl, by decide +kernel, rfl, by decide +kernel, by decide +kernel⟩
theorem ok_product {f : Addr} {fd : FuncData} (T : Glb mg) (TX : Glx P K mg) (F : Fun K "product" "product" (top 33) f fd) (hm : mg "product" = some (.ref f)) (hb : Binds K fd ["width", "one", "other"] []) (h_require_width : FnD P w K mg base "require_width" 5 1 F_require_width) (h_dot : FnD P w K mg base "dot" 1 2 F_dot) (h_require_row : FnD P w K mg base "require_row" 3 2 F_require_row) : FnD P w K mg base "product" 6 3 F_product := by
  refine fnD (k := 5) F hm hb sc_product F_product fun cdv A outer s H E hr hgu ds μ hl hG => ⟨b_product, ?_, rfl⟩
  have hu := room_u hr
  exact (sd_cons (sd_drop (pd_call h_require_width (hr.mono (by decide)) hgu (by rfl) (pa_c (pd_var 0 (pv 0)) pa_n) (al_c al_n)))
    (sd_cons (sd_drop (pd_call h_require_row (hr.mono (by decide)) hgu (by rfl) (pa_c (pd_var 0 (pv 0)) (pa_c (pd_var 1 (pv 1)) pa_n)) (al_c (al_c al_n))))
    (sd_cons (sd_drop (pd_call h_require_row (hr.mono (by decide)) hgu (by rfl) (pa_c (pd_var 0 (pv 0)) (pa_c (pd_var 2 (pv 2)) pa_n)) (al_c (al_c al_n))))
    (sd_one (sd_ret (pd_call h_dot (hr.mono (by decide)) hgu (by rfl) (pa_c (pd_var 1 (pv 1)) (pa_c (pd_var 2 (pv 2)) pa_n)) (al_c (al_c al_n))))))))
theorem sc_does_hold : FnScope ["lot", "row"] ["lot", "row"] (defScope (top 22)) := ⟨rfl, rfl, rfl, by decide +kernel, rfl, by decide +kernel, by decide +kernel⟩
theorem ok_does_hold {f : Addr} {fd : FuncData} (T : Glb mg) (TX : Glx P K mg) (F : Fun K "does_hold" "does_hold" (top 22) f fd) (hm : mg "does_hold" = some (.ref f)) (hb : Binds K fd ["lot", "row"] []) (h_lead_in : FnD P w K mg base "lead_in" 1 1 F_lead_in) (h_rest_by : FnD P w K mg base "rest_by" 3 2 F_rest_by) : FnD P w K mg base "does_hold" 4 2 F_does_hold := by
  refine fnD (k := 3) F hm hb sc_does_hold F_does_hold fun cdv A outer s H E hr hgu ds μ hl hG => ⟨b_does_hold, ?_, rfl⟩
  have hu := room_u hr
  exact (sd_one (sd_ret (pd_cm c_is (pd_call h_lead_in (hr.mono (by decide)) hgu (by rfl) (pa_c (pd_call h_rest_by (hr.mono (by decide)) hgu (by rfl) (pa_c (pd_var 0 (pv 0)) (pa_c (pd_var 1 (pv 1)) pa_n)) (al_c (al_c al_n))) pa_n) (al_c al_n)) pd_non)))
theorem sc_require_lot : FnScope ["width", "lot"] ["width", "lot"] (defScope (top 30)) := ⟨rfl, rfl, rfl, by decide +kernel, rfl, by decide +kernel, by decide +kernel⟩
theorem ok_require_lot {f : Addr} {fd : FuncData} (T : Glb mg) (TX : Glx P K mg) (F : Fun K "require_lot" "require_lot" (top 30) f fd) (hm : mg "require_lot" = some (.ref f)) (hb : Binds K fd ["width", "lot"] []) (h_is_plain_lot : FnD P w K mg base "is_plain_lot" 3 2 F_is_plain_lot) : FnD P w K mg base "require_lot" 4 2 F_require_lot := by
  refine fnD (k := 3) F hm hb sc_require_lot F_require_lot fun cdv A outer s H E hr hgu ds μ hl hG => ⟨b_require_lot, ?_, rfl⟩
  have hu := room_u hr
  exact (sd_one (sd_if (pt_nt (pt_tr (pd_call h_is_plain_lot (hr.mono (by decide)) hgu (by rfl) (pa_c (pd_var 0 (pv 0)) (pa_c (pd_var 1 (pv 1)) pa_n)) (al_c (al_c al_n))))) (sd_one (sd_erT TX.t_InvalidLot TX.hmg)) sd_nil))
theorem sc_holds : FnScope ["width", "lot", "row"] ["width", "lot", "row"] (defScope (top 36)) := ⟨rfl, rfl, rfl, by decide +kernel, rfl, by decide +kernel, by decide +kernel⟩
theorem ok_holds {f : Addr} {fd : FuncData} (T : Glb mg) (TX : Glx P K mg) (F : Fun K "holds" "holds" (top 36) f fd) (hm : mg "holds" = some (.ref f)) (hb : Binds K fd ["width", "lot", "row"] []) (h_require_width : FnD P w K mg base "require_width" 5 1 F_require_width) (h_does_hold : FnD P w K mg base "does_hold" 4 2 F_does_hold) (h_require_row : FnD P w K mg base "require_row" 3 2 F_require_row) (h_require_lot : FnD P w K mg base "require_lot" 4 2 F_require_lot) : FnD P w K mg base "holds" 6 3 F_holds := by
  refine fnD (k := 5) F hm hb sc_holds F_holds fun cdv A outer s H E hr hgu ds μ hl hG => ⟨b_holds, ?_, rfl⟩
  have hu := room_u hr
  exact (sd_cons (sd_drop (pd_call h_require_width (hr.mono (by decide)) hgu (by rfl) (pa_c (pd_var 0 (pv 0)) pa_n) (al_c al_n)))
    (sd_cons (sd_drop (pd_call h_require_lot (hr.mono (by decide)) hgu (by rfl) (pa_c (pd_var 0 (pv 0)) (pa_c (pd_var 1 (pv 1)) pa_n)) (al_c (al_c al_n))))
    (sd_cons (sd_drop (pd_call h_require_row (hr.mono (by decide)) hgu (by rfl) (pa_c (pd_var 0 (pv 0)) (pa_c (pd_var 2 (pv 2)) pa_n)) (al_c (al_c al_n))))
    (sd_one (sd_ret (pd_call h_does_hold (hr.mono (by decide)) hgu (by rfl) (pa_c (pd_var 1 (pv 1)) (pa_c (pd_var 2 (pv 2)) pa_n)) (al_c (al_c al_n))))))))
theorem sc_require_two_lots : FnScope ["width", "lot", "other"] ["width", "lot", "other"] (defScope (top 37)) := ⟨rfl, rfl, rfl, by decide +kernel, rfl, by decide +kernel, by decide +kernel⟩
theorem ok_require_two_lots {f : Addr} {fd : FuncData} (T : Glb mg) (TX : Glx P K mg) (F : Fun K "require_two_lots" "require_two_lots" (top 37) f fd) (hm : mg "require_two_lots" = some (.ref f)) (hb : Binds K fd ["width", "lot", "other"] []) (h_require_width : FnD P w K mg base "require_width" 5 1 F_require_width) (h_require_lot : FnD P w K mg base "require_lot" 4 2 F_require_lot) : FnD P w K mg base "require_two_lots" 6 3 F_require_two_lots := by
  refine fnD (k := 5) F hm hb sc_require_two_lots F_require_two_lots fun cdv A outer s H E hr hgu ds μ hl hG => ⟨b_require_two_lots, ?_, rfl⟩
  have hu := room_u hr
  exact (sd_cons (sd_drop (pd_call h_require_width (hr.mono (by decide)) hgu (by rfl) (pa_c (pd_var 0 (pv 0)) pa_n) (al_c al_n)))
    (sd_cons (sd_drop (pd_call h_require_lot (hr.mono (by decide)) hgu (by rfl) (pa_c (pd_var 0 (pv 0)) (pa_c (pd_var 1 (pv 1)) pa_n)) (al_c (al_c al_n))))
    (sd_one (sd_drop (pd_call h_require_lot (hr.mono (by decide)) hgu (by rfl) (pa_c (pd_var 0 (pv 0)) (pa_c (pd_var 2 (pv 2)) pa_n)) (al_c (al_c al_n)))))))
theorem sc_joined_lots : FnScope ["width", "lot", "other"] ["width", "lot", "other"] (defScope (top 38)) := ⟨rfl, rfl, rfl, by decide +kernel, rfl, by decide +kernel, by decide +kernel⟩
theorem ok_joined_lots {f : Addr} {fd : FuncData} (T : Glb mg) (TX : Glx P K mg) (F : Fun K "joined_lots" "joined_lots" (top 38) f fd) (hm : mg "joined_lots" = some (.ref f)) (hb : Binds K fd ["width", "lot", "other"] []) (h_lot_in : FnD P w K mg base "lot_in" 5 1 F_lot_in) (h_require_two_lots : FnD P w K mg base "require_two_lots" 6 3 F_require_two_lots) : FnD P w K mg base "joined_lots" 7 3 F_joined_lots := by
  refine fnD (k := 6) F hm hb sc_joined_lots F_joined_lots fun cdv A outer s H E hr hgu ds μ hl hG => ⟨b_joined_lots, ?_, rfl⟩
  have hu := room_u hr
  exact (sd_cons (sd_drop (pd_call h_require_two_lots (hr.mono (by decide)) hgu (by rfl) (pa_c (pd_var 0 (pv 0)) (pa_c (pd_var 1 (pv 1)) (pa_c (pd_var 2 (pv 2)) pa_n))) (al_c (al_c (al_c al_n)))))
    (sd_one (sd_ret (pd_call h_lot_in (hr.mono (by decide)) hgu (by rfl) (pa_c (pd_add (pd_var 1 (pv 1)) (pd_var 2 (pv 2))) pa_n) (al_c al_n)))))
theorem sc_apart_in : FnScope ["width", "lot", "row", "leads", "share", "found", "lead", "index", "line"] ["width", "lot"] (defScope (top 25)) := ⟨rfl, rfl, rfl, by decide +kernel, rfl, by decide +kernel, by decide +kernel⟩
theorem ok_apart_in {f : Addr} {fd : FuncData} (T : Glb mg) (TX : Glx P K mg) (F : Fun K "apart_in" "apart_in" (top 25) f fd) (hm : mg "apart_in" = some (.ref f)) (hb : Binds K fd ["width", "lot"] []) (h_lead_in : FnD P w K mg base "lead_in" 1 1 F_lead_in) (h_lot_in : FnD P w K mg base "lot_in" 5 1 F_lot_in) : FnD P w K mg base "apart_in" 6 2 F_apart_in := by
  refine fnD (k := 5) F hm hb sc_apart_in F_apart_in fun cdv A outer s H E hr hgu ds μ hl hG => ⟨b_apart_in, ?_, rfl⟩
  have hu := room_u hr
  exact (sd_cons (sd_parM3 (fun ta h => ps_par3 (i := 3) (j := 4) (l := 5) rfl sc_apart_in.nd rfl rfl rfl (by decide) (by decide) (by decide) rfl rfl rfl h (by rfl)) (pm_v (pd_f (pf_lc (own := [("row", 2)]) rfl sc_apart_in.nd (by kernel_rfl) (id_seq (pd_var 1 (pv 1))) (fun b => (gd_name (pg_name (i := 2) sc_apart_in.nd rfl (by first | exact Or.inl rfl | exact Or.inr rfl)))) (fun b => td_nil) (fun b => (pd_call h_lead_in (hr.mono (by decide)) hgu (by rfl) (pa_c (pd_var 2 (pv 2)) pa_n) (al_c al_n))))) (pm_v pd_int (pm_c (pf_lst pa_n) pm_n))))
    (sd_cons (sd_for (passes_of rfl) rfl (id_zp (pa_c (pd_var 3 (pv 3)) (pa_c (pd_var 1 (pv 1)) pa_n)) (by rfl) T.b_zip) (gd_tup rfl (gd_cons (gd_name (pg_name (i := 6) sc_apart_in.nd rfl (by first | exact Or.inl rfl | exact Or.inr rfl))) (gd_cons (gd_name (pg_name (i := 2) sc_apart_in.nd rfl (by first | exact Or.inl rfl | exact Or.inr rfl))) gd_nil))) (sd_one (sd_asg (fun te h => ps_set (i := 4) sc_apart_in.nd rfl (by first | exact Or.inl rfl | exact Or.inr rfl) h) (pd_mul (pd_var 4 (pv 4)) (pd_ix (pd_var 2 (pv 2)) (pd_var 6 (pv 6)))))))
    (sd_cons (sd_frz 5 (sd_for (passes_of rfl) rfl (id_rng1 (by rfl) T.b_range (pa_c (pd_var 0 (pv 0)) pa_n)) (gd_name (pg_name (i := 7) sc_apart_in.nd rfl (by first | exact Or.inl rfl | exact Or.inr rfl))) (sd_one (sd_if (pt_cm (c_ni hu) (pd_var 7 (pv 7)) (pd_var 3 (pv 3))) (sd_cons (sd_asgO (fun te h => ps_set (i := 8) sc_apart_in.nd rfl (by first | exact Or.inl rfl | exact Or.inr rfl) h) (pf_rep (pf_lst (pa_c pd_int pa_n)) (pd_var 0 (pv 0))))
    (sd_cons (sd_setI (fun te t h g => ps_asg h g) set_list ss_list (pd_var 4 (pv 4)) (pd_var 8 (pv 8)) (pd_var 7 (pv 7)))
    (sd_cons (sd_for (passes_of rfl) rfl (id_zp (pa_c (pd_var 3 (pv 3)) (pa_c (pd_var 1 (pv 1)) pa_n)) (by rfl) T.b_zip) (gd_tup rfl (gd_cons (gd_name (pg_name (i := 6) sc_apart_in.nd rfl (by first | exact Or.inl rfl | exact Or.inr rfl))) (gd_cons (gd_name (pg_name (i := 2) sc_apart_in.nd rfl (by first | exact Or.inl rfl | exact Or.inr rfl))) gd_nil))) (sd_one (sd_setI (fun te t h g => ps_asg h g) set_list ss_list (pd_sub pd_int (pd_mul (pd_ix (pd_var 2 (pv 2)) (pd_var 7 (pv 7))) (pd_fdiv (pd_var 4 (pv 4)) (pd_ix (pd_var 2 (pv 2)) (pd_var 6 (pv 6)))))) (pd_var 8 (pv 8)) (pd_var 6 (pv 6)))))
    (sd_one (sd_drop (pd_append (pd_var 5 (pv 5)) (pa_c (pd_ty bi_tuple (by rfl) T.b_tuple rfl (pa_c (pd_var 8 (pv 8)) pa_n)) pa_n))))))) sd_nil))))
    (sd_one (sd_ret (pd_call h_lot_in (hr.mono (by decide)) hgu (by rfl) (pa_c (pd_var 5 (pv 5)) pa_n) (al_c al_n)))))))
theorem sc_met_lots : FnScope ["width", "lot", "other"] ["width", "lot", "other"] (defScope (top 39)) := ⟨rfl, rfl, rfl, by decide +kernel, rfl, by decide +kernel, by decide +kernel⟩
theorem ok_met_lots {f : Addr} {fd : FuncData} (T : Glb mg) (TX : Glx P K mg) (F : Fun K "met_lots" "met_lots" (top 39) f fd) (hm : mg "met_lots" = some (.ref f)) (hb : Binds K fd ["width", "lot", "other"] []) (h_lot_in : FnD P w K mg base "lot_in" 5 1 F_lot_in) (h_apart_in : FnD P w K mg base "apart_in" 6 2 F_apart_in) (h_require_two_lots : FnD P w K mg base "require_two_lots" 6 3 F_require_two_lots) : FnD P w K mg base "met_lots" 7 3 F_met_lots := by
  refine fnD (k := 6) F hm hb sc_met_lots F_met_lots fun cdv A outer s H E hr hgu ds μ hl hG => ⟨b_met_lots, ?_, rfl⟩
  have hu := room_u hr
  exact (sd_cons (sd_drop (pd_call h_require_two_lots (hr.mono (by decide)) hgu (by rfl) (pa_c (pd_var 0 (pv 0)) (pa_c (pd_var 1 (pv 1)) (pa_c (pd_var 2 (pv 2)) pa_n))) (al_c (al_c (al_c al_n)))))
    (sd_one (sd_ret (pd_call h_apart_in (hr.mono (by decide)) hgu (by rfl) (pa_c (pd_var 0 (pv 0)) (pa_c (pd_call h_lot_in (hr.mono (by decide)) hgu (by rfl) (pa_c (pd_add (pd_call h_apart_in (hr.mono (by decide)) hgu (by rfl) (pa_c (pd_var 0 (pv 0)) (pa_c (pd_var 1 (pv 1)) pa_n)) (al_c (al_c al_n))) (pd_call h_apart_in (hr.mono (by decide)) hgu (by rfl) (pa_c (pd_var 0 (pv 0)) (pa_c (pd_var 2 (pv 2)) pa_n)) (al_c (al_c al_n)))) pa_n) (al_c al_n)) pa_n)) (al_c (al_c al_n))))))
theorem sc_rows_apart : FnScope ["width", "lot"] ["width", "lot"] (defScope (top 40)) := ⟨rfl, rfl, rfl, by decide +kernel, rfl, by decide +kernel, by decide +kernel⟩
theorem ok_rows_apart {f : Addr} {fd : FuncData} (T : Glb mg) (TX : Glx P K mg) (F : Fun K "rows_apart" "rows_apart" (top 40) f fd) (hm : mg "rows_apart" = some (.ref f)) (hb : Binds K fd ["width", "lot"] []) (h_require_width : FnD P w K mg base "require_width" 5 1 F_require_width) (h_apart_in : FnD P w K mg base "apart_in" 6 2 F_apart_in) (h_require_lot : FnD P w K mg base "require_lot" 4 2 F_require_lot) : FnD P w K mg base "rows_apart" 7 2 F_rows_apart := by
  refine fnD (k := 6) F hm hb sc_rows_apart F_rows_apart fun cdv A outer s H E hr hgu ds μ hl hG => ⟨b_rows_apart, ?_, rfl⟩
  have hu := room_u hr
  exact (sd_cons (sd_drop (pd_call h_require_width (hr.mono (by decide)) hgu (by rfl) (pa_c (pd_var 0 (pv 0)) pa_n) (al_c al_n)))
    (sd_cons (sd_drop (pd_call h_require_lot (hr.mono (by decide)) hgu (by rfl) (pa_c (pd_var 0 (pv 0)) (pa_c (pd_var 1 (pv 1)) pa_n)) (al_c (al_c al_n))))
    (sd_one (sd_ret (pd_call h_apart_in (hr.mono (by decide)) hgu (by rfl) (pa_c (pd_var 0 (pv 0)) (pa_c (pd_var 1 (pv 1)) pa_n)) (al_c (al_c al_n)))))))
theorem sc_sum_in : FnScope ["width", "rows", "row", "many", "lot", "place", "line", "marks", "left", "told", "share", "number", "at"] ["width", "rows", "row"] (defScope (top 41)) := ⟨rfl, rfl, rfl, by decide +kernel, rfl, by decide +kernel, by decide +kernel⟩
theorem ok_sum_in {f : Addr} {fd : FuncData} (T : Glb mg) (TX : Glx P K mg) (F : Fun K "sum_in" "sum_in" (top 41) f fd) (hm : mg "sum_in" = some (.ref f)) (hb : Binds K fd ["width", "rows", "row"] []) (h_lead_in : FnD P w K mg base "lead_in" 1 1 F_lead_in) (h_common_share : FnD P w K mg base "common_share" 1 2 F_common_share) (h_lowest_row : FnD P w K mg base "lowest_row" 2 1 F_lowest_row) (h_rest_by : FnD P w K mg base "rest_by" 3 2 F_rest_by) : FnD P w K mg base "sum_in" 4 3 F_sum_in := by
  refine fnD (k := 3) F hm hb sc_sum_in F_sum_in fun cdv A outer s H E hr hgu ds μ hl hG => ⟨b_sum_in, ?_, rfl⟩
  have hu := room_u hr
  exact (sd_cons (sd_parM (fun ta h => ps_par (i := 3) (j := 4) rfl sc_sum_in.nd rfl rfl (by decide) rfl rfl h (by rfl)) (pm_v (pd_b bi_len (by rfl) T.b_len rfl (pa_c (pd_var 1 (pv 1)) pa_n)) (pm_c (pf_lst pa_n) pm_n)))
    (sd_cons (sd_frz 4 (sd_for (passes_of rfl) rfl (id_en (pa_c (pd_var 1 (pv 1)) pa_n) (by rfl) T.b_enumerate) (gd_tup rfl (gd_cons (gd_name (pg_name (i := 5) sc_sum_in.nd rfl (by first | exact Or.inl rfl | exact Or.inr rfl))) (gd_cons (gd_name (pg_name (i := 6) sc_sum_in.nd rfl (by first | exact Or.inl rfl | exact Or.inr rfl))) gd_nil))) (sd_cons (sd_asg (fun te h => ps_set (i := 7) sc_sum_in.nd rfl (by first | exact Or.inl rfl | exact Or.inr rfl) h) (pd_ty bi_tuple (by rfl) T.b_tuple rfl (pa_c (pd_f (pf_lc (own := [("at", 12)]) rfl sc_sum_in.nd (by kernel_rfl) (id_rng1 (by rfl) T.b_range (pa_c (pd_add (pd_var 3 (pv 3)) pd_int) pa_n)) (fun b => (gd_name (pg_name (i := 12) sc_sum_in.nd rfl (by first | exact Or.inl rfl | exact Or.inr rfl)))) (fun b => td_nil) (fun b => (pd_if (pt_cm (c_eqS hu) (pd_var 12 (pv 12)) (pd_var 5 (pv 5))) pd_int pd_int)))) pa_n)))
    (sd_cons (sd_asg (fun te h => ps_set (i := 8) sc_sum_in.nd rfl (by first | exact Or.inl rfl | exact Or.inr rfl) h) (pd_lend 4 (pd_call h_rest_by (hr.mono (by decide)) hgu (by rfl) (pa_c (pd_var 4 (pv 4)) (pa_c (pd_add (pd_var 6 (pv 6)) (pd_var 7 (pv 7))) pa_n)) (al_c (al_c al_n)))))
    (sd_one (sd_if (pt_cm c_isnot (pd_call h_lead_in (hr.mono (by decide)) hgu (by rfl) (pa_c (pd_sl (pd_var 8 (pv 8)) po_n (po_s (pd_var 0 (pv 0)))) pa_n) (al_c al_n)) pd_non) (sd_one (sd_drop (pd_append (pd_var 4 (pv 4)) (pa_c (pd_call h_lowest_row (hr.mono (by decide)) hgu (by rfl) (pa_c (pd_var 8 (pv 8)) pa_n) (al_c al_n)) pa_n)))) sd_nil))))))
    (sd_cons (sd_asg (fun te h => ps_set (i := 8) sc_sum_in.nd rfl (by first | exact Or.inl rfl | exact Or.inr rfl) h) (pd_call h_rest_by (hr.mono (by decide)) hgu (by rfl) (pa_c (pd_var 4 (pv 4)) (pa_c (pd_add (pd_add (pd_var 2 (pv 2)) (pd_mul (pd_tup (pa_c pd_int pa_n)) (pd_var 3 (pv 3)))) (pd_tup (pa_c pd_int pa_n))) pa_n)) (al_c (al_c al_n))))
    (sd_cons (sd_if (pt_cm c_isnot (pd_call h_lead_in (hr.mono (by decide)) hgu (by rfl) (pa_c (pd_sl (pd_var 8 (pv 8)) po_n (po_s (pd_var 0 (pv 0)))) pa_n) (al_c al_n)) pd_non) (sd_one (sd_ret pd_non)) sd_nil)
    (sd_cons (sd_asg (fun te h => ps_set (i := 9) sc_sum_in.nd rfl (by first | exact Or.inl rfl | exact Or.inr rfl) h) (pd_sl (pd_var 8 (pv 8)) (po_s (pd_var 0 (pv 0))) po_n))
    (sd_cons (sd_asg (fun te h => ps_set (i := 10) sc_sum_in.nd rfl (by first | exact Or.inl rfl | exact Or.inr rfl) h) pd_int)
    (sd_cons (sd_for (passes_of rfl) rfl (id_seq (pd_var 9 (pv 9))) (gd_name (pg_name (i := 11) sc_sum_in.nd rfl (by first | exact Or.inl rfl | exact Or.inr rfl))) (sd_one (sd_asg (fun te h => ps_set (i := 10) sc_sum_in.nd rfl (by first | exact Or.inl rfl | exact Or.inr rfl) h) (pd_call h_common_share (hr.mono (by decide)) hgu (by rfl) (pa_c (pd_var 10 (pv 10)) (pa_c (pd_var 11 (pv 11)) pa_n)) (al_c (al_c al_n))))))
    (sd_one (sd_ret (pd_tup (pa_c (pd_fdiv (pd_ix (pd_var 9 (pv 9)) (pd_neg pd_int)) (pd_var 10 (pv 10))) (pa_c (pd_ty bi_tuple (by rfl) T.b_tuple rfl (pa_c (pd_f (pf_lc (own := [("number", 11)]) rfl sc_sum_in.nd (by kernel_rfl) (id_seq (pd_sl (pd_var 9 (pv 9)) po_n (po_s (pd_neg pd_int)))) (fun b => (gd_name (pg_name (i := 11) sc_sum_in.nd rfl (by first | exact Or.inl rfl | exact Or.inr rfl)))) (fun b => td_nil) (fun b => (pd_sub pd_int (pd_fdiv (pd_var 11 (pv 11)) (pd_var 10 (pv 10))))))) pa_n)) pa_n))))))))))))
theorem sc_span_paper : FnScope ["width", "rows", "row", "found", "told", "one"] ["width", "rows", "row"] (defScope (top 42)) := ⟨rfl, rfl, rfl, by decide +kernel, rfl, by decide +kernel, by decide +kernel⟩
theorem ok_span_paper {f : Addr} {fd : FuncData} (T : Glb mg) (TX : Glx P K mg) (F : Fun K "span_paper" "span_paper" (top 42) f fd) (hm : mg "span_paper" = some (.ref f)) (hb : Binds K fd ["width", "rows", "row"] []) (h_require_width : FnD P w K mg base "require_width" 5 1 F_require_width) (h_dot : FnD P w K mg base "dot" 1 2 F_dot) (h_lot_in : FnD P w K mg base "lot_in" 5 1 F_lot_in) (h_apart_in : FnD P w K mg base "apart_in" 6 2 F_apart_in) (h_require_row : FnD P w K mg base "require_row" 3 2 F_require_row) (h_require_rows : FnD P w K mg base "require_rows" 3 2 F_require_rows) (h_sum_in : FnD P w K mg base "sum_in" 4 3 F_sum_in) : FnD P w K mg base "span_paper" 7 3 F_span_paper := by
  refine fnD (k := 6) F hm hb sc_span_paper F_span_paper fun cdv A outer s H E hr hgu ds μ hl hG => ⟨b_span_paper, ?_, rfl⟩
  have hu := room_u hr
  exact (sd_cons (sd_drop (pd_call h_require_width (hr.mono (by decide)) hgu (by rfl) (pa_c (pd_var 0 (pv 0)) pa_n) (al_c al_n)))
    (sd_cons (sd_drop (pd_call h_require_rows (hr.mono (by decide)) hgu (by rfl) (pa_c (pd_var 0 (pv 0)) (pa_c (pd_var 1 (pv 1)) pa_n)) (al_c (al_c al_n))))
    (sd_cons (sd_drop (pd_call h_require_row (hr.mono (by decide)) hgu (by rfl) (pa_c (pd_var 0 (pv 0)) (pa_c (pd_var 2 (pv 2)) pa_n)) (al_c (al_c al_n))))
    (sd_cons (sd_asg (fun te h => ps_set (i := 3) sc_span_paper.nd rfl (by first | exact Or.inl rfl | exact Or.inr rfl) h) (pd_call h_sum_in (hr.mono (by decide)) hgu (by rfl) (pa_c (pd_var 0 (pv 0)) (pa_c (pd_var 1 (pv 1)) (pa_c (pd_var 2 (pv 2)) pa_n))) (al_c (al_c (al_c al_n)))))
    (sd_cons (sd_if (pt_cm c_isnot (pd_var 3 (pv 3)) pd_non) (sd_one (sd_ret (pd_tup (pa_c (pd_globS (by rfl) T.c_SUM.choose_spec) (pa_st (pd_var 3 (pv 3)) pa_n))))) sd_nil)
    (sd_cons (sd_frz 4 (sd_setLc (own := [("one", 5)]) (i := 4) rfl sc_span_paper.nd rfl rfl (by rfl) (by kernel_rfl) (id_seq (pd_call h_apart_in (hr.mono (by decide)) hgu (by rfl) (pa_c (pd_var 0 (pv 0)) (pa_c (pd_call h_lot_in (hr.mono (by decide)) hgu (by rfl) (pa_c (pd_var 1 (pv 1)) pa_n) (al_c al_n)) pa_n)) (al_c (al_c al_n)))) (fun b => (gd_name (pg_name (i := 5) sc_span_paper.nd rfl (by first | exact Or.inl rfl | exact Or.inr rfl)))) (fun b => (td_one (pt_cm (c_neS hu) (pd_call h_dot (hr.mono (by decide)) hgu (by rfl) (pa_c (pd_var 5 (pv 5)) (pa_c (pd_var 2 (pv 2)) pa_n)) (al_c (al_c al_n))) pd_int))) (fun b => (pd_var 5 (pv 5)))))
    (sd_one (sd_ret (pd_tup (pa_c (pd_globS (by rfl) T.c_APART.choose_spec) (pa_c (pd_ix (pd_var 4 (pv 4)) pd_int) pa_n)))))))))))
theorem sc_is_span_paper : FnScope ["width", "rows", "row", "value", "line", "found", "number"] ["width", "rows", "row", "value"] (defScope (top 43)) := ⟨rfl, rfl, rfl, by decide +kernel, rfl, by decide +kernel, by decide +kernel⟩
theorem ok_is_span_paper {f : Addr} {fd : FuncData} (T : Glb mg) (TX : Glx P K mg) (F : Fun K "is_span_paper" "is_span_paper" (top 43) f fd) (hm : mg "is_span_paper" = some (.ref f)) (hb : Binds K fd ["width", "rows", "row", "value"] []) (h_is_integer : FnD P w K mg base "is_integer" 1 1 F_is_integer) (h_require_width : FnD P w K mg base "require_width" 5 1 F_require_width) (h_is_plain_row : FnD P w K mg base "is_plain_row" 2 2 F_is_plain_row) (h_dot : FnD P w K mg base "dot" 1 2 F_dot) (h_sum_of_rows : FnD P w K mg base "sum_of_rows" 1 2 F_sum_of_rows) (h_times_row : FnD P w K mg base "times_row" 1 2 F_times_row) (h_require_row : FnD P w K mg base "require_row" 3 2 F_require_row) (h_require_rows : FnD P w K mg base "require_rows" 3 2 F_require_rows) : FnD P w K mg base "is_span_paper" 6 4 F_is_span_paper := by
  refine fnD (k := 5) F hm hb sc_is_span_paper F_is_span_paper fun cdv A outer s H E hr hgu ds μ hl hG => ⟨b_is_span_paper, ?_, rfl⟩
  have hu := room_u hr
  exact (sd_cons (sd_drop (pd_call h_require_width (hr.mono (by decide)) hgu (by rfl) (pa_c (pd_var 0 (pv 0)) pa_n) (al_c al_n)))
    (sd_cons (sd_drop (pd_call h_require_rows (hr.mono (by decide)) hgu (by rfl) (pa_c (pd_var 0 (pv 0)) (pa_c (pd_var 1 (pv 1)) pa_n)) (al_c (al_c al_n))))
    (sd_cons (sd_drop (pd_call h_require_row (hr.mono (by decide)) hgu (by rfl) (pa_c (pd_var 0 (pv 0)) (pa_c (pd_var 2 (pv 2)) pa_n)) (al_c (al_c al_n))))
    (sd_cons (sd_if (PWD.pt (pw_o (pt_nt (pt_tr (pd_b bi_isi (by rfl) T.b_isinstance rfl (pa_c (pd_var 3 (pv 3)) (pa_c (pd_bltT (by rfl) T.b_tuple rfl) pa_n))))) (pw_o (pt_cm (c_eqS hu) (pd_var 3 (pv 3)) (pd_tup pa_n)) (pw_o1 (pt_nt (pt_tr (pd_b bi_isi (by rfl) T.b_isinstance rfl (pa_c (pd_ix (pd_var 3 (pv 3)) pd_int) (pa_c (pd_bltT (by rfl) T.b_str rfl) pa_n))))))))) (sd_one (sd_ret pd_bl)) sd_nil)
    (sd_cons (sd_if (pt_cm (c_eqS hu) (pd_ix (pd_var 3 (pv 3)) pd_int) (pd_globS (by rfl) T.c_APART.choose_spec)) (sd_cons (sd_if (PWD.pt (pw_o (pt_cm (c_neS hu) (pd_b bi_len (by rfl) T.b_len rfl (pa_c (pd_var 3 (pv 3)) pa_n)) pd_int) (pw_o1 (pt_nt (pt_tr (pd_call h_is_plain_row (hr.mono (by decide)) hgu (by rfl) (pa_c (pd_var 0 (pv 0)) (pa_c (pd_ix (pd_var 3 (pv 3)) pd_int) pa_n)) (al_c (al_c al_n)))))))) (sd_one (sd_ret pd_bl)) sd_nil)
    (sd_one (sd_ret (pd_and (pd_b (bi_all rfl) (by rfl) T.b_all rfl (pa_c (pd_f (pf_lc (own := [("line", 4)]) rfl sc_is_span_paper.nd (by kernel_rfl) (id_seq (pd_var 1 (pv 1))) (fun b => (gd_name (pg_name (i := 4) sc_is_span_paper.nd rfl (by first | exact Or.inl rfl | exact Or.inr rfl)))) (fun b => td_nil) (fun b => (pd_cm (c_eqS hu) (pd_call h_dot (hr.mono (by decide)) hgu (by rfl) (pa_c (pd_var 4 (pv 4)) (pa_c (pd_ix (pd_var 3 (pv 3)) pd_int) pa_n)) (al_c (al_c al_n))) pd_int)))) pa_n)) (pd_one (pd_cm (c_neS hu) (pd_call h_dot (hr.mono (by decide)) hgu (by rfl) (pa_c (pd_var 2 (pv 2)) (pa_c (pd_ix (pd_var 3 (pv 3)) pd_int) pa_n)) (al_c (al_c al_n))) pd_int)))))) sd_nil)
    (sd_cons (sd_if (PWD.pt (pw_o (pt_cm (c_neS hu) (pd_ix (pd_var 3 (pv 3)) pd_int) (pd_globS (by rfl) T.c_SUM.choose_spec)) (pw_o (pt_cm (c_neS hu) (pd_b bi_len (by rfl) T.b_len rfl (pa_c (pd_var 3 (pv 3)) pa_n)) pd_int) (pw_o (pt_nt (pt_tr (pd_call h_is_integer (hr.mono (by decide)) hgu (by rfl) (pa_c (pd_ix (pd_var 3 (pv 3)) pd_int) pa_n) (al_c al_n)))) (pw_o1 (pt_cm c_lt (pd_ix (pd_var 3 (pv 3)) pd_int) pd_int)))))) (sd_one (sd_ret pd_bl)) sd_nil)
    (sd_cons (sd_if (pt_nt (pt_tr (pd_call h_is_plain_row (hr.mono (by decide)) hgu (by rfl) (pa_c (pd_b bi_len (by rfl) T.b_len rfl (pa_c (pd_var 1 (pv 1)) pa_n)) (pa_c (pd_ix (pd_var 3 (pv 3)) pd_int) pa_n)) (al_c (al_c al_n))))) (sd_one (sd_ret pd_bl)) sd_nil)
    (sd_cons (sd_asg (fun te h => ps_set (i := 5) sc_is_span_paper.nd rfl (by first | exact Or.inl rfl | exact Or.inr rfl) h) (pd_mul (pd_tup (pa_c pd_int pa_n)) (pd_var 0 (pv 0))))
    (sd_cons (sd_for (passes_of rfl) rfl (id_zp (pa_c (pd_ix (pd_var 3 (pv 3)) pd_int) (pa_c (pd_var 1 (pv 1)) pa_n)) (by rfl) T.b_zip) (gd_tup rfl (gd_cons (gd_name (pg_name (i := 6) sc_is_span_paper.nd rfl (by first | exact Or.inl rfl | exact Or.inr rfl))) (gd_cons (gd_name (pg_name (i := 4) sc_is_span_paper.nd rfl (by first | exact Or.inl rfl | exact Or.inr rfl))) gd_nil))) (sd_one (sd_asg (fun te h => ps_set (i := 5) sc_is_span_paper.nd rfl (by first | exact Or.inl rfl | exact Or.inr rfl) h) (pd_call h_sum_of_rows (hr.mono (by decide)) hgu (by rfl) (pa_c (pd_var 5 (pv 5)) (pa_c (pd_call h_times_row (hr.mono (by decide)) hgu (by rfl) (pa_c (pd_var 6 (pv 6)) (pa_c (pd_var 4 (pv 4)) pa_n)) (al_c (al_c al_n))) pa_n)) (al_c (al_c al_n))))))
    (sd_one (sd_ret (pd_cm (c_eqS hu) (pd_var 5 (pv 5)) (pd_call h_times_row (hr.mono (by decide)) hgu (by rfl) (pa_c (pd_ix (pd_var 3 (pv 3)) pd_int) (pa_c (pd_var 2 (pv 2)) pa_n)) (al_c (al_c al_n)))))))))))))))
theorem sc_L_roll : FnScope ["dice", "total", "found", "one", "two"] ["dice", "total"] (defScope (top 46)) := ⟨rfl, rfl, rfl, by decide +kernel, rfl, by decide +kernel, by decide +kernel⟩
theorem ok_L_roll {f : Addr} {fd : FuncData} (T : Glb mg) (TX : Glx P K mg) (F : Fun K "_law_roll" "_law_roll" (top 46) f fd) (hm : mg "_law_roll" = some (.ref f)) (hb : Binds K fd ["dice", "total"] []) : FnD P w K mg base "_law_roll" 1 2 F_L_roll := by
  refine fnD (k := 0) F hm hb sc_L_roll F_L_roll fun cdv A outer s H E hr hgu ds μ hl hG => ⟨b_L_roll, ?_, rfl⟩
  have hu := room_u hr
  exact (sd_cons (sd_if (pt_cm c_gt (pd_ix (pd_var 0 (pv 0)) pd_int) pd_int) (sd_cons (sd_asg (fun te h => ps_set (i := 2) sc_L_roll.nd rfl (by first | exact Or.inl rfl | exact Or.inr rfl) h) (pd_mod (pd_ix (pd_var 0 (pv 0)) pd_int) (pd_var 1 (pv 1))))
    (sd_cons (sd_setI (fun te t h g => ps_asg h g) set_list ss_list (pd_fdiv (pd_ix (pd_var 0 (pv 0)) pd_int) (pd_var 1 (pv 1))) (pd_var 0 (pv 0)) pd_int)
    (sd_one (sd_ret (pd_ty bi_int (by rfl) T.b_int rfl (pa_c (pd_var 2 (pv 2)) pa_n)))))) sd_nil)
    (sd_cons (sd_setI (fun te t h g => ps_asg h g) set_list ss_list (pd_add (pd_ix (pd_var 0 (pv 0)) pd_int) pd_int) (pd_var 0 (pv 0)) pd_int)
    (sd_cons (sd_asg (fun te h => ps_set (i := 3) sc_L_roll.nd rfl (by first | exact Or.inl rfl | exact Or.inr rfl) h) (pd_mod (pd_add (pd_ix (pd_var 0 (pv 0)) pd_int) (pd_mul pd_int (pd_ix (pd_var 0 (pv 0)) pd_int))) pd_int))
    (sd_cons (sd_asg (fun te h => ps_set (i := 4) sc_L_roll.nd rfl (by first | exact Or.inl rfl | exact Or.inr rfl) h) (pd_add (pd_mul (pd_mod (pd_add (pd_mul (pd_var 3 (pv 3)) (pd_var 3 (pv 3))) (pd_mul pd_int (pd_ix (pd_var 0 (pv 0)) pd_int))) pd_int) pd_int) (pd_var 3 (pv 3))))
    (sd_one (sd_ret (pd_mod (pd_ty bi_int (by rfl) T.b_int rfl (pa_c (pd_fdiv (pd_var 4 (pv 4)) pd_int) pa_n)) (pd_var 1 (pv 1)))))))))
theorem sc_L_pick : FnScope ["dice", "items"] ["dice", "items"] (defScope (top 47)) := ⟨rfl, rfl, rfl, by decide +kernel, rfl, by decide +kernel, by decide +kernel⟩
theorem ok_L_pick {f : Addr} {fd : FuncData} (T : Glb mg) (TX : Glx P K mg) (F : Fun K "_law_pick" "_law_pick" (top 47) f fd) (hm : mg "_law_pick" = some (.ref f)) (hb : Binds K fd ["dice", "items"] []) (h_L_roll : FnD P w K mg base "_law_roll" 1 2 F_L_roll) : FnD P w K mg base "_law_pick" 2 2 F_L_pick := by
  refine fnD (k := 1) F hm hb sc_L_pick F_L_pick fun cdv A outer s H E hr hgu ds μ hl hG => ⟨b_L_pick, ?_, rfl⟩
  have hu := room_u hr
  exact (sd_one (sd_ret (pd_ix (pd_var 1 (pv 1)) (pd_call h_L_roll (hr.mono (by decide)) hgu (by rfl) (pa_c (pd_var 0 (pv 0)) (pa_c (pd_b bi_len (by rfl) T.b_len rfl (pa_c (pd_var 1 (pv 1)) pa_n)) pa_n)) (al_c (al_c al_n))))))
theorem sc_L_one : FnScope ["dice", "right", "wrong"] ["dice", "right", "wrong"] (defScope (top 49)) := ⟨rfl, rfl, rfl, by decide +kernel, rfl, by decide +kernel, by decide +kernel⟩
theorem ok_L_one {f : Addr} {fd : FuncData} (T : Glb mg) (TX : Glx P K mg) (F : Fun K "_law_one" "_law_one" (top 49) f fd) (hm : mg "_law_one" = some (.ref f)) (hb : Binds K fd ["dice", "right", "wrong"] []) (h_L_roll : FnD P w K mg base "_law_roll" 1 2 F_L_roll) (h_L_pick : FnD P w K mg base "_law_pick" 2 2 F_L_pick) : FnD P w K mg base "_law_one" 3 3 F_L_one := by
  refine fnD (k := 2) F hm hb sc_L_one F_L_one fun cdv A outer s H E hr hgu ds μ hl hG => ⟨b_L_one, ?_, rfl⟩
  have hu := room_u hr
  exact (sd_cons (sd_if (pt_cm c_gt (pd_call h_L_roll (hr.mono (by decide)) hgu (by rfl) (pa_c (pd_var 0 (pv 0)) (pa_c pd_int pa_n)) (al_c (al_c al_n))) pd_int) (sd_one (sd_ret (pd_tup (pa_c (pd_var 1 (pv 1)) (pa_c pd_bl pa_n))))) sd_nil)
    (sd_one (sd_ret (pd_tup (pa_c (pd_call h_L_pick (hr.mono (by decide)) hgu (by rfl) (pa_c (pd_var 0 (pv 0)) (pa_c (pd_var 2 (pv 2)) pa_n)) (al_c (al_c al_n))) (pa_c pd_bl pa_n))))))
theorem sc_L_due : FnScope ["pairs", "word", "is_wrong"] ["pairs"] (defScope (top 50)) := ⟨rfl, rfl, rfl, by decide +kernel, rfl, by decide +kernel, by decide +kernel⟩
theorem ok_L_due {f : Addr} {fd : FuncData} (T : Glb mg) (TX : Glx P K mg) (F : Fun K "_law_due" "_law_due" (top 50) f fd) (hm : mg "_law_due" = some (.ref f)) (hb : Binds K fd ["pairs"] []) : FnD P w K mg base "_law_due" 1 1 F_L_due := by
  refine fnD (k := 0) F hm hb sc_L_due F_L_due fun cdv A outer s H E hr hgu ds μ hl hG => ⟨b_L_due, ?_, rfl⟩
  have hu := room_u hr
  exact (sd_one (sd_ret (pd_ix (pd_add (pd_f (pf_lc (own := [("word", 1), ("is_wrong", 2)]) rfl sc_L_due.nd (by kernel_rfl) (id_seq (pd_var 0 (pv 0))) (fun b => (gd_tup rfl (gd_cons (gd_name (pg_name (i := 1) sc_L_due.nd rfl (by first | exact Or.inl rfl | exact Or.inr rfl))) (gd_cons (gd_name (pg_name (i := 2) sc_L_due.nd rfl (by first | exact Or.inl rfl | exact Or.inr rfl))) gd_nil)))) (fun b => (td_one (pt_tr (pd_var 2 (pv 2))))) (fun b => (pd_var 1 (pv 1))))) (pd_f (pf_lst (pa_c pd_str pa_n)))) pd_int)))
theorem sc_L_right : FnScope ["dice", "real", "no_width", "bad_rows", "no_one", "no_other", "bad_lots", "no_lot", "no_more", "no_rows", "no_by", "wide", "told", "due", "by", "call", "lot", "more", "one", "other", "rows", "width"] ["dice"] (defScope (top 51)) := ⟨rfl, rfl, rfl, by decide +kernel, rfl, by decide +kernel, by decide +kernel⟩
theorem ok_L_right {f : Addr} {fd : FuncData} (T : Glb mg) (TX : Glx P K mg) (F : Fun K "_law_right" "_law_right" (top 51) f fd) (hm : mg "_law_right" = some (.ref f)) (hb : Binds K fd ["dice"] []) {c Pt : Addr} (hcd : fd.code = .ref c) (TB : LamX.TabB base mg c Pt) (hmT : (Pt, lamQ_L_right) ∈ DLX.T) (h_is_row : FnD P w K mg base "is_row" 6 2 F_is_row) (h_is_lot : FnD P w K mg base "is_lot" 6 2 F_is_lot) (h_row_plus : FnD P w K mg base "row_plus" 6 3 F_row_plus) (h_row_times : FnD P w K mg base "row_times" 6 3 F_row_times) (h_product : FnD P w K mg base "product" 6 3 F_product) (h_lowest : FnD P w K mg base "lowest" 6 2 F_lowest) (h_lot_of : FnD P w K mg base "lot_of" 6 2 F_lot_of) (h_holds : FnD P w K mg base "holds" 6 3 F_holds) (h_joined_lots : FnD P w K mg base "joined_lots" 7 3 F_joined_lots) (h_met_lots : FnD P w K mg base "met_lots" 7 3 F_met_lots) (h_rows_apart : FnD P w K mg base "rows_apart" 7 2 F_rows_apart) (h_span_paper : FnD P w K mg base "span_paper" 7 3 F_span_paper) (h_is_span_paper : FnD P w K mg base "is_span_paper" 6 4 F_is_span_paper) (h_L_roll : FnD P w K mg base "_law_roll" 1 2 F_L_roll) (h_L_met : MetD P w K mg base "_law_met" "call" "fine" cl_L_met) (h_L_one : FnD P w K mg base "_law_one" 3 3 F_L_one) (h_L_due : FnD P w K mg base "_law_due" 1 1 F_L_due) : FnD P w K mg base "_law_right" 10 1 F_L_right := by
  refine fnDC (k := 9) F hm hb sc_L_right hcd F_L_right fun A outer s H E hr hgu ds μ hl hG => ⟨b_L_right, ?_, rfl⟩
  have hu := room_u hr
  exact (sd_cons (sd_asg (fun te h => ps_set (i := 1) sc_L_right.nd rfl (by first | exact Or.inl rfl | exact Or.inr rfl) h) (pd_add pd_int (pd_call h_L_roll (hr.mono (by decide)) hgu (by rfl) (pa_c (pd_var 0 (pv 0)) (pa_c pd_int pa_n)) (al_c (al_c al_n)))))
    (sd_cons (sd_asgG (fun te t h g => ps_asg h g) (pd_call h_L_one (hr.mono (by decide)) hgu (by rfl) (pa_c (pd_var 0 (pv 0)) (pa_c (pd_var 1 (pv 1)) (pa_c (pd_f (pf_lst (pa_c pd_int (pa_c pd_int (pa_c (pd_neg pd_int) (pa_c pd_bl (pa_c pd_non (pa_c pd_str (pa_c (pd_tup (pa_c pd_int pa_n)) (pa_c (pd_pow pd_int pd_int) pa_n)))))))))) pa_n))) (al_c (al_c (al_c al_n)))) (gd_tup rfl (gd_cons (gd_name (pg_name (i := 21) sc_L_right.nd rfl (by first | exact Or.inl rfl | exact Or.inr rfl))) (gd_cons (gd_name (pg_name (i := 2) sc_L_right.nd rfl (by first | exact Or.inl rfl | exact Or.inr rfl))) gd_nil))))
    (sd_cons (sd_asg (fun te h => ps_set (i := 3) sc_L_right.nd rfl (by first | exact Or.inl rfl | exact Or.inr rfl) h) (pd_f (pf_lst (pa_c pd_non (pa_c (pd_tup pa_n) (pa_c (pd_mul (pd_tup (pa_c pd_int pa_n)) (pd_add (pd_var 1 (pv 1)) pd_int)) (pa_c (pd_f (pf_rep (pf_lst (pa_c pd_int pa_n)) (pd_var 1 (pv 1)))) (pa_c (pd_mul (pd_tup (pa_c pd_non pa_n)) (pd_var 1 (pv 1))) (pa_c (pd_mul (pd_tup (pa_c pd_bl pa_n)) (pd_var 1 (pv 1))) (pa_c pd_int (pa_c (pd_mul (pd_tup (pa_c pd_str pa_n)) (pd_var 1 (pv 1))) (pa_c (pd_f pf_emp) pa_n))))))))))))
    (sd_cons (sd_asgG (fun te t h g => ps_asg h g) (pd_call h_L_one (hr.mono (by decide)) hgu (by rfl) (pa_c (pd_var 0 (pv 0)) (pa_c (pd_mul (pd_tup (pa_c pd_int pa_n)) (pd_var 1 (pv 1))) (pa_c (pd_var 3 (pv 3)) pa_n))) (al_c (al_c (al_c al_n)))) (gd_tup rfl (gd_cons (gd_name (pg_name (i := 18) sc_L_right.nd rfl (by first | exact Or.inl rfl | exact Or.inr rfl))) (gd_cons (gd_name (pg_name (i := 4) sc_L_right.nd rfl (by first | exact Or.inl rfl | exact Or.inr rfl))) gd_nil))))
    (sd_cons (sd_asgG (fun te t h g => ps_asg h g) (pd_call h_L_one (hr.mono (by decide)) hgu (by rfl) (pa_c (pd_var 0 (pv 0)) (pa_c (pd_mul (pd_tup (pa_c pd_int pa_n)) (pd_var 1 (pv 1))) (pa_c (pd_var 3 (pv 3)) pa_n))) (al_c (al_c (al_c al_n)))) (gd_tup rfl (gd_cons (gd_name (pg_name (i := 19) sc_L_right.nd rfl (by first | exact Or.inl rfl | exact Or.inr rfl))) (gd_cons (gd_name (pg_name (i := 5) sc_L_right.nd rfl (by first | exact Or.inl rfl | exact Or.inr rfl))) gd_nil))))
    (sd_cons (sd_asg (fun te h => ps_set (i := 6) sc_L_right.nd rfl (by first | exact Or.inl rfl | exact Or.inr rfl) h) (pd_f (pf_lst (pa_c pd_non (pa_c (pd_f (pf_lst (pa_c (pd_tup pa_n) pa_n))) (pa_c (pd_tup (pa_c (pd_mul (pd_tup (pa_c pd_int pa_n)) (pd_var 1 (pv 1))) pa_n)) (pa_c (pd_tup (pa_c (pd_mul (pd_tup (pa_c pd_int pa_n)) (pd_var 1 (pv 1))) pa_n)) (pa_c (pd_tup (pa_c (pd_mul (pd_tup (pa_c pd_int pa_n)) (pd_add (pd_var 1 (pv 1)) pd_int)) pa_n)) (pa_c pd_int (pa_c (pd_tup (pa_c (pd_mul (pd_tup (pa_c pd_bl pa_n)) (pd_var 1 (pv 1))) pa_n)) (pa_c (pd_f pf_emp) pa_n)))))))))))
    (sd_cons (sd_asgG (fun te t h g => ps_asg h g) (pd_call h_L_one (hr.mono (by decide)) hgu (by rfl) (pa_c (pd_var 0 (pv 0)) (pa_c (pd_tup (pa_c (pd_mul (pd_tup (pa_c pd_int pa_n)) (pd_var 1 (pv 1))) pa_n)) (pa_c (pd_var 6 (pv 6)) pa_n))) (al_c (al_c (al_c al_n)))) (gd_tup rfl (gd_cons (gd_name (pg_name (i := 16) sc_L_right.nd rfl (by first | exact Or.inl rfl | exact Or.inr rfl))) (gd_cons (gd_name (pg_name (i := 7) sc_L_right.nd rfl (by first | exact Or.inl rfl | exact Or.inr rfl))) gd_nil))))
    (sd_cons (sd_asgG (fun te t h g => ps_asg h g) (pd_call h_L_one (hr.mono (by decide)) hgu (by rfl) (pa_c (pd_var 0 (pv 0)) (pa_c (pd_tup pa_n) (pa_c (pd_var 6 (pv 6)) pa_n))) (al_c (al_c (al_c al_n)))) (gd_tup rfl (gd_cons (gd_name (pg_name (i := 17) sc_L_right.nd rfl (by first | exact Or.inl rfl | exact Or.inr rfl))) (gd_cons (gd_name (pg_name (i := 8) sc_L_right.nd rfl (by first | exact Or.inl rfl | exact Or.inr rfl))) gd_nil))))
    (sd_cons (sd_asgG (fun te t h g => ps_asg h g) (pd_call h_L_one (hr.mono (by decide)) hgu (by rfl) (pa_c (pd_var 0 (pv 0)) (pa_c (pd_tup (pa_c (pd_mul (pd_tup (pa_c pd_int pa_n)) (pd_var 1 (pv 1))) pa_n)) (pa_c (pd_f (pf_lst (pa_c pd_non (pa_c (pd_f (pf_lst (pa_c (pd_mul (pd_tup (pa_c pd_int pa_n)) (pd_var 1 (pv 1))) pa_n))) (pa_c (pd_tup (pa_c (pd_mul (pd_tup (pa_c pd_int pa_n)) (pd_add (pd_var 1 (pv 1)) pd_int)) pa_n)) (pa_c (pd_tup (pa_c pd_non pa_n)) (pa_c (pd_tup (pa_c (pd_mul (pd_tup (pa_c pd_bl pa_n)) (pd_var 1 (pv 1))) pa_n)) (pa_c pd_int pa_n)))))))) pa_n))) (al_c (al_c (al_c al_n)))) (gd_tup rfl (gd_cons (gd_name (pg_name (i := 20) sc_L_right.nd rfl (by first | exact Or.inl rfl | exact Or.inr rfl))) (gd_cons (gd_name (pg_name (i := 9) sc_L_right.nd rfl (by first | exact Or.inl rfl | exact Or.inr rfl))) gd_nil))))
    (sd_cons (sd_asgG (fun te t h g => ps_asg h g) (pd_call h_L_one (hr.mono (by decide)) hgu (by rfl) (pa_c (pd_var 0 (pv 0)) (pa_c (pd_neg pd_int) (pa_c (pd_f (pf_lst (pa_c pd_non (pa_c pd_bl (pa_c pd_str (pa_c (pd_tup (pa_c pd_int pa_n)) (pa_c (pd_f (pf_lst pa_n)) pa_n))))))) pa_n))) (al_c (al_c (al_c al_n)))) (gd_tup rfl (gd_cons (gd_name (pg_name (i := 14) sc_L_right.nd rfl (by first | exact Or.inl rfl | exact Or.inr rfl))) (gd_cons (gd_name (pg_name (i := 10) sc_L_right.nd rfl (by first | exact Or.inl rfl | exact Or.inr rfl))) gd_nil))))
    (sd_cons (sd_asg (fun te h => ps_set (i := 11) sc_L_right.nd rfl (by first | exact Or.inl rfl | exact Or.inr rfl) h) (pd_tup (pa_c (pd_add pd_str (pd_b (bi_repr hgu hu) (by rfl) T.b_repr rfl (pa_c (pd_var 21 (pv 21)) pa_n))) (pa_c (pd_var 2 (pv 2)) pa_n))))
    (sd_cons (sd_asgO (fun te h => ps_set (i := 12) sc_L_right.nd rfl (by first | exact Or.inl rfl | exact Or.inr rfl) h) (pf_lst (pa_c (pd_metD (k := 6) h_L_met TX.hmg TX.hT TX.sub TB hmT rfl (hr.mono (by decide)) hgu (LamX.lamS_by (by rfl)) rfl (fun _ _ _ _ _ => rfl) (by rfl) (fun A outer s H E f c' hr hgu => have hu := room_u hr; (pd_call h_row_plus (hr.mono (by decide)) hgu (by rfl) (pa_c (pd_var 21 (pv 21)) (pa_c (pd_var 18 (pv 18)) (pa_c (pd_var 19 (pv 19)) pa_n))) (al_c (al_c (al_c al_n)))))) (pa_c (pd_metD (k := 6) h_L_met TX.hmg TX.hT TX.sub TB hmT rfl (hr.mono (by decide)) hgu (LamX.lamS_by (by rfl)) rfl (fun _ _ _ _ _ => rfl) (by rfl) (fun A outer s H E f c' hr hgu => have hu := room_u hr; (pd_call h_row_times (hr.mono (by decide)) hgu (by rfl) (pa_c (pd_var 21 (pv 21)) (pa_c (pd_var 14 (pv 14)) (pa_c (pd_var 18 (pv 18)) pa_n))) (al_c (al_c (al_c al_n)))))) pa_n))))
    (sd_cons (sd_asgO (fun te h => ps_set (i := 13) sc_L_right.nd rfl (by first | exact Or.inl rfl | exact Or.inr rfl) h) (pf_lst (pa_c (pd_call h_L_due (hr.mono (by decide)) hgu (by rfl) (pa_c (pd_f (pf_lst (pa_c (pd_var 11 (pv 11)) (pa_c (pd_tup (pa_c pd_str (pa_c (pd_var 4 (pv 4)) pa_n))) (pa_c (pd_tup (pa_c pd_str (pa_c (pd_var 5 (pv 5)) pa_n))) pa_n))))) pa_n) (al_c al_n)) (pa_c (pd_call h_L_due (hr.mono (by decide)) hgu (by rfl) (pa_c (pd_f (pf_lst (pa_c (pd_var 11 (pv 11)) (pa_c (pd_tup (pa_c pd_str (pa_c (pd_var 10 (pv 10)) pa_n))) (pa_c (pd_tup (pa_c pd_str (pa_c (pd_var 4 (pv 4)) pa_n))) pa_n))))) pa_n) (al_c al_n)) pa_n))))
    (sd_cons (sd_asgO (fun te h => ps_set (i := 12) sc_L_right.nd rfl (by first | exact Or.inl rfl | exact Or.inr rfl) h) (pf_cat (pd_var 12 (pv 12)) (pd_f (pf_lst (pa_c (pd_metD (k := 6) h_L_met TX.hmg TX.hT TX.sub TB hmT rfl (hr.mono (by decide)) hgu (LamX.lamS_by (by rfl)) rfl (fun _ _ _ _ _ => rfl) (by rfl) (fun A outer s H E f c' hr hgu => have hu := room_u hr; (pd_call h_product (hr.mono (by decide)) hgu (by rfl) (pa_c (pd_var 21 (pv 21)) (pa_c (pd_var 18 (pv 18)) (pa_c (pd_var 19 (pv 19)) pa_n))) (al_c (al_c (al_c al_n)))))) (pa_c (pd_metD (k := 6) h_L_met TX.hmg TX.hT TX.sub TB hmT rfl (hr.mono (by decide)) hgu (LamX.lamS_by (by rfl)) rfl (fun _ _ _ _ _ => rfl) (by rfl) (fun A outer s H E f c' hr hgu => have hu := room_u hr; (pd_call h_lowest (hr.mono (by decide)) hgu (by rfl) (pa_c (pd_var 21 (pv 21)) (pa_c (pd_var 18 (pv 18)) pa_n)) (al_c (al_c al_n))))) pa_n))))))
    (sd_cons (sd_asgO (fun te h => ps_set (i := 13) sc_L_right.nd rfl (by first | exact Or.inl rfl | exact Or.inr rfl) h) (pf_cat (pd_var 13 (pv 13)) (pd_f (pf_lst (pa_c (pd_call h_L_due (hr.mono (by decide)) hgu (by rfl) (pa_c (pd_f (pf_lst (pa_c (pd_var 11 (pv 11)) (pa_c (pd_tup (pa_c pd_str (pa_c (pd_var 4 (pv 4)) pa_n))) (pa_c (pd_tup (pa_c pd_str (pa_c (pd_var 5 (pv 5)) pa_n))) pa_n))))) pa_n) (al_c al_n)) (pa_c (pd_call h_L_due (hr.mono (by decide)) hgu (by rfl) (pa_c (pd_f (pf_lst (pa_c (pd_var 11 (pv 11)) (pa_c (pd_tup (pa_c pd_str (pa_c (pd_var 4 (pv 4)) pa_n))) pa_n)))) pa_n) (al_c al_n)) pa_n))))))
    (sd_cons (sd_asgO (fun te h => ps_set (i := 12) sc_L_right.nd rfl (by first | exact Or.inl rfl | exact Or.inr rfl) h) (pf_cat (pd_var 12 (pv 12)) (pd_f (pf_lst (pa_c (pd_metD (k := 6) h_L_met TX.hmg TX.hT TX.sub TB hmT rfl (hr.mono (by decide)) hgu (LamX.lamS_by (by rfl)) rfl (fun _ _ _ _ _ => rfl) (by rfl) (fun A outer s H E f c' hr hgu => have hu := room_u hr; (pd_call h_lot_of (hr.mono (by decide)) hgu (by rfl) (pa_c (pd_var 21 (pv 21)) (pa_c (pd_var 20 (pv 20)) pa_n)) (al_c (al_c al_n))))) (pa_c (pd_metD (k := 6) h_L_met TX.hmg TX.hT TX.sub TB hmT rfl (hr.mono (by decide)) hgu (LamX.lamS_by (by rfl)) rfl (fun _ _ _ _ _ => rfl) (by rfl) (fun A outer s H E f c' hr hgu => have hu := room_u hr; (pd_call h_holds (hr.mono (by decide)) hgu (by rfl) (pa_c (pd_var 21 (pv 21)) (pa_c (pd_var 16 (pv 16)) (pa_c (pd_var 18 (pv 18)) pa_n))) (al_c (al_c (al_c al_n)))))) pa_n))))))
    (sd_cons (sd_asgO (fun te h => ps_set (i := 13) sc_L_right.nd rfl (by first | exact Or.inl rfl | exact Or.inr rfl) h) (pf_cat (pd_var 13 (pv 13)) (pd_f (pf_lst (pa_c (pd_call h_L_due (hr.mono (by decide)) hgu (by rfl) (pa_c (pd_f (pf_lst (pa_c (pd_var 11 (pv 11)) (pa_c (pd_tup (pa_c pd_str (pa_c (pd_var 9 (pv 9)) pa_n))) pa_n)))) pa_n) (al_c al_n)) (pa_c (pd_call h_L_due (hr.mono (by decide)) hgu (by rfl) (pa_c (pd_f (pf_lst (pa_c (pd_var 11 (pv 11)) (pa_c (pd_tup (pa_c pd_str (pa_c (pd_var 7 (pv 7)) pa_n))) (pa_c (pd_tup (pa_c pd_str (pa_c (pd_var 4 (pv 4)) pa_n))) pa_n))))) pa_n) (al_c al_n)) pa_n))))))
    (sd_cons (sd_for (passes_of rfl) rfl (id_seq (pd_tup (pa_c (pd_fn h_joined_lots.fn.choose_spec TX.hmg) (pa_c (pd_fn h_met_lots.fn.choose_spec TX.hmg) pa_n)))) (gd_name (pg_name (i := 15) sc_L_right.nd rfl (by first | exact Or.inl rfl | exact Or.inr rfl))) (sd_cons (sd_drop (pd_append (pd_var 12 (pv 12)) (pa_c (pd_metD (k := 7) h_L_met TX.hmg TX.hT TX.sub TB hmT rfl (hr.mono (by decide)) hgu (LamX.lamS_by (by rfl)) rfl (fun _ _ _ _ _ => rfl) (by rfl) (fun A outer s H E f c' hr hgu => have hu := room_u hr; (pd_callV (k := 7) (n := 3) TX.hmg (List.forall_mem_cons.mpr ⟨h_joined_lots.mono (by decide), (List.forall_mem_cons.mpr ⟨h_met_lots.mono (by decide), (fun q hq => nomatch hq)⟩)⟩) (hr.mono (by decide)) hgu (pv 15) (pa_c (pd_var 21 (pv 21)) (pa_c (pd_var 16 (pv 16)) (pa_c (pd_var 17 (pv 17)) pa_n))) (al_c (al_c (al_c al_n)))))) pa_n)))
    (sd_one (sd_drop (pd_append (pd_var 13 (pv 13)) (pa_c (pd_call h_L_due (hr.mono (by decide)) hgu (by rfl) (pa_c (pd_f (pf_lst (pa_c (pd_var 11 (pv 11)) (pa_c (pd_tup (pa_c pd_str (pa_c (pd_var 7 (pv 7)) pa_n))) (pa_c (pd_tup (pa_c pd_str (pa_c (pd_var 8 (pv 8)) pa_n))) pa_n))))) pa_n) (al_c al_n)) pa_n))))))
    (sd_cons (sd_asgO (fun te h => ps_set (i := 12) sc_L_right.nd rfl (by first | exact Or.inl rfl | exact Or.inr rfl) h) (pf_cat (pd_var 12 (pv 12)) (pd_f (pf_lst (pa_c (pd_metD (k := 7) h_L_met TX.hmg TX.hT TX.sub TB hmT rfl (hr.mono (by decide)) hgu (LamX.lamS_by (by rfl)) rfl (fun _ _ _ _ _ => rfl) (by rfl) (fun A outer s H E f c' hr hgu => have hu := room_u hr; (pd_call h_rows_apart (hr.mono (by decide)) hgu (by rfl) (pa_c (pd_var 21 (pv 21)) (pa_c (pd_var 16 (pv 16)) pa_n)) (al_c (al_c al_n))))) (pa_c (pd_metD (k := 7) h_L_met TX.hmg TX.hT TX.sub TB hmT rfl (hr.mono (by decide)) hgu (LamX.lamS_by (by rfl)) rfl (fun _ _ _ _ _ => rfl) (by rfl) (fun A outer s H E f c' hr hgu => have hu := room_u hr; (pd_call h_span_paper (hr.mono (by decide)) hgu (by rfl) (pa_c (pd_var 21 (pv 21)) (pa_c (pd_var 20 (pv 20)) (pa_c (pd_var 18 (pv 18)) pa_n))) (al_c (al_c (al_c al_n)))))) pa_n))))))
    (sd_cons (sd_asgO (fun te h => ps_set (i := 13) sc_L_right.nd rfl (by first | exact Or.inl rfl | exact Or.inr rfl) h) (pf_cat (pd_var 13 (pv 13)) (pd_f (pf_lst (pa_c (pd_call h_L_due (hr.mono (by decide)) hgu (by rfl) (pa_c (pd_f (pf_lst (pa_c (pd_var 11 (pv 11)) (pa_c (pd_tup (pa_c pd_str (pa_c (pd_var 7 (pv 7)) pa_n))) pa_n)))) pa_n) (al_c al_n)) (pa_c (pd_call h_L_due (hr.mono (by decide)) hgu (by rfl) (pa_c (pd_f (pf_lst (pa_c (pd_var 11 (pv 11)) (pa_c (pd_tup (pa_c pd_str (pa_c (pd_var 9 (pv 9)) pa_n))) (pa_c (pd_tup (pa_c pd_str (pa_c (pd_var 4 (pv 4)) pa_n))) pa_n))))) pa_n) (al_c al_n)) pa_n))))))
    (sd_cons (sd_asgO (fun te h => ps_set (i := 12) sc_L_right.nd rfl (by first | exact Or.inl rfl | exact Or.inr rfl) h) (pf_cat (pd_var 12 (pv 12)) (pd_f (pf_lst (pa_c (pd_metD (k := 6) h_L_met TX.hmg TX.hT TX.sub TB hmT rfl (hr.mono (by decide)) hgu (LamX.lamS_by (by rfl)) rfl (fun _ _ _ _ _ => rfl) (by rfl) (fun A outer s H E f c' hr hgu => have hu := room_u hr; (pd_call h_is_row (hr.mono (by decide)) hgu (by rfl) (pa_c (pd_var 21 (pv 21)) (pa_c (pd_var 18 (pv 18)) pa_n)) (al_c (al_c al_n))))) (pa_c (pd_metD (k := 6) h_L_met TX.hmg TX.hT TX.sub TB hmT rfl (hr.mono (by decide)) hgu (LamX.lamS_by (by rfl)) rfl (fun _ _ _ _ _ => rfl) (by rfl) (fun A outer s H E f c' hr hgu => have hu := room_u hr; (pd_call h_is_lot (hr.mono (by decide)) hgu (by rfl) (pa_c (pd_var 21 (pv 21)) (pa_c (pd_var 16 (pv 16)) pa_n)) (al_c (al_c al_n))))) pa_n))))))
    (sd_cons (sd_asgO (fun te h => ps_set (i := 13) sc_L_right.nd rfl (by first | exact Or.inl rfl | exact Or.inr rfl) h) (pf_cat (pd_var 13 (pv 13)) (pd_f (pf_rep (pf_lst (pa_c (pd_call h_L_due (hr.mono (by decide)) hgu (by rfl) (pa_c (pd_f (pf_lst (pa_c (pd_var 11 (pv 11)) pa_n))) pa_n) (al_c al_n)) pa_n)) pd_int))))
    (sd_cons (sd_frz 12 (sd_drop (pd_append (pd_var 12 (pv 12)) (pa_c (pd_metD (k := 6) h_L_met TX.hmg TX.hT TX.sub TB hmT rfl (hr.mono (by decide)) hgu (LamX.lamS_by (by rfl)) rfl (fun _ _ _ _ _ => rfl) (by rfl) (fun A outer s H E f c' hr hgu => have hu := room_u hr; (pd_call h_is_span_paper (hr.mono (by decide)) hgu (by rfl) (pa_c (pd_var 21 (pv 21)) (pa_c (pd_var 20 (pv 20)) (pa_c (pd_var 18 (pv 18)) (pa_c pd_non pa_n)))) (al_c (al_c (al_c (al_c al_n))))))) pa_n))))
    (sd_cons (sd_frz 13 (sd_drop (pd_append (pd_var 13 (pv 13)) (pa_c (pd_call h_L_due (hr.mono (by decide)) hgu (by rfl) (pa_c (pd_f (pf_lst (pa_c (pd_var 11 (pv 11)) (pa_c (pd_tup (pa_c pd_str (pa_c (pd_var 9 (pv 9)) pa_n))) (pa_c (pd_tup (pa_c pd_str (pa_c (pd_var 4 (pv 4)) pa_n))) pa_n))))) pa_n) (al_c al_n)) pa_n))))
    (sd_one (sd_ret (pd_cm (c_eqS hu) (pd_var 12 (pv 12)) (pd_var 13 (pv 13)))))))))))))))))))))))))))))
theorem sc_law : FnScope ["script", "spot", "dice", "turn", "told"] ["script"] (defScope (top 52)) := ⟨rfl, rfl, rfl, by decide +kernel, rfl, by decide +kernel, by decide +kernel⟩
theorem ok_law {f : Addr} {fd : FuncData} (T : Glb mg) (TX : Glx P K mg) (F : Fun K "law" "law" (top 52) f fd) (hm : mg "law" = some (.ref f)) (hb : Binds K fd ["script"] []) {c Pt : Addr} (hcd : fd.code = .ref c) (TB : LamX.TabB base mg c Pt) (hmT : (Pt, lamQ_law) ∈ DLX.T) (h_lowest : FnD P w K mg base "lowest" 6 2 F_lowest) (h_lot_of : FnD P w K mg base "lot_of" 6 2 F_lot_of) (h_L_dice : FnD P w K mg base "_law_dice" 1 2 F_L_dice) (h_L_met : MetD P w K mg base "_law_met" "call" "fine" cl_L_met) (h_L_right : FnD P w K mg base "_law_right" 10 1 F_L_right) : FnD P w K mg base "law" 11 1 F_law := by
  refine fnDC (k := 10) F hm hb sc_law hcd F_law fun A outer s H E hr hgu ds μ hl hG => ⟨b_law, ?_, rfl⟩
  have hu := room_u hr
  exact (sd_cons (sd_for (passes_of rfl) rfl (id_rng1 (by rfl) T.b_range (pa_c (pd_b (bi_max2 rfl) (by rfl) T.b_max rfl (pa_c pd_int (pa_c (pd_b (bi_min2 rfl) (by rfl) T.b_min rfl (pa_c pd_int (pa_c (pd_b bi_len (by rfl) T.b_len rfl (pa_c (pd_var 0 (pv 0)) pa_n)) pa_n))) pa_n))) pa_n)) (gd_name (pg_name (i := 1) sc_law.nd rfl (by first | exact Or.inl rfl | exact Or.inr rfl))) (sd_cons (sd_asgR (fun te h => ps_set (i := 2) sc_law.nd rfl (by first | exact Or.inl rfl | exact Or.inr rfl) h) (pf_call h_L_dice (hr.mono (by decide)) hgu (by rfl) (pa_c (pd_var 0 (pv 0)) (pa_c (pd_var 1 (pv 1)) pa_n)) (al_c (al_c al_n))))
    (sd_one (sd_for (passes_of rfl) rfl (id_rng1 (by rfl) T.b_range (pa_c pd_int pa_n)) (gd_name (pg_name (i := 3) sc_law.nd rfl (by first | exact Or.inl rfl | exact Or.inr rfl))) (sd_one (sd_if (pt_nt (pt_tr (pd_call h_L_right (hr.mono (by decide)) hgu (by rfl) (pa_c (pd_var 2 (pv 2)) pa_n) (al_c al_n)))) (sd_one (sd_ret pd_bl)) sd_nil))))))
    (sd_cons (sd_asg (fun te h => ps_set (i := 4) sc_law.nd rfl (by first | exact Or.inl rfl | exact Or.inr rfl) h) (pd_f (pf_lst (pa_c (pd_metD (k := 6) h_L_met TX.hmg TX.hT TX.sub TB hmT rfl (hr.mono (by decide)) hgu (LamX.lamS_by (by rfl)) rfl (fun _ _ _ _ _ => rfl) (by rfl) (fun A outer s H E f c' hr hgu => have hu := room_u hr; (pd_call h_lowest (hr.mono (by decide)) hgu (by rfl) (pa_c pd_int (pa_c (pd_mul (pd_tup (pa_c pd_int pa_n)) pd_int) pa_n)) (al_c (al_c al_n))))) (pa_c (pd_metD (k := 6) h_L_met TX.hmg TX.hT TX.sub TB hmT rfl (hr.mono (by decide)) hgu (LamX.lamS_by (by rfl)) rfl (fun _ _ _ _ _ => rfl) (by rfl) (fun A outer s H E f c' hr hgu => have hu := room_u hr; (pd_call h_lowest (hr.mono (by decide)) hgu (by rfl) (pa_c pd_int (pa_c (pd_tup (pa_c pd_int pa_n)) pa_n)) (al_c (al_c al_n))))) (pa_c (pd_metD (k := 6) h_L_met TX.hmg TX.hT TX.sub TB hmT rfl (hr.mono (by decide)) hgu (LamX.lamS_by (by rfl)) rfl (fun _ _ _ _ _ => rfl) (by rfl) (fun A outer s H E f c' hr hgu => have hu := room_u hr; (pd_call h_lot_of (hr.mono (by decide)) hgu (by rfl) (pa_c pd_int (pa_c (pd_tup pa_n) pa_n)) (al_c (al_c al_n))))) pa_n))))))
    (sd_one (sd_ret (pd_and (pd_cm (c_eqS hu) (pd_globI (by rfl) T.c_MAX_WIDTH.choose_spec) pd_int) (pd_one (pd_cm (c_eqS hu) (pd_var 4 (pv 4)) (pd_f (pf_rep (pf_lst (pa_c pd_str pa_n)) pd_int)))))))))
end
end K14

namespace K14
open PySem PySem.Spec PyProof.Rows L2 DL
variable [DLX]
theorem all_mk {P : Program} {w : World} {K : PySem.W.Frag} {h : Heap} {mg : Str → Option Value} (X : K.In h) (G : h.Ns mainGlobals mg)
    {f0 : Addr} {od0 an0 : Option Addr} {sl0 : Array (Option Value)} {oc0 kV0 dc0 pm0 cd0 ct0 : Value}
    (a0 : PySem.W.nsIn K mainGlobals "is_integer" = some (some (.ref f0))) (l0 : K.lookup f0 = some ⟨oc0, od0, .func (PySem.W.fnOf "is_integer" "is_integer" (defArgs (top 10)) (defBody (top 10)) (defScope (top 10)) .none kV0 dc0 pm0 an0 cd0 ct0), sl0⟩) (c0 : PySem.W.codeIn K cd0 "is_integer" = true) (k0 : PySem.W.keepIn K (.ref f0) = true)
    {f1 : Addr} {od1 an1 : Option Addr} {sl1 : Array (Option Value)} {oc1 kV1 dc1 pm1 cd1 ct1 : Value}
    (a1 : PySem.W.nsIn K mainGlobals "require_width" = some (some (.ref f1))) (l1 : K.lookup f1 = some ⟨oc1, od1, .func (PySem.W.fnOf "require_width" "require_width" (defArgs (top 11)) (defBody (top 11)) (defScope (top 11)) .none kV1 dc1 pm1 an1 cd1 ct1), sl1⟩) (c1 : PySem.W.codeIn K cd1 "require_width" = true) (k1 : PySem.W.keepIn K (.ref f1) = true)
    {f2 : Addr} {od2 an2 : Option Addr} {sl2 : Array (Option Value)} {oc2 kV2 dc2 pm2 cd2 ct2 : Value}
    (a2 : PySem.W.nsIn K mainGlobals "lead_in" = some (some (.ref f2))) (l2 : K.lookup f2 = some ⟨oc2, od2, .func (PySem.W.fnOf "lead_in" "lead_in" (defArgs (top 13)) (defBody (top 13)) (defScope (top 13)) .none kV2 dc2 pm2 an2 cd2 ct2), sl2⟩) (c2 : PySem.W.codeIn K cd2 "lead_in" = true) (k2 : PySem.W.keepIn K (.ref f2) = true)
    {f3 : Addr} {od3 an3 : Option Addr} {sl3 : Array (Option Value)} {oc3 kV3 dc3 pm3 cd3 ct3 : Value}
    (a3 : PySem.W.nsIn K mainGlobals "common_share" = some (some (.ref f3))) (l3 : K.lookup f3 = some ⟨oc3, od3, .func (PySem.W.fnOf "common_share" "common_share" (defArgs (top 14)) (defBody (top 14)) (defScope (top 14)) .none kV3 dc3 pm3 an3 cd3 ct3), sl3⟩) (c3 : PySem.W.codeIn K cd3 "common_share" = true) (k3 : PySem.W.keepIn K (.ref f3) = true)
    {f4 : Addr} {od4 an4 : Option Addr} {sl4 : Array (Option Value)} {oc4 kV4 dc4 pm4 cd4 ct4 : Value}
    (a4 : PySem.W.nsIn K mainGlobals "lowest_row" = some (some (.ref f4))) (l4 : K.lookup f4 = some ⟨oc4, od4, .func (PySem.W.fnOf "lowest_row" "lowest_row" (defArgs (top 15)) (defBody (top 15)) (defScope (top 15)) .none kV4 dc4 pm4 an4 cd4 ct4), sl4⟩) (c4 : PySem.W.codeIn K cd4 "lowest_row" = true) (k4 : PySem.W.keepIn K (.ref f4) = true)
    {f5 : Addr} {od5 an5 : Option Addr} {sl5 : Array (Option Value)} {oc5 kV5 dc5 pm5 cd5 ct5 : Value}
    (a5 : PySem.W.nsIn K mainGlobals "is_plain_row" = some (some (.ref f5))) (l5 : K.lookup f5 = some ⟨oc5, od5, .func (PySem.W.fnOf "is_plain_row" "is_plain_row" (defArgs (top 12)) (defBody (top 12)) (defScope (top 12)) .none kV5 dc5 pm5 an5 cd5 ct5), sl5⟩) (c5 : PySem.W.codeIn K cd5 "is_plain_row" = true) (k5 : PySem.W.keepIn K (.ref f5) = true)
    {f6 : Addr} {od6 an6 : Option Addr} {sl6 : Array (Option Value)} {oc6 kV6 dc6 pm6 cd6 ct6 : Value}
    (a6 : PySem.W.nsIn K mainGlobals "require_row" = some (some (.ref f6))) (l6 : K.lookup f6 = some ⟨oc6, od6, .func (PySem.W.fnOf "require_row" "require_row" (defArgs (top 28)) (defBody (top 28)) (defScope (top 28)) .none kV6 dc6 pm6 an6 cd6 ct6), sl6⟩) (c6 : PySem.W.codeIn K cd6 "require_row" = true) (k6 : PySem.W.keepIn K (.ref f6) = true)
    {f7 : Addr} {od7 an7 : Option Addr} {sl7 : Array (Option Value)} {oc7 kV7 dc7 pm7 cd7 ct7 : Value}
    (a7 : PySem.W.nsIn K mainGlobals "lowest" = some (some (.ref f7))) (l7 : K.lookup f7 = some ⟨oc7, od7, .func (PySem.W.fnOf "lowest" "lowest" (defArgs (top 34)) (defBody (top 34)) (defScope (top 34)) .none kV7 dc7 pm7 an7 cd7 ct7), sl7⟩) (c7 : PySem.W.codeIn K cd7 "lowest" = true) (k7 : PySem.W.keepIn K (.ref f7) = true)
    {f8 : Addr} {od8 an8 : Option Addr} {sl8 : Array (Option Value)} {oc8 kV8 dc8 pm8 cd8 ct8 : Value}
    (a8 : PySem.W.nsIn K mainGlobals "less_by" = some (some (.ref f8))) (l8 : K.lookup f8 = some ⟨oc8, od8, .func (PySem.W.fnOf "less_by" "less_by" (defArgs (top 20)) (defBody (top 20)) (defScope (top 20)) .none kV8 dc8 pm8 an8 cd8 ct8), sl8⟩) (c8 : PySem.W.codeIn K cd8 "less_by" = true) (k8 : PySem.W.keepIn K (.ref f8) = true)
    {f9 : Addr} {od9 an9 : Option Addr} {sl9 : Array (Option Value)} {oc9 kV9 dc9 pm9 cd9 ct9 : Value}
    (a9 : PySem.W.nsIn K mainGlobals "rest_by" = some (some (.ref f9))) (l9 : K.lookup f9 = some ⟨oc9, od9, .func (PySem.W.fnOf "rest_by" "rest_by" (defArgs (top 21)) (defBody (top 21)) (defScope (top 21)) .none kV9 dc9 pm9 an9 cd9 ct9), sl9⟩) (c9 : PySem.W.codeIn K cd9 "rest_by" = true) (k9 : PySem.W.keepIn K (.ref f9) = true)
    {f10 : Addr} {od10 an10 : Option Addr} {sl10 : Array (Option Value)} {oc10 kV10 dc10 pm10 cd10 ct10 : Value}
    (a10 : PySem.W.nsIn K mainGlobals "with_row" = some (some (.ref f10))) (l10 : K.lookup f10 = some ⟨oc10, od10, .func (PySem.W.fnOf "with_row" "with_row" (defArgs (top 23)) (defBody (top 23)) (defScope (top 23)) .none kV10 dc10 pm10 an10 cd10 ct10), sl10⟩) (c10 : PySem.W.codeIn K cd10 "with_row" = true) (k10 : PySem.W.keepIn K (.ref f10) = true)
    {f11 : Addr} {od11 an11 : Option Addr} {sl11 : Array (Option Value)} {oc11 kV11 dc11 pm11 cd11 ct11 : Value}
    (a11 : PySem.W.nsIn K mainGlobals "lot_in" = some (some (.ref f11))) (l11 : K.lookup f11 = some ⟨oc11, od11, .func (PySem.W.fnOf "lot_in" "lot_in" (defArgs (top 24)) (defBody (top 24)) (defScope (top 24)) .none kV11 dc11 pm11 an11 cd11 ct11), sl11⟩) (c11 : PySem.W.codeIn K cd11 "lot_in" = true) (k11 : PySem.W.keepIn K (.ref f11) = true)
    {f12 : Addr} {od12 an12 : Option Addr} {sl12 : Array (Option Value)} {oc12 kV12 dc12 pm12 cd12 ct12 : Value}
    (a12 : PySem.W.nsIn K mainGlobals "require_rows" = some (some (.ref f12))) (l12 : K.lookup f12 = some ⟨oc12, od12, .func (PySem.W.fnOf "require_rows" "require_rows" (defArgs (top 29)) (defBody (top 29)) (defScope (top 29)) .none kV12 dc12 pm12 an12 cd12 ct12), sl12⟩) (c12 : PySem.W.codeIn K cd12 "require_rows" = true) (k12 : PySem.W.keepIn K (.ref f12) = true)
    {f13 : Addr} {od13 an13 : Option Addr} {sl13 : Array (Option Value)} {oc13 kV13 dc13 pm13 cd13 ct13 : Value}
    (a13 : PySem.W.nsIn K mainGlobals "lot_of" = some (some (.ref f13))) (l13 : K.lookup f13 = some ⟨oc13, od13, .func (PySem.W.fnOf "lot_of" "lot_of" (defArgs (top 35)) (defBody (top 35)) (defScope (top 35)) .none kV13 dc13 pm13 an13 cd13 ct13), sl13⟩) (c13 : PySem.W.codeIn K cd13 "lot_of" = true) (k13 : PySem.W.keepIn K (.ref f13) = true)
    {f14 : Addr} {od14 an14 : Option Addr} {sl14 : Array (Option Value)} {oc14 kV14 dc14 pm14 cd14 ct14 : Value}
    (a14 : PySem.W.nsIn K mainGlobals "_law_dice" = some (some (.ref f14))) (l14 : K.lookup f14 = some ⟨oc14, od14, .func (PySem.W.fnOf "_law_dice" "_law_dice" (defArgs (top 45)) (defBody (top 45)) (defScope (top 45)) .none kV14 dc14 pm14 an14 cd14 ct14), sl14⟩) (c14 : PySem.W.codeIn K cd14 "_law_dice" = true) (k14 : PySem.W.keepIn K (.ref f14) = true)
    {f15 : Addr} {od15 an15 : Option Addr} {sl15 : Array (Option Value)} {oc15 kV15 dc15 pm15 cd15 ct15 : Value}
    (a15 : PySem.W.nsIn K mainGlobals "_law_met" = some (some (.ref f15))) (l15 : K.lookup f15 = some ⟨oc15, od15, .func (PySem.W.fnOf "_law_met" "_law_met" (defArgs (top 48)) (defBody (top 48)) (defScope (top 48)) .none kV15 dc15 pm15 an15 cd15 ct15), sl15⟩) (c15 : PySem.W.codeIn K cd15 "_law_met" = true) (k15 : PySem.W.keepIn K (.ref f15) = true)
    {f16 : Addr} {od16 an16 : Option Addr} {sl16 : Array (Option Value)} {oc16 kV16 dc16 pm16 cd16 ct16 : Value}
    (a16 : PySem.W.nsIn K mainGlobals "is_row" = some (some (.ref f16))) (l16 : K.lookup f16 = some ⟨oc16, od16, .func (PySem.W.fnOf "is_row" "is_row" (defArgs (top 26)) (defBody (top 26)) (defScope (top 26)) .none kV16 dc16 pm16 an16 cd16 ct16), sl16⟩) (c16 : PySem.W.codeIn K cd16 "is_row" = true) (k16 : PySem.W.keepIn K (.ref f16) = true)
    {f17 : Addr} {od17 an17 : Option Addr} {sl17 : Array (Option Value)} {oc17 kV17 dc17 pm17 cd17 ct17 : Value}
    (a17 : PySem.W.nsIn K mainGlobals "is_plain_lot" = some (some (.ref f17))) (l17 : K.lookup f17 = some ⟨oc17, od17, .func (PySem.W.fnOf "is_plain_lot" "is_plain_lot" (defArgs (top 16)) (defBody (top 16)) (defScope (top 16)) .none kV17 dc17 pm17 an17 cd17 ct17), sl17⟩) (c17 : PySem.W.codeIn K cd17 "is_plain_lot" = true) (k17 : PySem.W.keepIn K (.ref f17) = true)
    {f18 : Addr} {od18 an18 : Option Addr} {sl18 : Array (Option Value)} {oc18 kV18 dc18 pm18 cd18 ct18 : Value}
    (a18 : PySem.W.nsIn K mainGlobals "is_lot" = some (some (.ref f18))) (l18 : K.lookup f18 = some ⟨oc18, od18, .func (PySem.W.fnOf "is_lot" "is_lot" (defArgs (top 27)) (defBody (top 27)) (defScope (top 27)) .none kV18 dc18 pm18 an18 cd18 ct18), sl18⟩) (c18 : PySem.W.codeIn K cd18 "is_lot" = true) (k18 : PySem.W.keepIn K (.ref f18) = true)
    {f19 : Addr} {od19 an19 : Option Addr} {sl19 : Array (Option Value)} {oc19 kV19 dc19 pm19 cd19 ct19 : Value}
    (a19 : PySem.W.nsIn K mainGlobals "sum_of_rows" = some (some (.ref f19))) (l19 : K.lookup f19 = some ⟨oc19, od19, .func (PySem.W.fnOf "sum_of_rows" "sum_of_rows" (defArgs (top 18)) (defBody (top 18)) (defScope (top 18)) .none kV19 dc19 pm19 an19 cd19 ct19), sl19⟩) (c19 : PySem.W.codeIn K cd19 "sum_of_rows" = true) (k19 : PySem.W.keepIn K (.ref f19) = true)
    {f20 : Addr} {od20 an20 : Option Addr} {sl20 : Array (Option Value)} {oc20 kV20 dc20 pm20 cd20 ct20 : Value}
    (a20 : PySem.W.nsIn K mainGlobals "row_plus" = some (some (.ref f20))) (l20 : K.lookup f20 = some ⟨oc20, od20, .func (PySem.W.fnOf "row_plus" "row_plus" (defArgs (top 31)) (defBody (top 31)) (defScope (top 31)) .none kV20 dc20 pm20 an20 cd20 ct20), sl20⟩) (c20 : PySem.W.codeIn K cd20 "row_plus" = true) (k20 : PySem.W.keepIn K (.ref f20) = true)
    {f21 : Addr} {od21 an21 : Option Addr} {sl21 : Array (Option Value)} {oc21 kV21 dc21 pm21 cd21 ct21 : Value}
    (a21 : PySem.W.nsIn K mainGlobals "times_row" = some (some (.ref f21))) (l21 : K.lookup f21 = some ⟨oc21, od21, .func (PySem.W.fnOf "times_row" "times_row" (defArgs (top 19)) (defBody (top 19)) (defScope (top 19)) .none kV21 dc21 pm21 an21 cd21 ct21), sl21⟩) (c21 : PySem.W.codeIn K cd21 "times_row" = true) (k21 : PySem.W.keepIn K (.ref f21) = true)
    {f22 : Addr} {od22 an22 : Option Addr} {sl22 : Array (Option Value)} {oc22 kV22 dc22 pm22 cd22 ct22 : Value}
    (a22 : PySem.W.nsIn K mainGlobals "row_times" = some (some (.ref f22))) (l22 : K.lookup f22 = some ⟨oc22, od22, .func (PySem.W.fnOf "row_times" "row_times" (defArgs (top 32)) (defBody (top 32)) (defScope (top 32)) .none kV22 dc22 pm22 an22 cd22 ct22), sl22⟩) (c22 : PySem.W.codeIn K cd22 "row_times" = true) (k22 : PySem.W.keepIn K (.ref f22) = true)
    {f23 : Addr} {od23 an23 : Option Addr} {sl23 : Array (Option Value)} {oc23 kV23 dc23 pm23 cd23 ct23 : Value}
    (a23 : PySem.W.nsIn K mainGlobals "dot" = some (some (.ref f23))) (l23 : K.lookup f23 = some ⟨oc23, od23, .func (PySem.W.fnOf "dot" "dot" (defArgs (top 17)) (defBody (top 17)) (defScope (top 17)) .none kV23 dc23 pm23 an23 cd23 ct23), sl23⟩) (c23 : PySem.W.codeIn K cd23 "dot" = true) (k23 : PySem.W.keepIn K (.ref f23) = true)
    {f24 : Addr} {od24 an24 : Option Addr} {sl24 : Array (Option Value)} {oc24 kV24 dc24 pm24 cd24 ct24 : Value}
    (a24 : PySem.W.nsIn K mainGlobals "product" = some (some (.ref f24))) (l24 : K.lookup f24 = some ⟨oc24, od24, .func (PySem.W.fnOf "product" "product" (defArgs (top 33)) (defBody (top 33)) (defScope (top 33)) .none kV24 dc24 pm24 an24 cd24 ct24), sl24⟩) (c24 : PySem.W.codeIn K cd24 "product" = true) (k24 : PySem.W.keepIn K (.ref f24) = true)
    {f25 : Addr} {od25 an25 : Option Addr} {sl25 : Array (Option Value)} {oc25 kV25 dc25 pm25 cd25 ct25 : Value}
    (a25 : PySem.W.nsIn K mainGlobals "does_hold" = some (some (.ref f25))) (l25 : K.lookup f25 = some ⟨oc25, od25, .func (PySem.W.fnOf "does_hold" "does_hold" (defArgs (top 22)) (defBody (top 22)) (defScope (top 22)) .none kV25 dc25 pm25 an25 cd25 ct25), sl25⟩) (c25 : PySem.W.codeIn K cd25 "does_hold" = true) (k25 : PySem.W.keepIn K (.ref f25) = true)
    {f26 : Addr} {od26 an26 : Option Addr} {sl26 : Array (Option Value)} {oc26 kV26 dc26 pm26 cd26 ct26 : Value}
    (a26 : PySem.W.nsIn K mainGlobals "require_lot" = some (some (.ref f26))) (l26 : K.lookup f26 = some ⟨oc26, od26, .func (PySem.W.fnOf "require_lot" "require_lot" (defArgs (top 30)) (defBody (top 30)) (defScope (top 30)) .none kV26 dc26 pm26 an26 cd26 ct26), sl26⟩) (c26 : PySem.W.codeIn K cd26 "require_lot" = true) (k26 : PySem.W.keepIn K (.ref f26) = true)
    {f27 : Addr} {od27 an27 : Option Addr} {sl27 : Array (Option Value)} {oc27 kV27 dc27 pm27 cd27 ct27 : Value}
    (a27 : PySem.W.nsIn K mainGlobals "holds" = some (some (.ref f27))) (l27 : K.lookup f27 = some ⟨oc27, od27, .func (PySem.W.fnOf "holds" "holds" (defArgs (top 36)) (defBody (top 36)) (defScope (top 36)) .none kV27 dc27 pm27 an27 cd27 ct27), sl27⟩) (c27 : PySem.W.codeIn K cd27 "holds" = true) (k27 : PySem.W.keepIn K (.ref f27) = true)
    {f28 : Addr} {od28 an28 : Option Addr} {sl28 : Array (Option Value)} {oc28 kV28 dc28 pm28 cd28 ct28 : Value}
    (a28 : PySem.W.nsIn K mainGlobals "require_two_lots" = some (some (.ref f28))) (l28 : K.lookup f28 = some ⟨oc28, od28, .func (PySem.W.fnOf "require_two_lots" "require_two_lots" (defArgs (top 37)) (defBody (top 37)) (defScope (top 37)) .none kV28 dc28 pm28 an28 cd28 ct28), sl28⟩) (c28 : PySem.W.codeIn K cd28 "require_two_lots" = true) (k28 : PySem.W.keepIn K (.ref f28) = true)
    {f29 : Addr} {od29 an29 : Option Addr} {sl29 : Array (Option Value)} {oc29 kV29 dc29 pm29 cd29 ct29 : Value}
    (a29 : PySem.W.nsIn K mainGlobals "joined_lots" = some (some (.ref f29))) (l29 : K.lookup f29 = some ⟨oc29, od29, .func (PySem.W.fnOf "joined_lots" "joined_lots" (defArgs (top 38)) (defBody (top 38)) (defScope (top 38)) .none kV29 dc29 pm29 an29 cd29 ct29), sl29⟩) (c29 : PySem.W.codeIn K cd29 "joined_lots" = true) (k29 : PySem.W.keepIn K (.ref f29) = true)
    {f30 : Addr} {od30 an30 : Option Addr} {sl30 : Array (Option Value)} {oc30 kV30 dc30 pm30 cd30 ct30 : Value}
    (a30 : PySem.W.nsIn K mainGlobals "apart_in" = some (some (.ref f30))) (l30 : K.lookup f30 = some ⟨oc30, od30, .func (PySem.W.fnOf "apart_in" "apart_in" (defArgs (top 25)) (defBody (top 25)) (defScope (top 25)) .none kV30 dc30 pm30 an30 cd30 ct30), sl30⟩) (c30 : PySem.W.codeIn K cd30 "apart_in" = true) (k30 : PySem.W.keepIn K (.ref f30) = true)
    {f31 : Addr} {od31 an31 : Option Addr} {sl31 : Array (Option Value)} {oc31 kV31 dc31 pm31 cd31 ct31 : Value}
    (a31 : PySem.W.nsIn K mainGlobals "met_lots" = some (some (.ref f31))) (l31 : K.lookup f31 = some ⟨oc31, od31, .func (PySem.W.fnOf "met_lots" "met_lots" (defArgs (top 39)) (defBody (top 39)) (defScope (top 39)) .none kV31 dc31 pm31 an31 cd31 ct31), sl31⟩) (c31 : PySem.W.codeIn K cd31 "met_lots" = true) (k31 : PySem.W.keepIn K (.ref f31) = true)
    {f32 : Addr} {od32 an32 : Option Addr} {sl32 : Array (Option Value)} {oc32 kV32 dc32 pm32 cd32 ct32 : Value}
    (a32 : PySem.W.nsIn K mainGlobals "rows_apart" = some (some (.ref f32))) (l32 : K.lookup f32 = some ⟨oc32, od32, .func (PySem.W.fnOf "rows_apart" "rows_apart" (defArgs (top 40)) (defBody (top 40)) (defScope (top 40)) .none kV32 dc32 pm32 an32 cd32 ct32), sl32⟩) (c32 : PySem.W.codeIn K cd32 "rows_apart" = true) (k32 : PySem.W.keepIn K (.ref f32) = true)
    {f33 : Addr} {od33 an33 : Option Addr} {sl33 : Array (Option Value)} {oc33 kV33 dc33 pm33 cd33 ct33 : Value}
    (a33 : PySem.W.nsIn K mainGlobals "sum_in" = some (some (.ref f33))) (l33 : K.lookup f33 = some ⟨oc33, od33, .func (PySem.W.fnOf "sum_in" "sum_in" (defArgs (top 41)) (defBody (top 41)) (defScope (top 41)) .none kV33 dc33 pm33 an33 cd33 ct33), sl33⟩) (c33 : PySem.W.codeIn K cd33 "sum_in" = true) (k33 : PySem.W.keepIn K (.ref f33) = true)
    {f34 : Addr} {od34 an34 : Option Addr} {sl34 : Array (Option Value)} {oc34 kV34 dc34 pm34 cd34 ct34 : Value}
    (a34 : PySem.W.nsIn K mainGlobals "span_paper" = some (some (.ref f34))) (l34 : K.lookup f34 = some ⟨oc34, od34, .func (PySem.W.fnOf "span_paper" "span_paper" (defArgs (top 42)) (defBody (top 42)) (defScope (top 42)) .none kV34 dc34 pm34 an34 cd34 ct34), sl34⟩) (c34 : PySem.W.codeIn K cd34 "span_paper" = true) (k34 : PySem.W.keepIn K (.ref f34) = true)
    {f35 : Addr} {od35 an35 : Option Addr} {sl35 : Array (Option Value)} {oc35 kV35 dc35 pm35 cd35 ct35 : Value}
    (a35 : PySem.W.nsIn K mainGlobals "is_span_paper" = some (some (.ref f35))) (l35 : K.lookup f35 = some ⟨oc35, od35, .func (PySem.W.fnOf "is_span_paper" "is_span_paper" (defArgs (top 43)) (defBody (top 43)) (defScope (top 43)) .none kV35 dc35 pm35 an35 cd35 ct35), sl35⟩) (c35 : PySem.W.codeIn K cd35 "is_span_paper" = true) (k35 : PySem.W.keepIn K (.ref f35) = true)
    {f36 : Addr} {od36 an36 : Option Addr} {sl36 : Array (Option Value)} {oc36 kV36 dc36 pm36 cd36 ct36 : Value}
    (a36 : PySem.W.nsIn K mainGlobals "_law_roll" = some (some (.ref f36))) (l36 : K.lookup f36 = some ⟨oc36, od36, .func (PySem.W.fnOf "_law_roll" "_law_roll" (defArgs (top 46)) (defBody (top 46)) (defScope (top 46)) .none kV36 dc36 pm36 an36 cd36 ct36), sl36⟩) (c36 : PySem.W.codeIn K cd36 "_law_roll" = true) (k36 : PySem.W.keepIn K (.ref f36) = true)
    {f37 : Addr} {od37 an37 : Option Addr} {sl37 : Array (Option Value)} {oc37 kV37 dc37 pm37 cd37 ct37 : Value}
    (a37 : PySem.W.nsIn K mainGlobals "_law_pick" = some (some (.ref f37))) (l37 : K.lookup f37 = some ⟨oc37, od37, .func (PySem.W.fnOf "_law_pick" "_law_pick" (defArgs (top 47)) (defBody (top 47)) (defScope (top 47)) .none kV37 dc37 pm37 an37 cd37 ct37), sl37⟩) (c37 : PySem.W.codeIn K cd37 "_law_pick" = true) (k37 : PySem.W.keepIn K (.ref f37) = true)
    {f38 : Addr} {od38 an38 : Option Addr} {sl38 : Array (Option Value)} {oc38 kV38 dc38 pm38 cd38 ct38 : Value}
    (a38 : PySem.W.nsIn K mainGlobals "_law_one" = some (some (.ref f38))) (l38 : K.lookup f38 = some ⟨oc38, od38, .func (PySem.W.fnOf "_law_one" "_law_one" (defArgs (top 49)) (defBody (top 49)) (defScope (top 49)) .none kV38 dc38 pm38 an38 cd38 ct38), sl38⟩) (c38 : PySem.W.codeIn K cd38 "_law_one" = true) (k38 : PySem.W.keepIn K (.ref f38) = true)
    {f39 : Addr} {od39 an39 : Option Addr} {sl39 : Array (Option Value)} {oc39 kV39 dc39 pm39 cd39 ct39 : Value}
    (a39 : PySem.W.nsIn K mainGlobals "_law_due" = some (some (.ref f39))) (l39 : K.lookup f39 = some ⟨oc39, od39, .func (PySem.W.fnOf "_law_due" "_law_due" (defArgs (top 50)) (defBody (top 50)) (defScope (top 50)) .none kV39 dc39 pm39 an39 cd39 ct39), sl39⟩) (c39 : PySem.W.codeIn K cd39 "_law_due" = true) (k39 : PySem.W.keepIn K (.ref f39) = true)
    {f40 : Addr} {od40 an40 : Option Addr} {sl40 : Array (Option Value)} {oc40 kV40 dc40 pm40 cd40 ct40 : Value}
    (a40 : PySem.W.nsIn K mainGlobals "_law_right" = some (some (.ref f40))) (l40 : K.lookup f40 = some ⟨oc40, od40, .func (PySem.W.fnOf "_law_right" "_law_right" (defArgs (top 51)) (defBody (top 51)) (defScope (top 51)) .none kV40 dc40 pm40 an40 cd40 ct40), sl40⟩) (c40 : PySem.W.codeIn K cd40 "_law_right" = true) (k40 : PySem.W.keepIn K (.ref f40) = true)
    {f41 : Addr} {od41 an41 : Option Addr} {sl41 : Array (Option Value)} {oc41 kV41 dc41 pm41 cd41 ct41 : Value}
    (a41 : PySem.W.nsIn K mainGlobals "law" = some (some (.ref f41))) (l41 : K.lookup f41 = some ⟨oc41, od41, .func (PySem.W.fnOf "law" "law" (defArgs (top 52)) (defBody (top 52)) (defScope (top 52)) .none kV41 dc41 pm41 an41 cd41 ct41), sl41⟩) (c41 : PySem.W.codeIn K cd41 "law" = true) (k41 : PySem.W.keepIn K (.ref f41) = true)
    (z_abs : PySem.W.nsIn K mainGlobals "abs" = some none)
    (z_all : PySem.W.nsIn K mainGlobals "all" = some none)
    (z_any : PySem.W.nsIn K mainGlobals "any" = some none)
    (z_bool : PySem.W.nsIn K mainGlobals "bool" = some none)
    (z_enumerate : PySem.W.nsIn K mainGlobals "enumerate" = some none)
    (z_int : PySem.W.nsIn K mainGlobals "int" = some none)
    (z_isinstance : PySem.W.nsIn K mainGlobals "isinstance" = some none)
    (z_len : PySem.W.nsIn K mainGlobals "len" = some none)
    (z_max : PySem.W.nsIn K mainGlobals "max" = some none)
    (z_min : PySem.W.nsIn K mainGlobals "min" = some none)
    (z_range : PySem.W.nsIn K mainGlobals "range" = some none)
    (z_repr : PySem.W.nsIn K mainGlobals "repr" = some none)
    (z_sorted : PySem.W.nsIn K mainGlobals "sorted" = some none)
    (z_str : PySem.W.nsIn K mainGlobals "str" = some none)
    (z_sum : PySem.W.nsIn K mainGlobals "sum" = some none)
    (z_tuple : PySem.W.nsIn K mainGlobals "tuple" = some none)
    (z_zip : PySem.W.nsIn K mainGlobals "zip" = some none)
    {t_APART : Tok} (e_APART : PySem.W.nsIn K mainGlobals "APART" = some (some (.str "apart" t_APART)))
    {t_MAX_WIDTH : Tok} (e_MAX_WIDTH : PySem.W.nsIn K mainGlobals "MAX_WIDTH" = some (some (.int (60) t_MAX_WIDTH)))
    {t_SUM : Tok} (e_SUM : PySem.W.nsIn K mainGlobals "SUM" = some (some (.str "sum" t_SUM)))
    (TX : Glx P K mg)
    {base : Heap}
    {c40a p40a : Addr} (m40 : cd40 = .ref c40a) (TB40 : LamX.TabB base mg c40a p40a) (q40 : (p40a, lamQ_L_right) ∈ DLX.T)
    {c41a p41a : Addr} (m41 : cd41 = .ref c41a) (TB41 : LamX.TabB base mg c41a p41a) (q41 : (p41a, lamQ_law) ∈ DLX.T)
    : FnD P w K mg base "law" 11 1 F_law := by
  have T : Glb mg := ⟨PySem.W.mg_none_of X G z_abs, PySem.W.mg_none_of X G z_all, PySem.W.mg_none_of X G z_any, PySem.W.mg_none_of X G z_bool, PySem.W.mg_none_of X G z_enumerate, PySem.W.mg_none_of X G z_int, PySem.W.mg_none_of X G z_isinstance, PySem.W.mg_none_of X G z_len, PySem.W.mg_none_of X G z_max, PySem.W.mg_none_of X G z_min, PySem.W.mg_none_of X G z_range, PySem.W.mg_none_of X G z_repr, PySem.W.mg_none_of X G z_sorted, PySem.W.mg_none_of X G z_str, PySem.W.mg_none_of X G z_sum, PySem.W.mg_none_of X G z_tuple, PySem.W.mg_none_of X G z_zip, ⟨_, PySem.W.mg_of X G e_APART⟩, ⟨_, PySem.W.mg_of X G e_MAX_WIDTH⟩, ⟨_, PySem.W.mg_of X G e_SUM⟩⟩
  have F0 := fun_mk (st := top 10) l0 c0 k0
  have h_is_integer : FnD P w K mg base "is_integer" 1 1 F_is_integer := ok_is_integer T TX F0 (PySem.W.mg_of X G a0) (F0.binds (ps := ["value"]) fun _ _ _ _ _ _ us hl => match us, hl with | [_], _ => rfl) 
  have F1 := fun_mk (st := top 11) l1 c1 k1
  have h_require_width : FnD P w K mg base "require_width" 5 1 F_require_width := ok_require_width T TX F1 (PySem.W.mg_of X G a1) (F1.binds (ps := ["width"]) fun _ _ _ _ _ _ us hl => match us, hl with | [_], _ => rfl) h_is_integer
  have F2 := fun_mk (st := top 13) l2 c2 k2
  have h_lead_in : FnD P w K mg base "lead_in" 1 1 F_lead_in := ok_lead_in T TX F2 (PySem.W.mg_of X G a2) (F2.binds (ps := ["row"]) fun _ _ _ _ _ _ us hl => match us, hl with | [_], _ => rfl) 
  have F3 := fun_mk (st := top 14) l3 c3 k3
  have h_common_share : FnD P w K mg base "common_share" 1 2 F_common_share := ok_common_share T TX F3 (PySem.W.mg_of X G a3) (F3.binds (ps := ["one", "other"]) fun _ _ _ _ _ _ us hl => match us, hl with | [_, _], _ => rfl) 
  have F4 := fun_mk (st := top 15) l4 c4 k4
  have h_lowest_row : FnD P w K mg base "lowest_row" 2 1 F_lowest_row := ok_lowest_row T TX F4 (PySem.W.mg_of X G a4) (F4.binds (ps := ["row"]) fun _ _ _ _ _ _ us hl => match us, hl with | [_], _ => rfl) h_lead_in h_common_share
  have F5 := fun_mk (st := top 12) l5 c5 k5
  have h_is_plain_row : FnD P w K mg base "is_plain_row" 2 2 F_is_plain_row := ok_is_plain_row T TX F5 (PySem.W.mg_of X G a5) (F5.binds (ps := ["width", "value"]) fun _ _ _ _ _ _ us hl => match us, hl with | [_, _], _ => rfl) h_is_integer
  have F6 := fun_mk (st := top 28) l6 c6 k6
  have h_require_row : FnD P w K mg base "require_row" 3 2 F_require_row := ok_require_row T TX F6 (PySem.W.mg_of X G a6) (F6.binds (ps := ["width", "row"]) fun _ _ _ _ _ _ us hl => match us, hl with | [_, _], _ => rfl) h_is_plain_row
  have F7 := fun_mk (st := top 34) l7 c7 k7
  have h_lowest : FnD P w K mg base "lowest" 6 2 F_lowest := ok_lowest T TX F7 (PySem.W.mg_of X G a7) (F7.binds (ps := ["width", "row"]) fun _ _ _ _ _ _ us hl => match us, hl with | [_, _], _ => rfl) h_require_width h_lowest_row h_require_row
  have F8 := fun_mk (st := top 20) l8 c8 k8
  have h_less_by : FnD P w K mg base "less_by" 2 2 F_less_by := ok_less_by T TX F8 (PySem.W.mg_of X G a8) (F8.binds (ps := ["row", "other"]) fun _ _ _ _ _ _ us hl => match us, hl with | [_, _], _ => rfl) h_lead_in
  have F9 := fun_mk (st := top 21) l9 c9 k9
  have h_rest_by : FnD P w K mg base "rest_by" 3 2 F_rest_by := ok_rest_by T TX F9 (PySem.W.mg_of X G a9) (F9.binds (ps := ["lot", "row"]) fun _ _ _ _ _ _ us hl => match us, hl with | [_, _], _ => rfl) h_less_by
  have F10 := fun_mk (st := top 23) l10 c10 k10
  have h_with_row : FnD P w K mg base "with_row" 4 2 F_with_row := ok_with_row T TX F10 (PySem.W.mg_of X G a10) (F10.binds (ps := ["lot", "row"]) fun _ _ _ _ _ _ us hl => match us, hl with | [_, _], _ => rfl) h_lead_in h_lowest_row h_less_by h_rest_by
  have F11 := fun_mk (st := top 24) l11 c11 k11
  have h_lot_in : FnD P w K mg base "lot_in" 5 1 F_lot_in := ok_lot_in T TX F11 (PySem.W.mg_of X G a11) (F11.binds (ps := ["rows"]) fun _ _ _ _ _ _ us hl => match us, hl with | [_], _ => rfl) h_with_row
  have F12 := fun_mk (st := top 29) l12 c12 k12
  have h_require_rows : FnD P w K mg base "require_rows" 3 2 F_require_rows := ok_require_rows T TX F12 (PySem.W.mg_of X G a12) (F12.binds (ps := ["width", "rows"]) fun _ _ _ _ _ _ us hl => match us, hl with | [_, _], _ => rfl) h_is_plain_row
  have F13 := fun_mk (st := top 35) l13 c13 k13
  have h_lot_of : FnD P w K mg base "lot_of" 6 2 F_lot_of := ok_lot_of T TX F13 (PySem.W.mg_of X G a13) (F13.binds (ps := ["width", "rows"]) fun _ _ _ _ _ _ us hl => match us, hl with | [_, _], _ => rfl) h_require_width h_lot_in h_require_rows
  have F14 := fun_mk (st := top 45) l14 c14 k14
  have h_L_dice : FnD P w K mg base "_law_dice" 1 2 F_L_dice := ok_L_dice T TX F14 (PySem.W.mg_of X G a14) (F14.binds (ps := ["script", "spot"]) fun _ _ _ _ _ _ us hl => match us, hl with | [_, _], _ => rfl) 
  have F15 := fun_mk (st := top 48) l15 c15 k15
  have h_L_met : MetD P w K mg base "_law_met" "call" "fine" cl_L_met := ok_L_met T TX F15 (PySem.W.mg_of X G a15) (F15.binds (ps := ["call"]) fun _ _ _ _ _ _ us hl => match us, hl with | [_], _ => rfl)
  have F16 := fun_mk (st := top 26) l16 c16 k16
  have h_is_row : FnD P w K mg base "is_row" 6 2 F_is_row := ok_is_row T TX F16 (PySem.W.mg_of X G a16) (F16.binds (ps := ["width", "value"]) fun _ _ _ _ _ _ us hl => match us, hl with | [_, _], _ => rfl) h_require_width h_is_plain_row
  have F17 := fun_mk (st := top 16) l17 c17 k17
  have h_is_plain_lot : FnD P w K mg base "is_plain_lot" 3 2 F_is_plain_lot := ok_is_plain_lot T TX F17 (PySem.W.mg_of X G a17) (F17.binds (ps := ["width", "value"]) fun _ _ _ _ _ _ us hl => match us, hl with | [_, _], _ => rfl) h_is_plain_row h_lead_in h_lowest_row
  have F18 := fun_mk (st := top 27) l18 c18 k18
  have h_is_lot : FnD P w K mg base "is_lot" 6 2 F_is_lot := ok_is_lot T TX F18 (PySem.W.mg_of X G a18) (F18.binds (ps := ["width", "value"]) fun _ _ _ _ _ _ us hl => match us, hl with | [_, _], _ => rfl) h_require_width h_is_plain_lot
  have F19 := fun_mk (st := top 18) l19 c19 k19
  have h_sum_of_rows : FnD P w K mg base "sum_of_rows" 1 2 F_sum_of_rows := ok_sum_of_rows T TX F19 (PySem.W.mg_of X G a19) (F19.binds (ps := ["one", "other"]) fun _ _ _ _ _ _ us hl => match us, hl with | [_, _], _ => rfl) 
  have F20 := fun_mk (st := top 31) l20 c20 k20
  have h_row_plus : FnD P w K mg base "row_plus" 6 3 F_row_plus := ok_row_plus T TX F20 (PySem.W.mg_of X G a20) (F20.binds (ps := ["width", "one", "other"]) fun _ _ _ _ _ _ us hl => match us, hl with | [_, _, _], _ => rfl) h_require_width h_sum_of_rows h_require_row
  have F21 := fun_mk (st := top 19) l21 c21 k21
  have h_times_row : FnD P w K mg base "times_row" 1 2 F_times_row := ok_times_row T TX F21 (PySem.W.mg_of X G a21) (F21.binds (ps := ["number", "row"]) fun _ _ _ _ _ _ us hl => match us, hl with | [_, _], _ => rfl) 
  have F22 := fun_mk (st := top 32) l22 c22 k22
  have h_row_times : FnD P w K mg base "row_times" 6 3 F_row_times := ok_row_times T TX F22 (PySem.W.mg_of X G a22) (F22.binds (ps := ["width", "number", "row"]) fun _ _ _ _ _ _ us hl => match us, hl with | [_, _, _], _ => rfl) h_is_integer h_require_width h_times_row h_require_row
  have F23 := fun_mk (st := top 17) l23 c23 k23
  have h_dot : FnD P w K mg base "dot" 1 2 F_dot := ok_dot T TX F23 (PySem.W.mg_of X G a23) (F23.binds (ps := ["one", "other"]) fun _ _ _ _ _ _ us hl => match us, hl with | [_, _], _ => rfl) 
  have F24 := fun_mk (st := top 33) l24 c24 k24
  have h_product : FnD P w K mg base "product" 6 3 F_product := ok_product T TX F24 (PySem.W.mg_of X G a24) (F24.binds (ps := ["width", "one", "other"]) fun _ _ _ _ _ _ us hl => match us, hl with | [_, _, _], _ => rfl) h_require_width h_dot h_require_row
  have F25 := fun_mk (st := top 22) l25 c25 k25
  have h_does_hold : FnD P w K mg base "does_hold" 4 2 F_does_hold := ok_does_hold T TX F25 (PySem.W.mg_of X G a25) (F25.binds (ps := ["lot", "row"]) fun _ _ _ _ _ _ us hl => match us, hl with | [_, _], _ => rfl) h_lead_in h_rest_by
  have F26 := fun_mk (st := top 30) l26 c26 k26
  have h_require_lot : FnD P w K mg base "require_lot" 4 2 F_require_lot := ok_require_lot T TX F26 (PySem.W.mg_of X G a26) (F26.binds (ps := ["width", "lot"]) fun _ _ _ _ _ _ us hl => match us, hl with | [_, _], _ => rfl) h_is_plain_lot
  have F27 := fun_mk (st := top 36) l27 c27 k27
  have h_holds : FnD P w K mg base "holds" 6 3 F_holds := ok_holds T TX F27 (PySem.W.mg_of X G a27) (F27.binds (ps := ["width", "lot", "row"]) fun _ _ _ _ _ _ us hl => match us, hl with | [_, _, _], _ => rfl) h_require_width h_does_hold h_require_row h_require_lot
  have F28 := fun_mk (st := top 37) l28 c28 k28
  have h_require_two_lots : FnD P w K mg base "require_two_lots" 6 3 F_require_two_lots := ok_require_two_lots T TX F28 (PySem.W.mg_of X G a28) (F28.binds (ps := ["width", "lot", "other"]) fun _ _ _ _ _ _ us hl => match us, hl with | [_, _, _], _ => rfl) h_require_width h_require_lot
  have F29 := fun_mk (st := top 38) l29 c29 k29
  have h_joined_lots : FnD P w K mg base "joined_lots" 7 3 F_joined_lots := ok_joined_lots T TX F29 (PySem.W.mg_of X G a29) (F29.binds (ps := ["width", "lot", "other"]) fun _ _ _ _ _ _ us hl => match us, hl with | [_, _, _], _ => rfl) h_lot_in h_require_two_lots
  have F30 := fun_mk (st := top 25) l30 c30 k30
  have h_apart_in : FnD P w K mg base "apart_in" 6 2 F_apart_in := ok_apart_in T TX F30 (PySem.W.mg_of X G a30) (F30.binds (ps := ["width", "lot"]) fun _ _ _ _ _ _ us hl => match us, hl with | [_, _], _ => rfl) h_lead_in h_lot_in
  have F31 := fun_mk (st := top 39) l31 c31 k31
  have h_met_lots : FnD P w K mg base "met_lots" 7 3 F_met_lots := ok_met_lots T TX F31 (PySem.W.mg_of X G a31) (F31.binds (ps := ["width", "lot", "other"]) fun _ _ _ _ _ _ us hl => match us, hl with | [_, _, _], _ => rfl) h_lot_in h_apart_in h_require_two_lots
  have F32 := fun_mk (st := top 40) l32 c32 k32
  have h_rows_apart : FnD P w K mg base "rows_apart" 7 2 F_rows_apart := ok_rows_apart T TX F32 (PySem.W.mg_of X G a32) (F32.binds (ps := ["width", "lot"]) fun _ _ _ _ _ _ us hl => match us, hl with | [_, _], _ => rfl) h_require_width h_apart_in h_require_lot
  have F33 := fun_mk (st := top 41) l33 c33 k33
  have h_sum_in : FnD P w K mg base "sum_in" 4 3 F_sum_in := ok_sum_in T TX F33 (PySem.W.mg_of X G a33) (F33.binds (ps := ["width", "rows", "row"]) fun _ _ _ _ _ _ us hl => match us, hl with | [_, _, _], _ => rfl) h_lead_in h_common_share h_lowest_row h_rest_by
  have F34 := fun_mk (st := top 42) l34 c34 k34
  have h_span_paper : FnD P w K mg base "span_paper" 7 3 F_span_paper := ok_span_paper T TX F34 (PySem.W.mg_of X G a34) (F34.binds (ps := ["width", "rows", "row"]) fun _ _ _ _ _ _ us hl => match us, hl with | [_, _, _], _ => rfl) h_require_width h_dot h_lot_in h_apart_in h_require_row h_require_rows h_sum_in
  have F35 := fun_mk (st := top 43) l35 c35 k35
  have h_is_span_paper : FnD P w K mg base "is_span_paper" 6 4 F_is_span_paper := ok_is_span_paper T TX F35 (PySem.W.mg_of X G a35) (F35.binds (ps := ["width", "rows", "row", "value"]) fun _ _ _ _ _ _ us hl => match us, hl with | [_, _, _, _], _ => rfl) h_is_integer h_require_width h_is_plain_row h_dot h_sum_of_rows h_times_row h_require_row h_require_rows
  have F36 := fun_mk (st := top 46) l36 c36 k36
  have h_L_roll : FnD P w K mg base "_law_roll" 1 2 F_L_roll := ok_L_roll T TX F36 (PySem.W.mg_of X G a36) (F36.binds (ps := ["dice", "total"]) fun _ _ _ _ _ _ us hl => match us, hl with | [_, _], _ => rfl) 
  have F37 := fun_mk (st := top 47) l37 c37 k37
  have h_L_pick : FnD P w K mg base "_law_pick" 2 2 F_L_pick := ok_L_pick T TX F37 (PySem.W.mg_of X G a37) (F37.binds (ps := ["dice", "items"]) fun _ _ _ _ _ _ us hl => match us, hl with | [_, _], _ => rfl) h_L_roll
  have F38 := fun_mk (st := top 49) l38 c38 k38
  have h_L_one : FnD P w K mg base "_law_one" 3 3 F_L_one := ok_L_one T TX F38 (PySem.W.mg_of X G a38) (F38.binds (ps := ["dice", "right", "wrong"]) fun _ _ _ _ _ _ us hl => match us, hl with | [_, _, _], _ => rfl) h_L_roll h_L_pick
  have F39 := fun_mk (st := top 50) l39 c39 k39
  have h_L_due : FnD P w K mg base "_law_due" 1 1 F_L_due := ok_L_due T TX F39 (PySem.W.mg_of X G a39) (F39.binds (ps := ["pairs"]) fun _ _ _ _ _ _ us hl => match us, hl with | [_], _ => rfl) 
  have F40 := fun_mk (st := top 51) l40 c40 k40
  have h_L_right : FnD P w K mg base "_law_right" 10 1 F_L_right := ok_L_right T TX F40 (PySem.W.mg_of X G a40) (F40.binds (ps := ["dice"]) fun _ _ _ _ _ _ us hl => match us, hl with | [_], _ => rfl) (c := c40a) (Pt := p40a) m40 TB40 q40 h_is_row h_is_lot h_row_plus h_row_times h_product h_lowest h_lot_of h_holds h_joined_lots h_met_lots h_rows_apart h_span_paper h_is_span_paper h_L_roll h_L_met h_L_one h_L_due
  have F41 := fun_mk (st := top 52) l41 c41 k41
  have h_law : FnD P w K mg base "law" 11 1 F_law := ok_law T TX F41 (PySem.W.mg_of X G a41) (F41.binds (ps := ["script"]) fun _ _ _ _ _ _ us hl => match us, hl with | [_], _ => rfl) (c := c41a) (Pt := p41a) m41 TB41 q41 h_lowest h_lot_of h_L_dice h_L_met h_L_right
  exact h_law
end K14

namespace K14
open PySem PySem.Spec PyProof.Rows L2 DL
instance : DLX := ⟨[], fun _ => none⟩
/-! ### the sort, so that the kernel can run it -/
def insP (a : Int × D) : List (Int × D) → List (Int × D)
  | [] => [a]
  | b :: r => if a.1 ≤ b.1 then a :: b :: r else b :: insP a r
def sortP : List (Int × D) → List (Int × D)
  | [] => []
  | a :: r => insP a (sortP r)
theorem insP_at {a : Int × D} : ∀ {l₁ l₂ : List (Int × D)}, (∀ b ∈ l₁, ¬ a.1 ≤ b.1) → (∀ b ∈ l₂, a.1 ≤ b.1) → insP a (l₁ ++ l₂) = l₁ ++ a :: l₂
  | [], [], _, _ => rfl
  | [], b :: r, _, h => by
    show insP a (b :: r) = _
    simp only [insP, h b (by simp), if_true, List.nil_append]
  | b :: l, l₂, h1, h2 => by
    show insP a (b :: (l ++ l₂)) = _
    simp only [insP, h1 b (by simp), if_false, List.cons_append]
    rw [insP_at (fun c hc => h1 c (by simp [hc])) h2]
theorem sortP_eq (l : List (Int × D)) : (l.mergeSort fun p q => decide (p.1 ≤ q.1)) = sortP l := by
  induction l with
  | nil => simp [sortP]
  | cons a l ih =>
    have tr : ∀ a b c : Int × D, decide (a.1 ≤ b.1) = true → decide (b.1 ≤ c.1) = true → decide (a.1 ≤ c.1) = true := fun a b c h1 h2 => by
      simp only [decide_eq_true_eq] at *
      omega
    have to : ∀ a b : Int × D, (decide (a.1 ≤ b.1) || decide (b.1 ≤ a.1)) = true := fun a b => by
      simp only [Bool.or_eq_true, decide_eq_true_eq]
      omega
    obtain ⟨l₁, l₂, e1, e2, e3⟩ := List.mergeSort_cons tr to a l
    have so := List.pairwise_mergeSort tr to (a :: l)
    rw [e1] at so
    have so2 := (List.pairwise_append.mp so).2.1
    rw [List.pairwise_cons] at so2
    rw [e1]
    show _ = insP a (sortP l)
    rw [← ih, e2]
    refine (insP_at (fun b hb => ?_) fun b hb => by simpa using so2.1 b hb).symm
    simpa using e3 b hb
def dSortI (F : FF) (fa : FE) : FC := fun s => (fa s).bind fun d s1 => match asL s1 d with
  | some xs => if xs.length ≤ 16777216 then (match keysI F xs s1.μ with
    | some (ks, μ) => .ok (.lst ((sortP (ks.zip xs)).map (·.2))) { s1 with μ := μ }
    | none => .bad) else .bad
  | none => .bad
theorem dSortKey_eq (F : FF) (fa : FE) : dSortKey F fa = dSortI F fa := by
  funext s
  unfold dSortKey dSortI
  first
    | (simp only [sortP_eq]; done)
    | (simp only [sortP_eq]; rfl)
def c_with_row : FS := (dSeq (dAsg 2 (dCall F_lowest_row (dCons (dCall F_rest_by (dCons (dVar 0) (dCons (dVar 1) dNil))) dNil)))
    (dSeq (dIfS (dCmpT isN (dCall F_lead_in (dCons (dVar 2) dNil)) (dC .non)) (dRet (dVar 0)) dSkip)
    (dSeq (dAsg 3 (dOp gAdd (dFrz (dLc [4] (dIter (dVar 0)) (gNm 4) dYes (dCall F_lowest_row (dCons (dCall F_less_by (dCons (dVar 4) (dCons (dVar 2) dNil))) dNil)))) (dFrz (dLst (dCons (dVar 2) dNil)))))
    (dRet (dB gTuple (dCons (dFrz (dSortI F_lead_in (dVar 3))) dNil))))))
def G_with_row : FF := runF c_with_row 5
theorem e_with_row : F_with_row = G_with_row := by
  unfold F_with_row G_with_row b_with_row c_with_row
  rw [dSortKey_eq]
def c_lot_in : FS := (dSeq (dAsg 1 (dTup dNil))
    (dSeq (dForI (dIter (dVar 0)) (gNm 2) (dAsg 1 (dCall G_with_row (dCons (dVar 1) (dCons (dVar 2) dNil)))))
    (dRet (dVar 1))))
def G_lot_in : FF := runF c_lot_in 3
theorem e_lot_in : F_lot_in = G_lot_in := by
  unfold F_lot_in G_lot_in b_lot_in c_lot_in
  rw [e_with_row]
def c_lot_of : FS := (dSeq (dDrop (dCall F_require_width (dCons (dVar 0) dNil)))
    (dSeq (dDrop (dCall F_require_rows (dCons (dVar 0) (dCons (dVar 1) dNil))))
    (dRet (dCall G_lot_in (dCons (dVar 1) dNil)))))
def G_lot_of : FF := runF c_lot_of 2
theorem e_lot_of : F_lot_of = G_lot_of := by
  unfold F_lot_of G_lot_of b_lot_of c_lot_of
  rw [e_lot_in]
def c_joined_lots : FS := (dSeq (dDrop (dCall F_require_two_lots (dCons (dVar 0) (dCons (dVar 1) (dCons (dVar 2) dNil)))))
    (dRet (dCall G_lot_in (dCons (dOp gAdd (dVar 1) (dVar 2)) dNil))))
def G_joined_lots : FF := runF c_joined_lots 3
theorem e_joined_lots : F_joined_lots = G_joined_lots := by
  unfold F_joined_lots G_joined_lots b_joined_lots c_joined_lots
  rw [e_lot_in]
def c_apart_in : FS := (dSeq (dParM3 3 4 5 (dMv (dFrz (dLc [2] (dIter (dVar 1)) (gNm 2) dYes (dCall F_lead_in (dCons (dVar 2) dNil)))) (dMv (dC (.int (1))) (dMc (dLst dNil) dMn))))
    (dSeq (dForI (dIterZp (dCons (dVar 3) (dCons (dVar 1) dNil))) (gT (gC (gNm 6) (gC (gNm 2) gN))) (dAsg 4 (dOp gMul (dVar 4) (dOp gIx (dVar 2) (dVar 6)))))
    (dSeq (dFrzS 5 (dForI (dRng1 (dCons (dVar 0) dNil)) (gNm 7) (dIfS (dCmpT (gDat niG) (dVar 7) (dVar 3)) (dSeq (dAsgO 8 (dRepF (dLst (dCons (dC (.int (0))) dNil)) (dVar 0)))
    (dSeq (dSetI gSetI (dVar 4) (dVar 8) (dVar 7))
    (dSeq (dForI (dIterZp (dCons (dVar 3) (dCons (dVar 1) dNil))) (gT (gC (gNm 6) (gC (gNm 2) gN))) (dSetI gSetI (dOp gSub (dC (.int (0))) (dOp gMul (dOp gIx (dVar 2) (dVar 7)) (dOp gFdiv (dVar 4) (dOp gIx (dVar 2) (dVar 6))))) (dVar 8) (dVar 6)))
    (dDrop (dM "list" gAppend (dVar 5) (dCons (dB gTuple (dCons (dVar 8) dNil)) dNil)))))) dSkip)))
    (dRet (dCall G_lot_in (dCons (dVar 5) dNil))))))
def G_apart_in : FF := runF c_apart_in 9
theorem e_apart_in : F_apart_in = G_apart_in := by
  unfold F_apart_in G_apart_in b_apart_in c_apart_in
  rw [e_lot_in]
def c_met_lots : FS := (dSeq (dDrop (dCall F_require_two_lots (dCons (dVar 0) (dCons (dVar 1) (dCons (dVar 2) dNil)))))
    (dRet (dCall G_apart_in (dCons (dVar 0) (dCons (dCall G_lot_in (dCons (dOp gAdd (dCall G_apart_in (dCons (dVar 0) (dCons (dVar 1) dNil))) (dCall G_apart_in (dCons (dVar 0) (dCons (dVar 2) dNil)))) dNil)) dNil)))))
def G_met_lots : FF := runF c_met_lots 3
theorem e_met_lots : F_met_lots = G_met_lots := by
  unfold F_met_lots G_met_lots b_met_lots c_met_lots
  rw [e_apart_in, e_lot_in]
def c_rows_apart : FS := (dSeq (dDrop (dCall F_require_width (dCons (dVar 0) dNil)))
    (dSeq (dDrop (dCall F_require_lot (dCons (dVar 0) (dCons (dVar 1) dNil))))
    (dRet (dCall G_apart_in (dCons (dVar 0) (dCons (dVar 1) dNil))))))
def G_rows_apart : FF := runF c_rows_apart 2
theorem e_rows_apart : F_rows_apart = G_rows_apart := by
  unfold F_rows_apart G_rows_apart b_rows_apart c_rows_apart
  rw [e_apart_in]
def c_span_paper : FS := (dSeq (dDrop (dCall F_require_width (dCons (dVar 0) dNil)))
    (dSeq (dDrop (dCall F_require_rows (dCons (dVar 0) (dCons (dVar 1) dNil))))
    (dSeq (dDrop (dCall F_require_row (dCons (dVar 0) (dCons (dVar 2) dNil))))
    (dSeq (dAsg 3 (dCall F_sum_in (dCons (dVar 0) (dCons (dVar 1) (dCons (dVar 2) dNil)))))
    (dSeq (dIfS (dCmpT notN (dVar 3) (dC .non)) (dRet (dTup (dCons (dC (.str "sum")) (dStar (dVar 3) dNil)))) dSkip)
    (dSeq (dFrzS 4 (dAsgO 4 (dLc [5] (dIter (dCall G_apart_in (dCons (dVar 0) (dCons (dCall G_lot_in (dCons (dVar 1) dNil)) dNil)))) (gNm 5) (dCmpT neS (dCall F_dot (dCons (dVar 5) (dCons (dVar 2) dNil))) (dC (.int (0)))) (dVar 5))))
    (dRet (dTup (dCons (dC (.str "apart")) (dCons (dOp gIx (dVar 4) (dC (.int (0)))) dNil))))))))))
def G_span_paper : FF := runF c_span_paper 6
theorem e_span_paper : F_span_paper = G_span_paper := by
  unfold F_span_paper G_span_paper b_span_paper c_span_paper
  rw [e_apart_in, e_lot_in]
end K14

namespace K14
open PySem PySem.Spec PyProof.Rows L2 DL
/-! ### steps (k11's, turned) -/
theorem bl_py {α : Type} (f : α → Bool) : ∀ xs : List α, toPyL (xs.map fun x => D.bl (f x)) = some (xs.map fun x => .bool (f x))
  | [] => rfl
  | x :: xs => by simp [toPyL, toPy, bl_py f xs]
theorem bl_plain {α : Type} (f : α → Bool) : ∀ xs : List α, PyData.plainAll (xs.map fun x => PyData.bool (f x)) = true
  | [] => by simp [PyData.plainAll]
  | x :: xs => by simp [PyData.plainAll, PyData.plain, bl_plain f xs]
@[simp] theorem all_bl {α : Type} (s : S) (f : α → Bool) (xs : List α) : gAll s [.lst (xs.map fun x => .bl (f x))] = some (.bl (xs.all f)) := by
  simp only [gAll, asl_lst, Option.bind_some, truthP, bl_py, bl_plain, Bool.true_and]
  rw [if_pos (by simp)]
  simp only [Option.map_some]
  congr 2
  rw [List.all_map]
  rfl
@[simp] theorem any_bl {α : Type} (s : S) (f : α → Bool) (xs : List α) : gAny s [.lst (xs.map fun x => .bl (f x))] = some (.bl (xs.any f)) := by
  simp only [gAny, asl_lst, Option.bind_some, truthP, bl_py, bl_plain, Bool.true_and]
  rw [if_pos (by simp)]
  simp only [Option.map_some]
  congr 2
  rw [List.any_map]
  rfl
def lead : List Int → Option Nat
  | [] => none
  | x :: xs => if x = 0 then (lead xs).map (· + 1) else some 0
theorem log_lt {a n : Nat} (h : a < 2 ^ n) (hn : 0 < n) : a.log2 < n := by
  by_cases ha : a = 0
  · subst ha; simpa using hn
  · exact (Nat.log2_lt ha).mpr h
theorem fdivOk_of {a b : Int} {n : Nat} (h0 : b ≠ 0) (h : b.natAbs < 2 ^ n) (hn : 0 < n) (hn2 : n ≤ 8900) : fdivOk a b = true := by
  have hl := log_lt h hn
  unfold fdivOk Builtin.divisionGoesByPylong
  have e : (b == 0) = false := by simpa using h0
  have e2 : (b != 0) = true := by simpa using h0
  simp only [e, e2, Bool.true_and, Bool.not_eq_true', Bool.and_eq_false_iff, decide_eq_false_iff_not]
  left
  simp only [Bool.false_eq_true, if_false]
  omega
theorem mulOk_of {a b : Int} {n m : Nat} (ha : a.natAbs < 2 ^ n) (hb : b.natAbs < 2 ^ m) (hn : 0 < n) (hm : 0 < m) (h : n + m ≤ 50000) : mulOk a b = true := by
  have h1 := log_lt ha hn
  have h2 := log_lt hb hm
  unfold mulOk
  exact decide_eq_true (by omega)
def zw (f : Int → Int → Int) (xs ys : List Int) : List Int := List.zipWith f xs ys
def at0 (xs : List Int) (j : Nat) : Int := xs.getD j 0
def Apart (r r' : List Int) : Prop := (∀ i, lead r = some i → at0 r' i = 0) ∧ ∀ i, lead r' = some i → at0 r i = 0
theorem Apart.symm {r r' : List Int} (h : Apart r r') : Apart r' r := ⟨h.2, h.1⟩
def dt (x y : List Int) : Int := (zw (· * ·) x y).sum
@[simp] theorem dt_cons (a b : Int) (x y : List Int) : dt (a :: x) (b :: y) = a * b + dt x y := by simp [dt, zw]
@[simp] theorem dt_nil (y : List Int) : dt [] y = 0 := by simp [dt, zw]
@[simp] theorem dt_nil2 (y : List Int) : dt y [] = 0 := by simp [dt, zw]
@[simp] theorem at0_nil (j : Nat) : at0 [] j = 0 := by simp [at0]
@[simp] theorem at0_z (a : Int) (x : List Int) : at0 (a :: x) 0 = a := by simp [at0]
@[simp] theorem at0_s (a : Int) (x : List Int) (j : Nat) : at0 (a :: x) (j + 1) = at0 x j := by simp [at0]
def Perp (x : List Int) (m : List (List Int)) : Prop := ∀ r ∈ m, dt x r = 0
@[simp] theorem nL_int (i : Int) : nL (.int i) = true := by simp [nL]
@[simp] theorem nL_bl (i : Bool) : nL (.bl i) = true := by simp [nL]
@[simp] theorem nL_str (i : Str) : nL (.str i) = true := by simp [nL]
@[simp] theorem nL_non : nL .non = true := by simp [nL]
@[simp] theorem nL_ref (n : Nat) : nL (.ref n) = true := by simp [nL]
theorem nLs_all : ∀ xs : List D, nLs xs = xs.all nL
  | [] => rfl
  | x :: xs => by simp [nLs, nLs_all xs]
@[simp] theorem nL_tup (xs : List D) : nL (.tup xs) = xs.all nL := by simp [nL, nLs_all]
@[simp] theorem nL_ri (xs : List Int) : nL (.tup (xs.map .int)) = true := by simp
@[simp] theorem nL_rows (m : List (List Int)) : nL (.tup (m.map Ri)) = true := by simp
theorem rng_gen {fa : FA} {s s1 : S} {j : Int} (h : fa s = .ok [.int j] s1) (hs : smallI j = true) : dRng1 fa s = .ok (rngD 0 j.toNat) s1 := by
  unfold dRng1
  rw [h, bind_ok]
  exact if_pos hs
theorem small_w {w : Nat} (hw : w ≤ 70) : smallI (w : Int) = true := by simp [smallI]; omega
@[simp] theorem nLl_no : nLl .no = true := rfl
@[simp] theorem nLl_val (d : D) : nLl (.val d) = nL d := rfl
@[simp] theorem nLl_own (d : Cell) : nLl (.own d) = nLc d := rfl
@[simp] theorem allc_ints (xs : List Int) : xs.all (nL ∘ D.int) = true := by simp
theorem seq_nx {f g : FS} {s s1 : S} (h : f s = .nx s1) : dSeq f g s = g s1 := by rw [ap_Seq, h]
theorem runF_rt {b : FS} {n : Nat} {ds : List D} {v : D} {s : S} {μ : List Cell} (h : b ⟨ds.map .val ++ List.replicate (n - ds.length) .no, μ⟩ = .rt v s) : runF b n ds μ = .ok v s.μ := by
  unfold runF; rw [h]
theorem repF_ok {fa : FC} {fb : FE} {s s1 s2 : S} {c : Cell} {b : D} {ys : List D} (h1 : fa s = .ok c s1) (h2 : fb s1 = .ok b s2) (h3 : repD c b = some ys) : dRepF fa fb s = .ok (.lst ys) s2 := by
  unfold dRepF
  rw [h1, bind_ok, h2, bind_ok, h3]
theorem asgO_ok {i : Nat} {fa : FC} {s s1 : S} {c : Cell} (h : fa s = .ok c s1) : dAsgO i fa s = .nx { s1 with δ := s1.δ.set i (.own c) } := by rw [ap_AsgO, h]
theorem call_ok {F : FF} {fa : FA} {s : S} {ds : List D} {d : D} (h : fa s = .ok ds s) (hn : ds.all noOwn = true) (e : F ds s.μ = .ok d s.μ) : dCall F fa s = .ok d s := by
  rw [ap_Call, h, bind_ok]
  simp only [hn, e, if_true]
theorem drop_ok {fa : FE} {s : S} {d : D} (h : fa s = .ok d s) : dDrop fa s = .nx s := by rw [ap_Drop, h]
theorem asg_ok {i : Nat} {fa : FE} {s : S} {d : D} (h : fa s = .ok d s) (hn : noOwn d = true) : dAsg i fa s = .nx { s with δ := s.δ.set i (.val d) } := by
  rw [ap_Asg, h]
  simp only [hn, if_true]
theorem ret_eq {fa fb : FE} {s : S} {x y : D} {b : Bool} (h1 : fa s = .ok x s) (h2 : fb s = .ok y s) (h3 : eqS s x y = some (.bl b)) : dRet (dOp eqS fa fb) s = .rt (.bl b) s := by
  rw [ap_Ret, ap_Op, h1, bind_ok, h2, bind_ok, h3]
  rfl
theorem lend_ok {i : Nat} {f : FE} {s : S} {xs : List D} {d : D} {μ' : List Cell} (h1 : s.δ[i]? = some (.own (.lst xs))) (h2 : f { s with δ := s.δ.set i (.val (.lst xs)) } = .ok d ⟨s.δ.set i (.val (.lst xs)), μ'⟩) (nd : nL d = true) (nμ : μ'.all nLc = true) (nδ : (s.δ.set i .no).all nLl = true) : dLend i f s = .ok d { s with μ := μ' } := by
  have hi : i < s.δ.length := by
    rcases Nat.lt_or_ge i s.δ.length with z | z
    · exact z
    · rw [List.getElem?_eq_none z] at h1; cases h1
  have g1 : (s.δ.set i (.val (.lst xs)))[i]? = some (.val (.lst xs)) := by rw [List.getElem?_set_self hi]
  have g2 : s.δ[i]'hi = .own (.lst xs) := by
    rw [List.getElem?_eq_getElem hi] at h1
    exact Option.some.inj h1
  have g3 : s.δ.set i (.own (.lst xs)) = s.δ := by rw [← g2, List.set_getElem_self]
  unfold dLend
  rw [h1]
  simp only [h2, List.set_set, g1, nd, nμ, nδ, isVL, Bool.and_self, if_true, g3]
theorem call_okμ {F : FF} {fa : FA} {s s1 : S} {ds : List D} {d : D} {μ' : List Cell} (h : fa s = .ok ds s1) (hn : ds.all noOwn = true) (e : F ds s1.μ = .ok d μ') : dCall F fa s = .ok d { s1 with μ := μ' } := by
  rw [ap_Call, h, bind_ok]
  simp only [hn, e, if_true]
theorem asg_okμ {i : Nat} {fa : FE} {s s1 : S} {d : D} (h : fa s = .ok d s1) (hn : noOwn d = true) : dAsg i fa s = .nx { s1 with δ := s1.δ.set i (.val d) } := by
  rw [ap_Asg, h]
  simp only [hn, if_true]
theorem frzE_ok {fc : FC} {s s1 : S} {xs : List D} (h : fc s = .ok (.lst xs) s1) : dFrz fc s = .ok (.lst xs) s1 := by
  rw [ap_Frz, h]; rfl
theorem var_ok {i : Nat} {s : S} {d : D} (h : s.δ[i]? = some (.val d)) : dVar i s = .ok d s := by rw [ap_Var, h]
theorem cons_ok {fa : FE} {fr : FA} {s s1 s2 : S} {d : D} {ds : List D} (h1 : fa s = .ok d s1) (h2 : fr s1 = .ok ds s2) : dCons fa fr s = .ok (d :: ds) s2 := by
  rw [ap_Cons, h1, bind_ok, h2, bind_ok]
theorem b_ok {g : S → List D → Option D} {fa : FA} {s s1 : S} {ds : List D} {d : D} (h : fa s = .ok ds s1) (e : g s1 ds = some d) : dB g fa s = .ok d s1 := by
  rw [ap_B, h, bind_ok, e]
theorem apd_ok {i : Nat} {fe : FE} {s s1 : S} {d : D} {V : List D} (h0 : s.δ[i]? = some (.own (.lst V))) (h1 : fe s = .ok d s1) (h2 : s1.δ[i]? = some (.own (.lst V))) (hl : V.length < 16777216) (nd : noOwn d = true) :
    dDrop (dM "list" gAppend (dVar i) (dCons fe dNil)) s = .nx { s1 with δ := s1.δ.set i (.own (.lst (V ++ [d]))) } := by
  have e1 : dVar i s = .ok (.own i) s := by rw [ap_Var, h0]
  have e2 : tyD s (.own i) = some "list" := by simp only [tyD, cellAt, h0]
  have e3 : dCons fe dNil s = .ok [d] s1 := cons_ok h1 rfl
  have e4 : gAppend s1 (.own i) [d] = some (.non, { s1 with δ := s1.δ.set i (.own (.lst (V ++ [d]))) }) := by
    simp only [gAppend, mutAt, h2, nd, hl, decide_true, Bool.and_self, if_true, setAt]
  have e5 : dM "list" gAppend (dVar i) (dCons fe dNil) s = .ok .non { s1 with δ := s1.δ.set i (.own (.lst (V ++ [d]))) } := by
    unfold dM
    rw [e1, bind_ok, if_pos e2, e3, bind_ok, e4]
  rw [ap_Drop, e5]
theorem tup_ok {fa : FA} {s s1 : S} {ds : List D} (h : fa s = .ok ds s1) (hn : ds.all noOwn = true) (hl : ds.length ≤ 16777216) : dTup fa s = .ok (.tup ds) s1 := by
  rw [ap_Tup, h, bind_ok, if_pos (by rw [hn, Bool.true_and]; exact decide_eq_true hl)]
theorem lst_ok {fa : FA} {s s1 : S} {ds : List D} (h : fa s = .ok ds s1) (hn : ds.all noOwn = true) (hl : ds.length ≤ 16777216) : dLst fa s = .ok (.lst ds) s1 := by
  rw [ap_Lst, h, bind_ok, if_pos (by rw [hn, Bool.true_and]; exact decide_eq_true hl)]
theorem c_ok {d : D} {s : S} : dC d s = .ok d s := rfl
theorem op_ok {g : S → D → D → Option D} {fa fb : FE} {s s1 s2 : S} {x y d : D} (h1 : fa s = .ok x s1) (h2 : fb s1 = .ok y s2) (h3 : g s2 x y = some d) : dOp g fa fb s = .ok d s2 := by
  rw [ap_Op, h1, bind_ok, h2, bind_ok, h3]
theorem cat_ok {fa fb : FE} {s s1 s2 : S} {a b : D} {x y : List D} (h1 : fa s = .ok a s1) (h2 : fb s1 = .ok b s2) (h3 : asL s2 a = some x) (h4 : asL s2 b = some y) (hl : x.length + y.length ≤ 16777216) : dCat fa fb s = .ok (.lst (x ++ y)) s2 := by
  unfold dCat
  rw [h1, bind_ok, h2, bind_ok, h3, h4]
  simp only [hl, if_true]
theorem asl_own {s : S} {i : Nat} {V : List D} (h : s.δ[i]? = some (.own (.lst V))) : asL s (.own i) = some V := by simp only [asL, cellAt, h]
theorem var_own {s : S} {i : Nat} {V : List D} (h : s.δ[i]? = some (.own (.lst V))) : dVar i s = .ok (.own i) s := by rw [ap_Var, h]
theorem callF_ok {F : FF} {fa : FA} {s s1 : S} {ds : List D} {c : Cell} {μ' : List Cell} (h : fa s = .ok ds s1) (hn : ds.all noOwn = true) (e : F ds s1.μ = .okc c μ') : dCallF F fa s = .ok c { s1 with μ := μ' } := by
  rw [ap_CallF, h, bind_ok]
  simp only [hn, e, if_true]
theorem truth_ok {fa : FE} {s s1 : S} {b : Bool} (h : fa s = .ok (.bl b) s1) : dTruth fa s = .ok b s1 := by
  rw [ap_Truth, h]; rfl
def Same (A B : List (List Int)) : Prop := ∀ x, Perp x A ↔ Perp x B
theorem Same.symm {A B : List (List Int)} (h : Same A B) : Same B A := fun x => (h x).symm
theorem all_set {μ : List Cell} {n : Nat} {c : Cell} (h : μ.all nLc = true) (hc : nLc c = true) : (μ.set n c).all nLc = true := by
  rw [List.all_eq_true] at h ⊢
  intro x hx
  rcases List.mem_or_eq_of_mem_set hx with h1 | rfl
  · exact h x h1
  · exact hc
theorem tab_set {μ : List Cell} {n : Nat} {c : Cell} (h : tabsOk 2 μ = true) (hn : 2 ≤ n) : tabsOk 2 (μ.set n c) = true := by
  have h0 := tabs_at h (i := 0) (by decide)
  have h1 := tabs_at h (i := 1) (by decide)
  have e0 : (μ.set n c)[0]? = some (.tab 0) := by rw [List.getElem?_set_ne (by omega)]; exact h0
  have e1 : (μ.set n c)[1]? = some (.tab 1) := by rw [List.getElem?_set_ne (by omega)]; exact h1
  show ((match (μ.set n c)[0]? with | some c => isTab 0 c | none => false) && ((match (μ.set n c)[1]? with | some c => isTab 1 c | none => false) && true)) = true
  rw [e0, e1]; rfl
/-- no list within a list that changes; the tables stand first -/
def AN (n : Nat) (μ : List Cell) : Prop := μ.all nLc = true ∧ tabsOk 2 μ = true ∧ 2 ≤ n
theorem AN.set {μ : List Cell} {n : Nat} {c : Cell} (h : AN n μ) (hc : nLc c = true) : AN n (μ.set n c) := ⟨all_set h.1 hc, tab_set h.2.1 h.2.2, h.2.2⟩
def Dc (k n : Nat) (μ : List Cell) : Prop := (∃ a b c : Int, μ[n]? = some (.lst [.int a, .int b, .int c]) ∧ 0 ≤ c ∧ c ≤ k) ∧ AN n μ
theorem Dc.mono {k j n : Nat} {μ : List Cell} (h : Dc k n μ) (hk : k ≤ j) : Dc j n μ := by
  obtain ⟨⟨a, b, c, h1, h2, h3⟩, h4⟩ := h
  exact ⟨⟨a, b, c, h1, h2, by omega⟩, h4⟩
theorem ix_ref {s : S} {n : Nat} {xs : List D} (h : s.μ[n]? = some (.lst xs)) (i : Int) : gIx s (.ref n) (.int i) = atI xs i := by
  show (asL s (.ref n)).bind _ = _
  simp [asL, cellAt, h]
theorem ix0 (a b c : D) : atI [a, b, c] 0 = some a := rfl
theorem ix1 (a b c : D) : atI [a, b, c] 1 = some b := rfl
theorem ix2 (a b c : D) : atI [a, b, c] 2 = some c := rfl
theorem set_ref {s : S} {n : Nat} {xs : List D} (h : s.μ[n]? = some (.lst xs)) (i : Int) (d : D) : gSetI s (.ref n) (.int i) d = (ixN xs.length i).map fun j => { s with μ := s.μ.set n (.lst (xs.set j d)) } := by
  simp [gSetI, mutAt, h, setAt]
theorem set0 {s : S} {n : Nat} {a b c : D} (h : s.μ[n]? = some (.lst [a, b, c])) (d : D) : gSetI s (.ref n) (.int 0) d = some { s with μ := s.μ.set n (.lst [d, b, c]) } := by rw [set_ref h]; rfl
theorem set2 {s : S} {n : Nat} {a b c : D} (h : s.μ[n]? = some (.lst [a, b, c])) (d : D) : gSetI s (.ref n) (.int 2) d = some { s with μ := s.μ.set n (.lst [a, b, d]) } := by rw [set_ref h]; rfl
theorem fmod_rng {a t : Int} (h : 0 < t) : 0 ≤ a.fmod t ∧ a.fmod t < t := ⟨Int.fmod_nonneg_of_pos a h, Int.fmod_lt_of_pos a h⟩
theorem small_of {a t : Int} {n : Nat} (h : 0 < t) (ht : t ≤ 2 ^ n) : (a.fmod t).natAbs < 2 ^ n := by
  obtain ⟨h1, h2⟩ := fmod_rng (a := a) h
  have : ((a.fmod t).natAbs : Int) < ((2 ^ n : Nat) : Int) := by push_cast; omega
  exact_mod_cast this

theorem roll_ok {k n : Nat} {t : Int} {μ : List Cell} (h : Dc k n μ) (hk : k ≤ 100000) (h1 : 1 ≤ t) (h2 : t ≤ 65536) : ∃ (r : Nat) (μ' : List Cell), F_L_roll [.ref n, .int t] μ = .ok (.int r) μ' ∧ (r : Int) < t ∧ Dc (k + 1) n μ' := by
  obtain ⟨⟨a, b, c, e, hc0, hc1⟩, hnl⟩ := h
  have hn : n < μ.length := by
    rcases Nat.lt_or_ge n μ.length with z | z
    · exact z
    · rw [List.getElem?_eq_none z] at e; cases e
  have t0 : t ≠ 0 := by omega
  have tb : t.natAbs < 2 ^ 17 := by omega
  have fo : ∀ x, fdivOk x t = true := fun x => fdivOk_of t0 tb (by decide) (by decide)
  by_cases ha : 0 < a
  · obtain ⟨q1, q2⟩ := fmod_rng (a := a) (t := t) (by omega)
    obtain ⟨r, hr⟩ := Int.eq_ofNat_of_zero_le q1
    refine ⟨r, μ.set n (.lst [.int (a.fdiv t), .int b, .int c]), ?_, by omega, ⟨⟨a.fdiv t, b, c, by simp [hn], hc0, by omega⟩, hnl.set rfl⟩⟩
    have hs := hr.symm
    simp [F_L_roll, b_L_roll, runF, ix_ref (s := ⟨_, μ⟩) e, ix0, ix1, ix2, ha, mod_ii t0, fdiv_ii (fo a), dSetI, set0 (s := ⟨_, μ⟩) e, gInt, hr]
  · let μ1 := μ.set n (.lst [.int a, .int b, .int (c + 1)])
    have e1 : μ1[n]? = some (.lst [.int a, .int b, .int (c + 1)]) := by simp [μ1, hn]
    have hnl1 : AN n μ1 := hnl.set rfl
    have cb : (c + 1).natAbs < 2 ^ 20 := by omega
    have m1 : mulOk 49979687 (c + 1) = true := mulOk_of (n := 30) (m := 20) (by decide) cb (by decide) (by decide) (by decide)
    have m2 : mulOk 131 (c + 1) = true := mulOk_of (n := 30) (m := 20) (by decide) cb (by decide) (by decide) (by decide)
    let x := (b + 49979687 * (c + 1)).fmod 2305843009213693951
    have xb : x.natAbs < 2 ^ 61 := small_of (by decide) (by decide)
    have m3 : mulOk x x = true := mulOk_of xb xb (by decide) (by decide) (by decide)
    let y := (x * x + 131 * (c + 1)).fmod 2305843009213693921
    have yb : y.natAbs < 2 ^ 61 := small_of (by decide) (by decide)
    have m4 : mulOk y 32452843 = true := mulOk_of (n := 61) (m := 30) yb (by decide) (by decide) (by decide) (by decide)
    have f1 : ∀ z, fdivOk z 65587 = true := fun z => fdivOk_of (n := 20) (by decide) (by decide) (by decide) (by decide)
    obtain ⟨q1, q2⟩ := fmod_rng (a := (y * 32452843 + x).fdiv 65587) (t := t) (by omega)
    obtain ⟨r, hr⟩ := Int.eq_ofNat_of_zero_le q1
    refine ⟨r, μ1, ?_, by omega, ⟨⟨a, b, c + 1, e1, by omega, by omega⟩, hnl1⟩⟩
    have hs := hr.symm
    have ex : (b + 49979687 * (c + 1)).fmod 2305843009213693951 = x := rfl
    have ey : (x * x + 131 * (c + 1)).fmod 2305843009213693921 = y := rfl
    have eμ : μ.set n (.lst [.int a, .int b, .int (c + 1)]) = μ1 := rfl
    clear_value x y μ1
    simp [F_L_roll, b_L_roll, runF, ix_ref (s := ⟨_, μ⟩) e, ix0, ix1, ix2, ha, mod_ii t0, dSetI, set2 (s := ⟨_, μ⟩) e, gInt, ix_ref (s := ⟨_, μ1⟩) e1, mul_ii m1, mul_ii m2, mod_ii, mul_ii m3, mul_ii m4, fdiv_ii (f1 _), hr, ex, ey, eμ]
theorem pick_okD {k n : Nat} {xs : List D} {μ : List Cell} (h : Dc k n μ) (hk : k ≤ 100000) (h1 : 1 ≤ xs.length) (h2 : xs.length ≤ 65536) (hno : ∀ x ∈ xs, noOwn x = true) : ∃ x ∈ xs, ∃ μ', F_L_pick [.ref n, .lst xs] μ = .ok x μ' ∧ Dc (k + 1) n μ' := by
  obtain ⟨r, μ', e, hr, d⟩ := roll_ok (t := (xs.length : Int)) h hk (by omega) (by omega)
  have hl : xs.length ≤ 16777216 := by omega
  have hr : r < xs.length := by omega
  have ei : ∀ s : S, gIx s (.lst xs) (.int (r : Int)) = some xs[r] := fun s => by simp [gIx, L2.atI, L2.ixN, hr]
  refine ⟨xs[r], List.getElem_mem hr, μ', ?_, d⟩
  have hn := hno _ (List.getElem_mem hr)
  simp [F_L_pick, b_L_pick, runF, gLen, hl, e, ei, hn]
theorem pow_ok' {i j : Int} (h : powOk i j = true) (s : S) : gPow s (.int i) (.int j) = some (.int (i ^ j.toNat)) := by
  show (if powOk i j = true then _ else _) = _
  rw [if_pos h]
theorem nil_ok {s : S} : dNil s = .ok [] s := rfl
theorem len_ok {fa : FE} {s s1 : S} {d : D} {n : Nat} (h : fa s = .ok d s1) (e : gLen s1 [d] = some (.int (n : Nat))) : dB gLen (dCons fa dNil) s = .ok (.int (n : Nat)) s1 := b_ok (cons_ok h nil_ok) e
theorem asgG_ok {fa : FE} {g : FG} {s s1 s2 : S} {d : D} (h : fa s = .ok d s1) (hn : noOwn d = true) (hg : g d s1 = some s2) : dAsgG fa g s = .nx s2 := by
  unfold dAsgG
  rw [h]
  simp only [hn, if_true, hg]
theorem neg_ok {fa : FE} {s s1 : S} {i : Int} (h : fa s = .ok (.int i) s1) : dNeg fa s = .ok (.int (-i)) s1 := by
  unfold dNeg
  rw [h]
  rfl
theorem for_nx {g : FG} {f : FS} {d : D} {ds : List D} {s s1 s2 : S} {r : SR} (hg : g d s = some s1) (hf : f s1 = .nx s2) (hr : dFor g f ds s2 = r) : dFor g f (d :: ds) s = r := by
  unfold dFor
  simp only [hg, hf]
  exact hr
theorem for_nil {g : FG} {f : FS} {s : S} : dFor g f [] s = .nx s := by unfold dFor; rfl
theorem if_ok {t : FT} {fa fb : FE} {s s1 s2 : S} {b : Bool} {d : D} (h : t s = .ok b s1) (h1 : (if b then fa else fb) s1 = .ok d s2) : dIf t fa fb s = .ok d s2 := by
  unfold dIf
  rw [h]
  cases b <;> exact h1
theorem cmp_ok {g : S → D → D → Option D} {fa fb : FE} {s s1 s2 : S} {x y : D} {b : Bool} (h1 : fa s = .ok x s1) (h2 : fb s1 = .ok y s2) (h3 : g s2 x y = some (.bl b)) : dCmpT g fa fb s = .ok b s2 := by
  rw [ap_CmpT, h1, bind_ok, h2, bind_ok, h3]
theorem for_it {fi : FA} {g : FG} {f : FS} {s s1 : S} {ds : List D} {r : SR} (h : fi s = .ok ds s1) (h1 : dFor g f ds s1 = r) : dForI fi g f s = r := by
  unfold dForI
  rw [h]
  exact h1
theorem ifS_no {t : FT} {f : FS} {s s1 : S} (h : t s = .ok false s1) : dIfS t f dSkip s = .nx s1 := by
  rw [ap_IfS, h]; rfl
theorem ix_lst (s : S) {xs : List D} {k : Nat} {d : D} (h : xs[k]? = some d) : gIx s (.lst xs) (.int (k : Nat)) = some d := by
  obtain ⟨hl, rfl⟩ := List.getElem?_eq_some_iff.mp h
  have e : L2.atI xs (k : Int) = some xs[k] := by simp [L2.atI, L2.ixN, hl]
  unfold gIx
  simp only [asL, cellAt, Option.bind_some]
  exact e
theorem not_ok {t : FT} {s s1 : S} {b : Bool} (h : t s = .ok b s1) : dNotT t s = .ok (!b) s1 := by
  unfold dNotT
  rw [h]
  rfl
theorem pow53 (s : S) : gPow s (.int 10) (.int 53) = some (.int (10 ^ 53)) := pow_ok' (by decide) s
theorem pow16 (s : S) : gPow s (.int 10) (.int 16) = some (.int (10 ^ 16)) := pow_ok' (by decide) s
theorem pow53_6 (s : S) : gPow s (.int (10 ^ 53)) (.int 6) = some (.int ((10 ^ 53) ^ 6)) := pow_ok' (by decide) s
theorem mulOk_s {a b : Int} (ha : a.natAbs < 2 ^ 64) (hb : b.natAbs < 2 ^ 64) : mulOk a b = true := mulOk_of ha hb (by decide) (by decide) (by decide)
theorem dice_gen {T U V : Int} {i : Nat} {xs : List Int} {μ : List Cell} (hl : xs.length ≤ 63) (hi : i ≤ 6) (hU : U ≠ 0) (h1 : ∀ s : S, gPow s (.int 10) (.int 53) = some (.int T)) (h2 : ∀ s : S, gPow s (.int T) (.int 6) = some (.int U)) (h3 : ∀ s : S, gPow s (.int 10) (.int 16) = some (.int V)) :
    ∃ p q : Int, F_L_dice [.lst (xs.map .int), .int i] μ = .okc (.lst [.int p, .int q, .int 0]) μ := by
  have hl2 : xs.length ≤ 16777216 := by omega
  have m1 : ∀ x : Int, mulOk (x.fmod 2305843009213693907) 73 = true := fun x => mulOk_s (Nat.lt_of_lt_of_le (small_of (n := 62) (by decide) (by decide)) (by decide)) (by decide)
  have m2 : mulOk 619 (i : Int) = true := mulOk_s (by decide) (by omega)
  have m3 : mulOk 131 (i : Int) = true := mulOk_s (by decide) (by omega)
  have m4 : mulOk 41 1 = true := by decide
  have m5 : mulOk 41 0 = true := by decide
  by_cases h : i < xs.length
  · have ei : ∀ s : S, gIx s (.lst (xs.map .int)) (.int (i : Int)) = some (.int xs[i]) := fun s => ix_lst s (by rw [List.getElem?_map, List.getElem?_eq_getElem h]; rfl)
    generalize xs[i] = x at ei
    by_cases hx : x < 0
    · simp [F_L_dice, b_L_dice, runF, gLen, hl2, h, ei, gInt, gAbs, h1, h2, h3, mod_ii hU, mul_ii m2, mul_ii (m1 _), mod_ii, gMax2, hx, mul_ii m4]
    · simp [F_L_dice, b_L_dice, runF, gLen, hl2, h, ei, gInt, gAbs, h1, h2, h3, mod_ii hU, mul_ii m2, mul_ii (m1 _), mod_ii, gMax2, hx, mul_ii m5]
  · have hx : ¬ (131 * (i : Int) + 37 < 0) := by omega
    simp [F_L_dice, b_L_dice, runF, gLen, hl2, h, mul_ii m3, gInt, gAbs, h1, h2, h3, mod_ii hU, mul_ii m2, mul_ii (m1 _), mod_ii, gMax2, hx, mul_ii m5]
theorem dice_ok {i : Nat} {xs : List Int} {μ : List Cell} (hl : xs.length ≤ 63) (hi : i ≤ 6) : ∃ p q : Int, F_L_dice [.lst (xs.map .int), .int i] μ = .okc (.lst [.int p, .int q, .int 0]) μ :=
  dice_gen hl hi (by decide) pow53 pow53_6 pow16
theorem asgR_ok {i : Nat} {fc : FC} {s s1 : S} {c : Cell} (h : fc s = .ok c s1) : dAsgR i fc s = .nx { s1 with μ := s1.μ ++ [c], δ := s1.δ.set i (.val (.ref s1.μ.length)) } := by
  unfold dAsgR
  rw [h]

end K14

namespace K14
open PySem PySem.Spec PyProof.Rows L2 DL
/-! ### what the calls come to -/
def rep (r : Nat) (x : D) : D := .tup (List.replicate r x)
def badW : List D := [.int 0, .int 61, .int (-1), .bl true, .non, .str "2", .tup [.int 2], .int 1000000000000000000000000000000]
def badR (r : Nat) : List D := [.non, .tup [], rep (r + 1) (.int 0), .lst (List.replicate r (.int 0)), rep r .non, rep r (.bl true), .int 0, rep r (.str "0"), .dct []]
def badL (r : Nat) : List D := [.non, .lst [.tup []], .tup [rep r (.int 0)], .tup [rep r (.int 2)], .tup [rep (r + 1) (.int 1)], .int 0, .tup [rep r (.bl true)], .dct []]
def badM (r : Nat) : List D := [.non, .lst [rep r (.int 3)], .tup [rep (r + 1) (.int 3)], .tup [.non], .tup [rep r (.bl true)], .int 0]
def badB : List D := [.non, .bl true, .str "3", .tup [.int 1], .lst []]
def eC (v : D) : EX := ⟨"InvalidCount", some [("given", v)]⟩
def eR : EX := ⟨"InvalidRow", none⟩
def eL : EX := ⟨"InvalidLot", none⟩
def eO : EX := ⟨"InvalidOperation", none⟩
def Out (r : CR) (μ : List Cell) : Option EX → Prop
  | none => ∃ d, r = .ok d μ
  | some e => r = .exc e μ
def okM (r : CR) (μ : List Cell) : Prop := match r with | .ok _ m => m = μ | _ => False
theorem out_ok {r : CR} {μ : List Cell} (h : okM r μ = (μ = μ)) : Out r μ none := by
  have h2 : okM r μ := by rw [h]
  unfold okM at h2
  split at h2
  · rename_i d m
    exact ⟨d, by rw [h2]⟩
  · exact h2.elim
def fstE : List (Bool × EX) → Option EX
  | [] => none
  | (b, e) :: r => if b then some e else fstE r
/-- a drawn value: the right one, or a wrong one -/
def Ch (right : D) (wrong : List D) (v : D) (b : Bool) : Prop := (b = false ∧ v = right) ∨ (b = true ∧ v ∈ wrong)
theorem Ch.mem {r v : D} {l : List D} {b : Bool} (h : Ch r l v b) : v ∈ r :: l := h.elim (fun z => by rw [z.2]; exact List.mem_cons_self) fun z => List.mem_cons_of_mem _ z.2
theorem in4 {r : Nat} (h1 : 1 ≤ r) (h4 : r ≤ 4) : r ∈ [1, 2, 3, 4] := by
  obtain rfl | rfl | rfl | rfl : r = 1 ∨ r = 2 ∨ r = 3 ∨ r = 4 := by omega
  all_goals decide
theorem nest {α : Type 1} {f g : Nat → D → α} {L : Nat → List D} (h : [1, 2, 3, 4].map (fun r => (L r).map (f r)) = [1, 2, 3, 4].map (fun r => (L r).map (g r))) {r : Nat} (h1 : 1 ≤ r) (h4 : r ≤ 4) {a : D} (ha : a ∈ L r) : f r a = g r a :=
  List.map_inj_left.mp (List.map_inj_left.mp h r (in4 h1 h4)) a ha
theorem nestC {f g : Nat → D → CR} {L : Nat → List D} (h : [1, 2, 3, 4].map (fun r => (L r).map (f r)) = [1, 2, 3, 4].map (fun r => (L r).map (g r))) {r : Nat} (h1 : 1 ≤ r) (h4 : r ≤ 4) {a : D} (ha : a ∈ L r) : f r a = g r a :=
  List.map_inj_left.mp (List.map_inj_left.mp h r (in4 h1 h4)) a ha
theorem nestP {f g : Nat → D → Prop} {L : Nat → List D} (h : [1, 2, 3, 4].map (fun r => (L r).map (f r)) = [1, 2, 3, 4].map (fun r => (L r).map (g r))) {r : Nat} (h1 : 1 ≤ r) (h4 : r ≤ 4) {a : D} (ha : a ∈ L r) : f r a = g r a :=
  List.map_inj_left.mp (List.map_inj_left.mp h r (in4 h1 h4)) a ha
theorem one4 {f g : Nat → Prop} (h : [1, 2, 3, 4].map f = [1, 2, 3, 4].map g) {r : Nat} (h1 : 1 ≤ r) (h4 : r ≤ 4) : f r = g r := List.map_inj_left.mp h r (in4 h1 h4)
theorem atW {f g : D → CR} (h : badW.map f = badW.map g) {w : D} (hw : w ∈ badW) : f w = g w := List.map_inj_left.mp h w hw
theorem row_plus_w (a b : D) (μ : List Cell) : badW.map (fun w => F_row_plus [w, a, b] μ) = badW.map (fun w => CR.exc (eC w) μ) := by kernel_rfl
theorem row_plus_0 (b : D) (μ : List Cell) : [1, 2, 3, 4].map (fun r : Nat => (badR r).map fun a => F_row_plus [.int (r : Nat), a, b] μ) = [1, 2, 3, 4].map (fun r : Nat => (badR r).map fun _ => CR.exc eR μ) := by kernel_rfl
theorem row_plus_1  (μ : List Cell) : [1, 2, 3, 4].map (fun r : Nat => (badR r).map fun b => F_row_plus [.int (r : Nat), rep r (.int 2), b] μ) = [1, 2, 3, 4].map (fun r : Nat => (badR r).map fun _ => CR.exc eR μ) := by kernel_rfl
theorem row_plus_k (μ : List Cell) : [1, 2, 3, 4].map (fun r : Nat => okM (F_row_plus [.int (r : Nat), rep r (.int 2), rep r (.int 0)] μ) μ) = [1, 2, 3, 4].map (fun _ => (μ = μ)) := by kernel_rfl
theorem row_plus_out {r : Nat} (h1 : 1 ≤ r) (h4 : r ≤ 4) {w a b : D} {n0 n1 n2 : Bool} (hw : Ch (.int (r : Nat)) badW w n0) (ha : Ch (rep r (.int 2)) (badR r) a n1) (hb : Ch (rep r (.int 0)) (badR r) b n2) (μ : List Cell) : Out (F_row_plus [w, a, b] μ) μ (fstE [(n0, eC w), (n1, eR), (n2, eR)]) := by
  rcases hw with ⟨rfl, rfl⟩ | ⟨rfl, hw⟩
  · rcases ha with ⟨rfl, rfl⟩ | ⟨rfl, ha⟩
    · rcases hb with ⟨rfl, rfl⟩ | ⟨rfl, hb⟩
      · exact out_ok (one4 (row_plus_k μ) h1 h4)
      · exact nestC (L := badR) (row_plus_1 μ) h1 h4 hb
    · exact nestC (L := badR) (row_plus_0 b μ) h1 h4 ha
  · exact atW (row_plus_w a b μ) hw
theorem row_times_w (a b : D) (μ : List Cell) : badW.map (fun w => F_row_times [w, a, b] μ) = badW.map (fun w => CR.exc (eC w) μ) := by kernel_rfl
theorem row_times_0 (b : D) (μ : List Cell) : [1, 2, 3, 4].map (fun r : Nat => ((fun _ => badB) r).map fun a => F_row_times [.int (r : Nat), a, b] μ) = [1, 2, 3, 4].map (fun r : Nat => ((fun _ => badB) r).map fun _ => CR.exc eO μ) := by kernel_rfl
theorem row_times_1  (μ : List Cell) : [1, 2, 3, 4].map (fun r : Nat => (badR r).map fun b => F_row_times [.int (r : Nat), .int (-4), b] μ) = [1, 2, 3, 4].map (fun r : Nat => (badR r).map fun _ => CR.exc eR μ) := by kernel_rfl
theorem row_times_k (μ : List Cell) : [1, 2, 3, 4].map (fun r : Nat => okM (F_row_times [.int (r : Nat), .int (-4), rep r (.int 2)] μ) μ) = [1, 2, 3, 4].map (fun _ => (μ = μ)) := by kernel_rfl
theorem row_times_out {r : Nat} (h1 : 1 ≤ r) (h4 : r ≤ 4) {w a b : D} {n0 n1 n2 : Bool} (hw : Ch (.int (r : Nat)) badW w n0) (ha : Ch (.int (-4)) badB a n1) (hb : Ch (rep r (.int 2)) (badR r) b n2) (μ : List Cell) : Out (F_row_times [w, a, b] μ) μ (fstE [(n0, eC w), (n1, eO), (n2, eR)]) := by
  rcases hw with ⟨rfl, rfl⟩ | ⟨rfl, hw⟩
  · rcases ha with ⟨rfl, rfl⟩ | ⟨rfl, ha⟩
    · rcases hb with ⟨rfl, rfl⟩ | ⟨rfl, hb⟩
      · exact out_ok (one4 (row_times_k μ) h1 h4)
      · exact nestC (L := badR) (row_times_1 μ) h1 h4 hb
    · exact nestC (L := fun _ => badB) (row_times_0 b μ) h1 h4 ha
  · exact atW (row_times_w a b μ) hw
theorem product_w (a b : D) (μ : List Cell) : badW.map (fun w => F_product [w, a, b] μ) = badW.map (fun w => CR.exc (eC w) μ) := by kernel_rfl
theorem product_0 (b : D) (μ : List Cell) : [1, 2, 3, 4].map (fun r : Nat => (badR r).map fun a => F_product [.int (r : Nat), a, b] μ) = [1, 2, 3, 4].map (fun r : Nat => (badR r).map fun _ => CR.exc eR μ) := by kernel_rfl
theorem product_1  (μ : List Cell) : [1, 2, 3, 4].map (fun r : Nat => (badR r).map fun b => F_product [.int (r : Nat), rep r (.int 2), b] μ) = [1, 2, 3, 4].map (fun r : Nat => (badR r).map fun _ => CR.exc eR μ) := by kernel_rfl
theorem product_k (μ : List Cell) : [1, 2, 3, 4].map (fun r : Nat => okM (F_product [.int (r : Nat), rep r (.int 2), rep r (.int 0)] μ) μ) = [1, 2, 3, 4].map (fun _ => (μ = μ)) := by kernel_rfl
theorem product_out {r : Nat} (h1 : 1 ≤ r) (h4 : r ≤ 4) {w a b : D} {n0 n1 n2 : Bool} (hw : Ch (.int (r : Nat)) badW w n0) (ha : Ch (rep r (.int 2)) (badR r) a n1) (hb : Ch (rep r (.int 0)) (badR r) b n2) (μ : List Cell) : Out (F_product [w, a, b] μ) μ (fstE [(n0, eC w), (n1, eR), (n2, eR)]) := by
  rcases hw with ⟨rfl, rfl⟩ | ⟨rfl, hw⟩
  · rcases ha with ⟨rfl, rfl⟩ | ⟨rfl, ha⟩
    · rcases hb with ⟨rfl, rfl⟩ | ⟨rfl, hb⟩
      · exact out_ok (one4 (product_k μ) h1 h4)
      · exact nestC (L := badR) (product_1 μ) h1 h4 hb
    · exact nestC (L := badR) (product_0 b μ) h1 h4 ha
  · exact atW (product_w a b μ) hw
theorem lowest_w (a : D) (μ : List Cell) : badW.map (fun w => F_lowest [w, a] μ) = badW.map (fun w => CR.exc (eC w) μ) := by kernel_rfl
theorem lowest_0  (μ : List Cell) : [1, 2, 3, 4].map (fun r : Nat => (badR r).map fun a => F_lowest [.int (r : Nat), a] μ) = [1, 2, 3, 4].map (fun r : Nat => (badR r).map fun _ => CR.exc eR μ) := by kernel_rfl
theorem lowest_k (μ : List Cell) : [1, 2, 3, 4].map (fun r : Nat => okM (F_lowest [.int (r : Nat), rep r (.int 2)] μ) μ) = [1, 2, 3, 4].map (fun _ => (μ = μ)) := by kernel_rfl
theorem lowest_out {r : Nat} (h1 : 1 ≤ r) (h4 : r ≤ 4) {w a : D} {n0 n1 : Bool} (hw : Ch (.int (r : Nat)) badW w n0) (ha : Ch (rep r (.int 2)) (badR r) a n1) (μ : List Cell) : Out (F_lowest [w, a] μ) μ (fstE [(n0, eC w), (n1, eR)]) := by
  rcases hw with ⟨rfl, rfl⟩ | ⟨rfl, hw⟩
  · rcases ha with ⟨rfl, rfl⟩ | ⟨rfl, ha⟩
    · exact out_ok (one4 (lowest_k μ) h1 h4)
    · exact nestC (L := badR) (lowest_0 μ) h1 h4 ha
  · exact atW (lowest_w a μ) hw
theorem lot_of_w (a : D) (μ : List Cell) : badW.map (fun w => G_lot_of [w, a] μ) = badW.map (fun w => CR.exc (eC w) μ) := by kernel_rfl
theorem lot_of_0  (μ : List Cell) : [1, 2, 3, 4].map (fun r : Nat => (badM r).map fun a => G_lot_of [.int (r : Nat), a] μ) = [1, 2, 3, 4].map (fun r : Nat => (badM r).map fun _ => CR.exc eR μ) := by kernel_rfl
theorem lot_of_k (μ : List Cell) : [1, 2, 3, 4].map (fun r : Nat => okM (G_lot_of [.int (r : Nat), .tup [rep r (.int 3)]] μ) μ) = [1, 2, 3, 4].map (fun _ => (μ = μ)) := by kernel_rfl
theorem lot_of_out {r : Nat} (h1 : 1 ≤ r) (h4 : r ≤ 4) {w a : D} {n0 n1 : Bool} (hw : Ch (.int (r : Nat)) badW w n0) (ha : Ch (.tup [rep r (.int 3)]) (badM r) a n1) (μ : List Cell) : Out (F_lot_of [w, a] μ) μ (fstE [(n0, eC w), (n1, eR)]) := by
  rw [e_lot_of]
  rcases hw with ⟨rfl, rfl⟩ | ⟨rfl, hw⟩
  · rcases ha with ⟨rfl, rfl⟩ | ⟨rfl, ha⟩
    · exact out_ok (one4 (lot_of_k μ) h1 h4)
    · exact nestC (L := badM) (lot_of_0 μ) h1 h4 ha
  · exact atW (lot_of_w a μ) hw
theorem holds_w (a b : D) (μ : List Cell) : badW.map (fun w => F_holds [w, a, b] μ) = badW.map (fun w => CR.exc (eC w) μ) := by kernel_rfl
theorem holds_0 (b : D) (μ : List Cell) : [1, 2, 3, 4].map (fun r : Nat => (badL r).map fun a => F_holds [.int (r : Nat), a, b] μ) = [1, 2, 3, 4].map (fun r : Nat => (badL r).map fun _ => CR.exc eL μ) := by kernel_rfl
theorem holds_1  (μ : List Cell) : [1, 2, 3, 4].map (fun r : Nat => (badR r).map fun b => F_holds [.int (r : Nat), .tup [rep r (.int 1)], b] μ) = [1, 2, 3, 4].map (fun r : Nat => (badR r).map fun _ => CR.exc eR μ) := by kernel_rfl
theorem holds_k (μ : List Cell) : [1, 2, 3, 4].map (fun r : Nat => okM (F_holds [.int (r : Nat), .tup [rep r (.int 1)], rep r (.int 2)] μ) μ) = [1, 2, 3, 4].map (fun _ => (μ = μ)) := by kernel_rfl
theorem holds_out {r : Nat} (h1 : 1 ≤ r) (h4 : r ≤ 4) {w a b : D} {n0 n1 n2 : Bool} (hw : Ch (.int (r : Nat)) badW w n0) (ha : Ch (.tup [rep r (.int 1)]) (badL r) a n1) (hb : Ch (rep r (.int 2)) (badR r) b n2) (μ : List Cell) : Out (F_holds [w, a, b] μ) μ (fstE [(n0, eC w), (n1, eL), (n2, eR)]) := by
  rcases hw with ⟨rfl, rfl⟩ | ⟨rfl, hw⟩
  · rcases ha with ⟨rfl, rfl⟩ | ⟨rfl, ha⟩
    · rcases hb with ⟨rfl, rfl⟩ | ⟨rfl, hb⟩
      · exact out_ok (one4 (holds_k μ) h1 h4)
      · exact nestC (L := badR) (holds_1 μ) h1 h4 hb
    · exact nestC (L := badL) (holds_0 b μ) h1 h4 ha
  · exact atW (holds_w a b μ) hw
theorem joined_lots_w (μ : List Cell) : [1, 2, 3, 4].map (fun r : Nat => (.tup [rep r (.int 1)] :: badL r).map fun a => (.tup [] :: badL r).map fun b => badW.map fun w => G_joined_lots [w, a, b] μ) = [1, 2, 3, 4].map (fun r : Nat => (.tup [rep r (.int 1)] :: badL r).map fun a => (.tup [] :: badL r).map fun b => badW.map fun w => CR.exc (eC w) μ) := by kernel_rfl
theorem joined_lots_0 (μ : List Cell) : [1, 2, 3, 4].map (fun r : Nat => (badL r).map fun a => (.tup [] :: badL r).map fun b => G_joined_lots [.int (r : Nat), a, b] μ) = [1, 2, 3, 4].map (fun r : Nat => (badL r).map fun a => (.tup [] :: badL r).map fun b => CR.exc eL μ) := by kernel_rfl
theorem joined_lots_1  (μ : List Cell) : [1, 2, 3, 4].map (fun r : Nat => (badL r).map fun b => G_joined_lots [.int (r : Nat), .tup [rep r (.int 1)], b] μ) = [1, 2, 3, 4].map (fun r : Nat => (badL r).map fun _ => CR.exc eL μ) := by kernel_rfl
theorem joined_lots_k (μ : List Cell) : [1, 2, 3, 4].map (fun r : Nat => okM (G_joined_lots [.int (r : Nat), .tup [rep r (.int 1)], .tup []] μ) μ) = [1, 2, 3, 4].map (fun _ => (μ = μ)) := by kernel_rfl
theorem joined_lots_out {r : Nat} (h1 : 1 ≤ r) (h4 : r ≤ 4) {w a b : D} {n0 n1 n2 : Bool} (hw : Ch (.int (r : Nat)) badW w n0) (ha : Ch (.tup [rep r (.int 1)]) (badL r) a n1) (hb : Ch (.tup []) (badL r) b n2) (μ : List Cell) : Out (F_joined_lots [w, a, b] μ) μ (fstE [(n0, eC w), (n1, eL), (n2, eL)]) := by
  rw [e_joined_lots]
  rcases hw with ⟨rfl, rfl⟩ | ⟨rfl, hw⟩
  · rcases ha with ⟨rfl, rfl⟩ | ⟨rfl, ha⟩
    · rcases hb with ⟨rfl, rfl⟩ | ⟨rfl, hb⟩
      · exact out_ok (one4 (joined_lots_k μ) h1 h4)
      · exact nestC (L := badL) (joined_lots_1 μ) h1 h4 hb
    · exact List.map_inj_left.mp (List.map_inj_left.mp (List.map_inj_left.mp (joined_lots_0 μ) r (in4 h1 h4)) a ha) b hb.mem
  · exact List.map_inj_left.mp (List.map_inj_left.mp (List.map_inj_left.mp (List.map_inj_left.mp (joined_lots_w μ) r (in4 h1 h4)) a ha.mem) b hb.mem) w hw
theorem met_lots_w (μ : List Cell) : [1, 2, 3, 4].map (fun r : Nat => (.tup [rep r (.int 1)] :: badL r).map fun a => (.tup [] :: badL r).map fun b => badW.map fun w => G_met_lots [w, a, b] μ) = [1, 2, 3, 4].map (fun r : Nat => (.tup [rep r (.int 1)] :: badL r).map fun a => (.tup [] :: badL r).map fun b => badW.map fun w => CR.exc (eC w) μ) := by kernel_rfl
theorem met_lots_0 (μ : List Cell) : [1, 2, 3, 4].map (fun r : Nat => (badL r).map fun a => (.tup [] :: badL r).map fun b => G_met_lots [.int (r : Nat), a, b] μ) = [1, 2, 3, 4].map (fun r : Nat => (badL r).map fun a => (.tup [] :: badL r).map fun b => CR.exc eL μ) := by kernel_rfl
theorem met_lots_1  (μ : List Cell) : [1, 2, 3, 4].map (fun r : Nat => (badL r).map fun b => G_met_lots [.int (r : Nat), .tup [rep r (.int 1)], b] μ) = [1, 2, 3, 4].map (fun r : Nat => (badL r).map fun _ => CR.exc eL μ) := by kernel_rfl
theorem met_lots_k (μ : List Cell) : [1, 2, 3, 4].map (fun r : Nat => okM (G_met_lots [.int (r : Nat), .tup [rep r (.int 1)], .tup []] μ) μ) = [1, 2, 3, 4].map (fun _ => (μ = μ)) := by kernel_rfl
theorem met_lots_out {r : Nat} (h1 : 1 ≤ r) (h4 : r ≤ 4) {w a b : D} {n0 n1 n2 : Bool} (hw : Ch (.int (r : Nat)) badW w n0) (ha : Ch (.tup [rep r (.int 1)]) (badL r) a n1) (hb : Ch (.tup []) (badL r) b n2) (μ : List Cell) : Out (F_met_lots [w, a, b] μ) μ (fstE [(n0, eC w), (n1, eL), (n2, eL)]) := by
  rw [e_met_lots]
  rcases hw with ⟨rfl, rfl⟩ | ⟨rfl, hw⟩
  · rcases ha with ⟨rfl, rfl⟩ | ⟨rfl, ha⟩
    · rcases hb with ⟨rfl, rfl⟩ | ⟨rfl, hb⟩
      · exact out_ok (one4 (met_lots_k μ) h1 h4)
      · exact nestC (L := badL) (met_lots_1 μ) h1 h4 hb
    · exact List.map_inj_left.mp (List.map_inj_left.mp (List.map_inj_left.mp (met_lots_0 μ) r (in4 h1 h4)) a ha) b hb.mem
  · exact List.map_inj_left.mp (List.map_inj_left.mp (List.map_inj_left.mp (List.map_inj_left.mp (met_lots_w μ) r (in4 h1 h4)) a ha.mem) b hb.mem) w hw
theorem rows_apart_w (a : D) (μ : List Cell) : badW.map (fun w => G_rows_apart [w, a] μ) = badW.map (fun w => CR.exc (eC w) μ) := by kernel_rfl
theorem rows_apart_0  (μ : List Cell) : [1, 2, 3, 4].map (fun r : Nat => (badL r).map fun a => G_rows_apart [.int (r : Nat), a] μ) = [1, 2, 3, 4].map (fun r : Nat => (badL r).map fun _ => CR.exc eL μ) := by kernel_rfl
theorem rows_apart_k (μ : List Cell) : [1, 2, 3, 4].map (fun r : Nat => okM (G_rows_apart [.int (r : Nat), .tup [rep r (.int 1)]] μ) μ) = [1, 2, 3, 4].map (fun _ => (μ = μ)) := by kernel_rfl
theorem rows_apart_out {r : Nat} (h1 : 1 ≤ r) (h4 : r ≤ 4) {w a : D} {n0 n1 : Bool} (hw : Ch (.int (r : Nat)) badW w n0) (ha : Ch (.tup [rep r (.int 1)]) (badL r) a n1) (μ : List Cell) : Out (F_rows_apart [w, a] μ) μ (fstE [(n0, eC w), (n1, eL)]) := by
  rw [e_rows_apart]
  rcases hw with ⟨rfl, rfl⟩ | ⟨rfl, hw⟩
  · rcases ha with ⟨rfl, rfl⟩ | ⟨rfl, ha⟩
    · exact out_ok (one4 (rows_apart_k μ) h1 h4)
    · exact nestC (L := badL) (rows_apart_0 μ) h1 h4 ha
  · exact atW (rows_apart_w a μ) hw
theorem span_paper_w (a b : D) (μ : List Cell) : badW.map (fun w => G_span_paper [w, a, b] μ) = badW.map (fun w => CR.exc (eC w) μ) := by kernel_rfl
theorem span_paper_0 (b : D) (μ : List Cell) : [1, 2, 3, 4].map (fun r : Nat => (badM r).map fun a => G_span_paper [.int (r : Nat), a, b] μ) = [1, 2, 3, 4].map (fun r : Nat => (badM r).map fun _ => CR.exc eR μ) := by kernel_rfl
theorem span_paper_1  (μ : List Cell) : [1, 2, 3, 4].map (fun r : Nat => (badR r).map fun b => G_span_paper [.int (r : Nat), .tup [rep r (.int 3)], b] μ) = [1, 2, 3, 4].map (fun r : Nat => (badR r).map fun _ => CR.exc eR μ) := by kernel_rfl
theorem span_paper_out {r : Nat} (h1 : 1 ≤ r) (h4 : r ≤ 4) {w a b : D} {n0 n1 n2 : Bool} (hw : Ch (.int (r : Nat)) badW w n0) (ha : Ch (.tup [rep r (.int 3)]) (badM r) a n1) (hb : Ch (rep r (.int 2)) (badR r) b n2) (μ : List Cell) (hk : ∀ r : Nat, 1 ≤ r → r ≤ 4 → Out (G_span_paper [.int (r : Nat), .tup [rep r (.int 3)], rep r (.int 2)] μ) μ none) : Out (F_span_paper [w, a, b] μ) μ (fstE [(n0, eC w), (n1, eR), (n2, eR)]) := by
  rw [e_span_paper]
  rcases hw with ⟨rfl, rfl⟩ | ⟨rfl, hw⟩
  · rcases ha with ⟨rfl, rfl⟩ | ⟨rfl, ha⟩
    · rcases hb with ⟨rfl, rfl⟩ | ⟨rfl, hb⟩
      · exact hk r h1 h4
      · exact nestC (L := badR) (span_paper_1 μ) h1 h4 hb
    · exact nestC (L := badM) (span_paper_0 b μ) h1 h4 ha
  · exact atW (span_paper_w a b μ) hw
theorem is_row_w (a : D) (μ : List Cell) : badW.map (fun w => F_is_row [w, a] μ) = badW.map (fun w => CR.exc (eC w) μ) := by kernel_rfl
theorem is_row_0  (μ : List Cell) : [1, 2, 3, 4].map (fun r : Nat => (badR r).map fun a => okM (F_is_row [.int (r : Nat), a] μ) μ) = [1, 2, 3, 4].map (fun r : Nat => (badR r).map fun _ => (μ = μ)) := by kernel_rfl
theorem is_row_k (μ : List Cell) : [1, 2, 3, 4].map (fun r : Nat => okM (F_is_row [.int (r : Nat), rep r (.int 2)] μ) μ) = [1, 2, 3, 4].map (fun _ => (μ = μ)) := by kernel_rfl
theorem is_row_out {r : Nat} (h1 : 1 ≤ r) (h4 : r ≤ 4) {w a : D} {n0 n1 : Bool} (hw : Ch (.int (r : Nat)) badW w n0) (ha : Ch (rep r (.int 2)) (badR r) a n1) (μ : List Cell) : Out (F_is_row [w, a] μ) μ (fstE [(n0, eC w)]) := by
  rcases hw with ⟨rfl, rfl⟩ | ⟨rfl, hw⟩
  · rcases ha with ⟨rfl, rfl⟩ | ⟨rfl, ha⟩
    · exact out_ok (one4 (is_row_k μ) h1 h4)
    · exact out_ok (nestP (is_row_0 μ) h1 h4 ha)
  · exact atW (is_row_w a μ) hw
theorem is_lot_w (a : D) (μ : List Cell) : badW.map (fun w => F_is_lot [w, a] μ) = badW.map (fun w => CR.exc (eC w) μ) := by kernel_rfl
theorem is_lot_0  (μ : List Cell) : [1, 2, 3, 4].map (fun r : Nat => (badL r).map fun a => okM (F_is_lot [.int (r : Nat), a] μ) μ) = [1, 2, 3, 4].map (fun r : Nat => (badL r).map fun _ => (μ = μ)) := by kernel_rfl
theorem is_lot_k (μ : List Cell) : [1, 2, 3, 4].map (fun r : Nat => okM (F_is_lot [.int (r : Nat), .tup [rep r (.int 1)]] μ) μ) = [1, 2, 3, 4].map (fun _ => (μ = μ)) := by kernel_rfl
theorem is_lot_out {r : Nat} (h1 : 1 ≤ r) (h4 : r ≤ 4) {w a : D} {n0 n1 : Bool} (hw : Ch (.int (r : Nat)) badW w n0) (ha : Ch (.tup [rep r (.int 1)]) (badL r) a n1) (μ : List Cell) : Out (F_is_lot [w, a] μ) μ (fstE [(n0, eC w)]) := by
  rcases hw with ⟨rfl, rfl⟩ | ⟨rfl, hw⟩
  · rcases ha with ⟨rfl, rfl⟩ | ⟨rfl, ha⟩
    · exact out_ok (one4 (is_lot_k μ) h1 h4)
    · exact out_ok (nestP (is_lot_0 μ) h1 h4 ha)
  · exact atW (is_lot_w a μ) hw
theorem is_span_paper_w (a b : D) (μ : List Cell) : badW.map (fun w => F_is_span_paper [w, a, b, .non] μ) = badW.map (fun w => CR.exc (eC w) μ) := by kernel_rfl
theorem is_span_paper_0 (b : D) (μ : List Cell) : [1, 2, 3, 4].map (fun r : Nat => (badM r).map fun a => F_is_span_paper [.int (r : Nat), a, b, .non] μ) = [1, 2, 3, 4].map (fun r : Nat => (badM r).map fun _ => CR.exc eR μ) := by kernel_rfl
theorem is_span_paper_1  (μ : List Cell) : [1, 2, 3, 4].map (fun r : Nat => (badR r).map fun b => F_is_span_paper [.int (r : Nat), .tup [rep r (.int 3)], b, .non] μ) = [1, 2, 3, 4].map (fun r : Nat => (badR r).map fun _ => CR.exc eR μ) := by kernel_rfl
theorem is_span_paper_k (μ : List Cell) : [1, 2, 3, 4].map (fun r : Nat => okM (F_is_span_paper [.int (r : Nat), .tup [rep r (.int 3)], rep r (.int 2), .non] μ) μ) = [1, 2, 3, 4].map (fun _ => (μ = μ)) := by kernel_rfl
theorem is_span_paper_out {r : Nat} (h1 : 1 ≤ r) (h4 : r ≤ 4) {w a b : D} {n0 n1 n2 : Bool} (hw : Ch (.int (r : Nat)) badW w n0) (ha : Ch (.tup [rep r (.int 3)]) (badM r) a n1) (hb : Ch (rep r (.int 2)) (badR r) b n2) (μ : List Cell) : Out (F_is_span_paper [w, a, b, .non] μ) μ (fstE [(n0, eC w), (n1, eR), (n2, eR)]) := by
  rcases hw with ⟨rfl, rfl⟩ | ⟨rfl, hw⟩
  · rcases ha with ⟨rfl, rfl⟩ | ⟨rfl, ha⟩
    · rcases hb with ⟨rfl, rfl⟩ | ⟨rfl, hb⟩
      · exact out_ok (one4 (is_span_paper_k μ) h1 h4)
      · exact nestC (L := badR) (is_span_paper_1 μ) h1 h4 hb
    · exact nestC (L := badM) (is_span_paper_0 b μ) h1 h4 ha
  · exact atW (is_span_paper_w a b μ) hw
end K14

namespace K14
open PySem PySem.Spec PyProof.Rows L2 DL
/-! ### span_paper at the right values: the lent list -/
def w2 (r : Nat) : D := rep r (.int 2)
def w3 (r : Nat) : D := .tup [rep r (.int 3)]
-- the parts of sum_in
def siA : FS := (dParM 3 4 (dMv (dB gLen (dCons (dVar 1) dNil)) (dMc (dLst dNil) dMn)))
def siI : FA := (dIterEn (dCons (dVar 1) dNil))
def siG : FG := (gT (gC (gNm 5) (gC (gNm 6) gN)))
def siB1 : FS := (dAsg 7 (dB gTuple (dCons (dFrz (dLc [12] (dRng1 (dCons (dOp gAdd (dVar 3) (dC (.int (1)))) dNil)) (gNm 12) dYes (dIf (dCmpT eqS (dVar 12) (dVar 5)) (dC (.int (1))) (dC (.int (0)))))) dNil)))
def siL : FE := (dCall F_rest_by (dCons (dVar 4) (dCons (dOp gAdd (dVar 6) (dVar 7)) dNil)))
def siB3 : FS := (dIfS (dCmpT notN (dCall F_lead_in (dCons (dSl (dVar 8) dNo (dPart (dVar 0))) dNil)) (dC .non)) (dDrop (dM "list" gAppend (dVar 4) (dCons (dCall F_lowest_row (dCons (dVar 8) dNil)) dNil))) dSkip)
def siC : FS := (dSeq (dAsg 8 (dCall F_rest_by (dCons (dVar 4) (dCons (dOp gAdd (dOp gAdd (dVar 2) (dOp gMul (dTup (dCons (dC (.int (0))) dNil)) (dVar 3))) (dTup (dCons (dC (.int (1))) dNil))) dNil))))
    (dSeq (dIfS (dCmpT notN (dCall F_lead_in (dCons (dSl (dVar 8) dNo (dPart (dVar 0))) dNil)) (dC .non)) (dRet (dC .non)) dSkip)
    (dSeq (dAsg 9 (dSl (dVar 8) (dPart (dVar 0)) dNo))
    (dSeq (dAsg 10 (dC (.int (0))))
    (dSeq (dForI (dIter (dVar 9)) (gNm 11) (dAsg 10 (dCall F_common_share (dCons (dVar 10) (dCons (dVar 11) dNil)))))
    (dRet (dTup (dCons (dOp gFdiv (dOp gIx (dVar 9) (dNeg (dC (.int (1))))) (dVar 10)) (dCons (dB gTuple (dCons (dFrz (dLc [11] (dIter (dSl (dVar 9) dNo (dPart (dNeg (dC (.int (1))))))) (gNm 11) dYes (dOp gSub (dC (.int (0))) (dOp gFdiv (dVar 11) (dVar 10))))) dNil)) dNil)))))))))
theorem si_parts : F_sum_in = runF (dSeq siA (dSeq (dFrzS 4 (dForI siI siG (dSeq siB1 (dSeq (dAsg 8 (dLend 4 siL)) siB3)))) siC)) 13 := rfl
theorem runF_at {b : FS} {n : Nat} {ds : List D} {μ : List Cell} {s0 s : S} {v : D} (h0 : (⟨ds.map .val ++ List.replicate (n - ds.length) .no, μ⟩ : S) = s0) (h : b s0 = .rt v s) (hs : s.μ = μ) : runF b n ds μ = .ok v μ := by
  rw [← h0] at h
  rw [runF_rt h, hs]
def left1 (r : Nat) : D := .tup (List.replicate r (.int 3) ++ [.int 1, .int 0])
def st (a4 a5 a6 a7 a8 : DL.Slot) (r : Nat) (μ : List Cell) : S := ⟨[.val (.int (r : Nat)), .val (w3 r), .val (w2 r), .val (.int 1), a4, a5, a6, a7, a8, .no, .no, .no, .no], μ⟩
theorem sum_in_k {r : Nat} (h1 : 1 ≤ r) (h4 : r ≤ 4) {μ : List Cell} (hn : μ.all nLc = true) : F_sum_in [.int (r : Nat), w3 r, w2 r] μ = .ok (.tup [.int 3, .tup [.int 2]]) μ := by
  have eA : siA ⟨[.val (.int (r : Nat)), .val (w3 r), .val (w2 r), .no, .no, .no, .no, .no, .no, .no, .no, .no, .no], μ⟩ = .nx (st (.own (.lst [])) .no .no .no .no r μ) := by kernel_rfl
  have eI : siI (st (.own (.lst [])) .no .no .no .no r μ) = .ok [.tup [.int 0, rep r (.int 3)]] (st (.own (.lst [])) .no .no .no .no r μ) := by kernel_rfl
  have eB1 : siB1 (st (.own (.lst [])) (.val (.int 0)) (.val (rep r (.int 3))) .no .no r μ) = .nx (st (.own (.lst [])) (.val (.int 0)) (.val (rep r (.int 3))) (.val (.tup [.int 1, .int 0])) .no r μ) := by kernel_rfl
  have eL : siL (st (.val (.lst [])) (.val (.int 0)) (.val (rep r (.int 3))) (.val (.tup [.int 1, .int 0])) .no r μ) = .ok (left1 r) (st (.val (.lst [])) (.val (.int 0)) (.val (rep r (.int 3))) (.val (.tup [.int 1, .int 0])) .no r μ) := by
    obtain rfl | rfl | rfl | rfl : r = 1 ∨ r = 2 ∨ r = 3 ∨ r = 4 := by omega
    all_goals kernel_rfl
  have eB2 : dAsg 8 (dLend 4 siL) (st (.own (.lst [])) (.val (.int 0)) (.val (rep r (.int 3))) (.val (.tup [.int 1, .int 0])) .no r μ) = .nx (st (.own (.lst [])) (.val (.int 0)) (.val (rep r (.int 3))) (.val (.tup [.int 1, .int 0])) (.val (left1 r)) r μ) :=
    asg_ok (lend_ok (xs := []) (μ' := μ) rfl eL (by
      obtain rfl | rfl | rfl | rfl : r = 1 ∨ r = 2 ∨ r = 3 ∨ r = 4 := by omega
      all_goals kernel_rfl) hn (by
      obtain rfl | rfl | rfl | rfl : r = 1 ∨ r = 2 ∨ r = 3 ∨ r = 4 := by omega
      all_goals kernel_rfl)) rfl
  have eB3 : siB3 (st (.own (.lst [])) (.val (.int 0)) (.val (rep r (.int 3))) (.val (.tup [.int 1, .int 0])) (.val (left1 r)) r μ) = .nx (st (.own (.lst [left1 r])) (.val (.int 0)) (.val (rep r (.int 3))) (.val (.tup [.int 1, .int 0])) (.val (left1 r)) r μ) := by
    obtain rfl | rfl | rfl | rfl : r = 1 ∨ r = 2 ∨ r = 3 ∨ r = 4 := by omega
    all_goals kernel_rfl
  have eF : dForI siI siG (dSeq siB1 (dSeq (dAsg 8 (dLend 4 siL)) siB3)) (st (.own (.lst [])) .no .no .no .no r μ) = .nx (st (.own (.lst [left1 r])) (.val (.int 0)) (.val (rep r (.int 3))) (.val (.tup [.int 1, .int 0])) (.val (left1 r)) r μ) :=
    for_it eI (for_nx (s1 := st (.own (.lst [])) (.val (.int 0)) (.val (rep r (.int 3))) .no .no r μ) rfl ((seq_nx eB1).trans ((seq_nx eB2).trans eB3)) for_nil)
  have eZ : dFrzS 4 (dForI siI siG (dSeq siB1 (dSeq (dAsg 8 (dLend 4 siL)) siB3))) (st (.own (.lst [])) .no .no .no .no r μ) = .nx (st (.val (.lst [left1 r])) (.val (.int 0)) (.val (rep r (.int 3))) (.val (.tup [.int 1, .int 0])) (.val (left1 r)) r μ) := by
    unfold dFrzS
    rw [eF]
    rfl
  have eC : ∃ s, siC (st (.val (.lst [left1 r])) (.val (.int 0)) (.val (rep r (.int 3))) (.val (.tup [.int 1, .int 0])) (.val (left1 r)) r μ) = .rt (.tup [.int 3, .tup [.int 2]]) s ∧ s.μ = μ := by
    have key : (match siC (st (.val (.lst [left1 r])) (.val (.int 0)) (.val (rep r (.int 3))) (.val (.tup [.int 1, .int 0])) (.val (left1 r)) r μ) with | .rt d s => (d, s.μ) | _ => (.non, [])) = (.tup [.int 3, .tup [.int 2]], μ) := by
      obtain rfl | rfl | rfl | rfl : r = 1 ∨ r = 2 ∨ r = 3 ∨ r = 4 := by omega
      all_goals kernel_rfl
    split at key
    · rename_i d s e
      rw [Prod.mk.injEq] at key
      rw [key.1] at e
      exact ⟨s, e, key.2⟩
    · cases (Prod.mk.inj key).1
  obtain ⟨s, e, hs⟩ := eC
  rw [si_parts]
  have h0 : (⟨[D.int (r : Nat), w3 r, w2 r].map .val ++ List.replicate (13 - [D.int (r : Nat), w3 r, w2 r].length) .no, μ⟩ : S) = ⟨[.val (.int (r : Nat)), .val (w3 r), .val (w2 r), .no, .no, .no, .no, .no, .no, .no, .no, .no, .no], μ⟩ := by kernel_rfl
  exact runF_at h0 ((seq_nx eA).trans ((seq_nx eZ).trans e)) hs
-- span_paper
def spA : FS := (dDrop (dCall F_require_width (dCons (dVar 0) dNil)))
def spB : FS := (dDrop (dCall F_require_rows (dCons (dVar 0) (dCons (dVar 1) dNil))))
def spC : FS := (dDrop (dCall F_require_row (dCons (dVar 0) (dCons (dVar 2) dNil))))
def spD : FS := (dSeq (dIfS (dCmpT notN (dVar 3) (dC .non)) (dRet (dTup (dCons (dC (.str "sum")) (dStar (dVar 3) dNil)))) dSkip)
    (dSeq (dFrzS 4 (dAsgO 4 (dLc [5] (dIter (dCall G_apart_in (dCons (dVar 0) (dCons (dCall G_lot_in (dCons (dVar 1) dNil)) dNil)))) (gNm 5) (dCmpT neS (dCall F_dot (dCons (dVar 5) (dCons (dVar 2) dNil))) (dC (.int (0)))) (dVar 5))))
    (dRet (dTup (dCons (dC (.str "apart")) (dCons (dOp gIx (dVar 4) (dC (.int (0)))) dNil))))))
theorem sp_parts : G_span_paper = runF (dSeq spA (dSeq spB (dSeq spC (dSeq (dAsg 3 (dCall F_sum_in (dCons (dVar 0) (dCons (dVar 1) (dCons (dVar 2) dNil))))) spD)))) 6 := rfl
theorem span_k {r : Nat} (h1 : 1 ≤ r) (h4 : r ≤ 4) {μ : List Cell} (hn : μ.all nLc = true) : Out (G_span_paper [.int (r : Nat), w3 r, w2 r] μ) μ none := by
  have eA : spA ⟨[.val (.int (r : Nat)), .val (w3 r), .val (w2 r), .no, .no, .no], μ⟩ = .nx ⟨[.val (.int (r : Nat)), .val (w3 r), .val (w2 r), .no, .no, .no], μ⟩ := by
    obtain rfl | rfl | rfl | rfl : r = 1 ∨ r = 2 ∨ r = 3 ∨ r = 4 := by omega
    all_goals kernel_rfl
  have eB : spB ⟨[.val (.int (r : Nat)), .val (w3 r), .val (w2 r), .no, .no, .no], μ⟩ = .nx ⟨[.val (.int (r : Nat)), .val (w3 r), .val (w2 r), .no, .no, .no], μ⟩ := by
    obtain rfl | rfl | rfl | rfl : r = 1 ∨ r = 2 ∨ r = 3 ∨ r = 4 := by omega
    all_goals kernel_rfl
  have eC : spC ⟨[.val (.int (r : Nat)), .val (w3 r), .val (w2 r), .no, .no, .no], μ⟩ = .nx ⟨[.val (.int (r : Nat)), .val (w3 r), .val (w2 r), .no, .no, .no], μ⟩ := by
    obtain rfl | rfl | rfl | rfl : r = 1 ∨ r = 2 ∨ r = 3 ∨ r = 4 := by omega
    all_goals kernel_rfl
  have eS : dAsg 3 (dCall F_sum_in (dCons (dVar 0) (dCons (dVar 1) (dCons (dVar 2) dNil)))) ⟨[.val (.int (r : Nat)), .val (w3 r), .val (w2 r), .no, .no, .no], μ⟩ = .nx ⟨[.val (.int (r : Nat)), .val (w3 r), .val (w2 r), .val (.tup [.int 3, .tup [.int 2]]), .no, .no], μ⟩ :=
    asg_ok (call_ok (ds := [.int (r : Nat), w3 r, w2 r]) rfl rfl (sum_in_k h1 h4 hn)) rfl
  have eD : spD ⟨[.val (.int (r : Nat)), .val (w3 r), .val (w2 r), .val (.tup [.int 3, .tup [.int 2]]), .no, .no], μ⟩ = .rt (.tup [.str "sum", .int 3, .tup [.int 2]]) ⟨[.val (.int (r : Nat)), .val (w3 r), .val (w2 r), .val (.tup [.int 3, .tup [.int 2]]), .no, .no], μ⟩ := by kernel_rfl
  rw [sp_parts]
  have h0 : (⟨[D.int (r : Nat), w3 r, w2 r].map .val ++ List.replicate (6 - [D.int (r : Nat), w3 r, w2 r].length) .no, μ⟩ : S) = ⟨[.val (.int (r : Nat)), .val (w3 r), .val (w2 r), .no, .no, .no], μ⟩ := by kernel_rfl
  exact ⟨_, runF_at h0 ((seq_nx eA).trans ((seq_nx eB).trans ((seq_nx eC).trans ((seq_nx eS).trans eD)))) rfl⟩
end K14

namespace K14
open PySem PySem.Spec PyProof.Rows L2 DL
/-! ### words -/
def Wd : Option EX → Str → Prop
  | none, x => x = "fine"
  | some e, x => ∀ s2 : S, dMatch sub s2 e cl_L_met = some x
theorem met_ok {F : FF} {fa : FA} {s : S} {ds : List D} {o : Option EX} {x : Str} (ht : tabsOk 2 s.μ = true) (h : fa (hide s) = .ok ds (hide s)) (hn : ds.all noOwn = true) (e : Out (F ds s.μ) s.μ o) (hw : Wd o x) : dMet 2 sub cl_L_met "fine" (dCall F fa) s = .ok (.str x) s := by
  have hm : (hide s).μ = s.μ := rfl
  unfold dMet
  rw [if_pos ht]
  cases o with
  | none =>
    obtain ⟨d, e⟩ := e
    have q : dCall F fa (hide s) = .ok d (hide s) := call_ok h hn e
    rw [q]
    cases (show x = "fine" from hw)
    rfl
  | some ex =>
    have e : F ds s.μ = .exc ex s.μ := e
    have q : dCall F fa (hide s) = .exc ex (hide s) := by
      unfold dCall
      rw [h]
      simp only [Res.bind, hn, if_true, hm, e]
      rfl
    rw [q]
    simp only [hw (hide s), hm]
theorem metV_ok {f : Str} {F : FF} {Fs : List (Str × FF)} {fa : FA} {s : S} {ds : List D} {o : Option EX} {x : Str} (h15 : (hide s).δ[15]? = some (.val (.fn f))) (hF : Fs.lookup f = some F) (ht : tabsOk 2 s.μ = true) (h : fa (hide s) = .ok ds (hide s)) (hn : ds.all noOwn = true) (e : Out (F ds s.μ) s.μ o) (hw : Wd o x) : dMet 2 sub cl_L_met "fine" (dCallV 15 Fs fa) s = .ok (.str x) s := by
  have q : dCallV 15 Fs fa (hide s) = dCall F fa (hide s) := by
    unfold dCallV
    rw [h15]
    simp only [hF]
  rw [← met_ok (F := F) (fa := fa) ht h hn e hw]
  unfold dMet
  rw [q]
def shw (w : D) : Str := match toPy w with | some p => p.shown | none => ""
def cw (w : D) : Str := ("count " : Str) ++ shw w
theorem word_c (s2 : S) : badW.map (fun w => dMatch sub s2 (eC w) cl_L_met) = badW.map fun w => some (cw w) := by kernel_rfl
theorem word_R (s2 : S) : dMatch sub s2 eR cl_L_met = some "row" := by kernel_rfl
theorem word_L (s2 : S) : dMatch sub s2 eL cl_L_met = some "lot" := by kernel_rfl
theorem word_O (s2 : S) : dMatch sub s2 eO cl_L_met = some "operation" := by kernel_rfl
def fstW : List (Str × Bool) → Str
  | [] => "fine"
  | (x, b) :: r => if b then x else fstW r
theorem wd_nil : Wd (fstE []) (fstW []) := rfl
theorem wd_cons {b : Bool} {e : EX} {x : Str} {l : List (Bool × EX)} {l' : List (Str × Bool)} (h : b = true → ∀ s2 : S, dMatch sub s2 e cl_L_met = some x) (hl : Wd (fstE l) (fstW l')) : Wd (fstE ((b, e) :: l)) (fstW ((x, b) :: l')) := by
  cases b with
  | true => exact h rfl
  | false => exact hl
theorem wd_w {r w : D} {b : Bool} {l : List (Bool × EX)} {l' : List (Str × Bool)} (hw : Ch r badW w b) (hl : Wd (fstE l) (fstW l')) : Wd (fstE ((b, eC w) :: l)) (fstW ((cw w, b) :: l')) := by
  refine wd_cons (fun hb s2 => ?_) hl
  rcases hw with ⟨rfl, _⟩ | ⟨_, hm⟩
  · cases hb
  · exact List.map_inj_left.mp (word_c s2) w hm
theorem wd_R {b : Bool} {l : List (Bool × EX)} {l' : List (Str × Bool)} (hl : Wd (fstE l) (fstW l')) : Wd (fstE ((b, eR) :: l)) (fstW (("row", b) :: l')) := wd_cons (fun _ => word_R) hl
theorem wd_L {b : Bool} {l : List (Bool × EX)} {l' : List (Str × Bool)} (hl : Wd (fstE l) (fstW l')) : Wd (fstE ((b, eL) :: l)) (fstW (("lot", b) :: l')) := wd_cons (fun _ => word_L) hl
theorem wd_O {b : Bool} {l : List (Bool × EX)} {l' : List (Str × Bool)} (hl : Wd (fstE l) (fstW l')) : Wd (fstE ((b, eO) :: l)) (fstW (("operation", b) :: l')) := wd_cons (fun _ => word_O) hl
def pr (x : Str) (b : Bool) : D := .tup [.str x, .bl b]
theorem due1 (x : Str) (b : Bool) (μ : List Cell) : F_L_due [.lst [pr x b]] μ = .ok (.str (fstW [(x, b)])) μ := by
  cases b <;> kernel_rfl
theorem due2 (x y : Str) (b c : Bool) (μ : List Cell) : F_L_due [.lst [pr x b, pr y c]] μ = .ok (.str (fstW [(x, b), (y, c)])) μ := by
  cases b <;> cases c <;> kernel_rfl
theorem due3 (x y z : Str) (b c d : Bool) (μ : List Cell) : F_L_due [.lst [pr x b, pr y c, pr z d]] μ = .ok (.str (fstW [(x, b), (y, c), (z, d)])) μ := by
  cases b <;> cases c <;> cases d <;> kernel_rfl
theorem py_strs : ∀ l : List Str, toPyL (l.map D.str) = some (l.map .str)
  | [] => rfl
  | x :: l => by simp [toPyL, toPy, py_strs l]
theorem lay_strs : ∀ l : List Str, l.all PyData.strOk = true → PyData.canLayAll0 (l.map PyData.str) = true
  | [], _ => by simp [PyData.canLayAll0]
  | x :: l, h => by
    rw [List.all_cons, Bool.and_eq_true] at h
    simp [PyData.canLayAll0, PyData.canLay0, lay_strs l h.2, h.1]
theorem dep_strs : ∀ l : List Str, PyData.depthAll (l.map PyData.str) ≤ 3
  | [] => by simp [PyData.depthAll]
  | x :: l => by
    have := dep_strs l
    simp only [List.map_cons, PyData.depthAll, PyData.depth]
    omega
theorem eq_strs (s : S) (l : List Str) (h : l.all PyData.strOk = true) : eqS s (.lst (l.map .str)) (.lst (l.map .str)) = some (.bl true) := by
  have h1 : toPyS s (.lst (l.map .str)) = some (.list (l.map .str)) := by
    show toPy (.lst (l.map .str)) = _
    simp only [toPy, py_strs, Option.map_some]
  have c : (PyData.list (l.map .str)).canLay0 = true := by
    simp only [PyData.canLay0, lay_strs l h]
  have h2 : SeqAt.shaped (.list (l.map .str)) = true := by
    unfold SeqAt.shaped
    rw [c]
    have := dep_strs l
    simp only [PyData.depth, Bool.true_and]
    exact decide_eq_true (by omega)
  have h3 : eqG (.list (l.map .str)) (.list (l.map .str)) = some true := by
    unfold eqG
    rw [h2]
    have q := PySem.SeqAt.eqv_refl _ c
    simp only [Bool.and_self, if_true, q]
  simp only [eqS, twoStr, gDat, h1, h3, Option.map_some]
/-! ### the draw of a right or a wrong value -/
theorem one_ok {n k : Nat} {right : D} {wrong : List D} {μ : List Cell} (d : Dc k n μ) (hk : k ≤ 90000) (h1 : 1 ≤ wrong.length) (h2 : wrong.length ≤ 60) (nr : noOwn right = true) (nw : ∀ x ∈ wrong, noOwn x = true) :
    ∃ (v : D) (b : Bool) (μ' : List Cell), Ch right wrong v b ∧ noOwn v = true ∧ Dc (k + 2) n μ' ∧ F_L_one [.ref n, right, .lst wrong] μ = .ok (.tup [v, .bl b]) μ' := by
  obtain ⟨r, μ1, e1, hr, d1⟩ := roll_ok (t := 3) d (by omega) (by decide) (by decide)
  have q1 : dCall F_L_roll (dCons (dVar 0) (dCons (dC (.int (3))) dNil)) ⟨[.val (.ref n), .val right, .val (.lst wrong)], μ⟩ = .ok (.int (r : Nat)) ⟨[.val (.ref n), .val right, .val (.lst wrong)], μ1⟩ :=
    call_okμ (s1 := ⟨[.val (.ref n), .val right, .val (.lst wrong)], μ⟩) (ds := [.ref n, .int 3]) rfl rfl e1
  by_cases h0 : (0 : Int) < (r : Nat)
  · refine ⟨right, false, μ1, .inl ⟨rfl, rfl⟩, nr, d1.mono (by omega), ?_⟩
    have c1 : dCmpT gGt (dCall F_L_roll (dCons (dVar 0) (dCons (dC (.int (3))) dNil))) (dC (.int (0))) ⟨[.val (.ref n), .val right, .val (.lst wrong)], μ⟩ = .ok true ⟨[.val (.ref n), .val right, .val (.lst wrong)], μ1⟩ :=
      cmp_ok q1 c_ok (by simp only [gGt]; simp; omega)
    have t1 : dTup (dCons (dVar 1) (dCons (dC (.bl false)) dNil)) ⟨[.val (.ref n), .val right, .val (.lst wrong)], μ1⟩ = .ok (.tup [right, .bl false]) ⟨[.val (.ref n), .val right, .val (.lst wrong)], μ1⟩ := tup_ok (cons_ok (var_ok rfl) (cons_ok c_ok nil_ok)) (by rw [List.all_cons, nr]; rfl) (by show 2 ≤ 16777216; decide)
    have key : b_L_one ⟨[.val (.ref n), .val right, .val (.lst wrong)], μ⟩ = .rt (.tup [right, .bl false]) ⟨[.val (.ref n), .val right, .val (.lst wrong)], μ1⟩ := by
      unfold b_L_one dSeq dIfS dRet
      simp only [c1, t1, noOwn, if_true]
    exact runF_rt (n := 3) (ds := [.ref n, right, .lst wrong]) key
  · obtain ⟨x, hx, μ2, e2, d2⟩ := pick_okD d1 (by omega) h1 (by omega) nw
    have nx := nw x hx
    refine ⟨x, true, μ2, .inr ⟨rfl, hx⟩, nx, d2, ?_⟩
    have c1 : dCmpT gGt (dCall F_L_roll (dCons (dVar 0) (dCons (dC (.int (3))) dNil))) (dC (.int (0))) ⟨[.val (.ref n), .val right, .val (.lst wrong)], μ⟩ = .ok false ⟨[.val (.ref n), .val right, .val (.lst wrong)], μ1⟩ :=
      cmp_ok q1 c_ok (by simp only [gGt]; simp; omega)
    have q2 : dCall F_L_pick (dCons (dVar 0) (dCons (dVar 2) dNil)) ⟨[.val (.ref n), .val right, .val (.lst wrong)], μ1⟩ = .ok x ⟨[.val (.ref n), .val right, .val (.lst wrong)], μ2⟩ :=
      call_okμ (s1 := ⟨[.val (.ref n), .val right, .val (.lst wrong)], μ1⟩) (ds := [.ref n, .lst wrong]) (cons_ok (var_ok rfl) (cons_ok (var_ok rfl) nil_ok)) rfl e2
    have t1 : dTup (dCons (dCall F_L_pick (dCons (dVar 0) (dCons (dVar 2) dNil))) (dCons (dC (.bl true)) dNil)) ⟨[.val (.ref n), .val right, .val (.lst wrong)], μ1⟩ = .ok (.tup [x, .bl true]) ⟨[.val (.ref n), .val right, .val (.lst wrong)], μ2⟩ := tup_ok (cons_ok q2 (cons_ok c_ok nil_ok)) (by rw [List.all_cons, nx]; rfl) (by show 2 ≤ 16777216; decide)
    have key : b_L_one ⟨[.val (.ref n), .val right, .val (.lst wrong)], μ⟩ = .rt (.tup [x, .bl true]) ⟨[.val (.ref n), .val right, .val (.lst wrong)], μ2⟩ := by
      unfold b_L_one
      refine (seq_nx (ifS_no c1)).trans ?_
      unfold dRet
      simp only [t1, noOwn, if_true]
    exact runF_rt (n := 3) (ds := [.ref n, right, .lst wrong]) key
theorem draw_ok {n k a b : Nat} {right : D} {wrong : List D} {s : S} {fa : FA} (h : fa s = .ok [.ref n, right, .lst wrong] s) (d : Dc k n s.μ) (hk : k ≤ 90000) (h1 : 1 ≤ wrong.length) (h2 : wrong.length ≤ 60) (nr : noOwn right = true) (nw : ∀ x ∈ wrong, noOwn x = true) (nl : noOwn (.lst wrong) = true) :
    ∃ (v : D) (c : Bool) (μ' : List Cell), Ch right wrong v c ∧ noOwn v = true ∧ Dc (k + 2) n μ' ∧ dAsgG (dCall F_L_one fa) (gT (gC (gNm a) (gC (gNm b) gN))) s = .nx ⟨(s.δ.set a (.val v)).set b (.val (.bl c)), μ'⟩ := by
  obtain ⟨v, c, μ', h3, h4, h5, h6⟩ := one_ok d hk h1 h2 nr nw
  refine ⟨v, c, μ', h3, h4, h5, ?_⟩
  have q : dCall F_L_one fa s = .ok (.tup [v, .bl c]) { s with μ := μ' } := call_okμ h (by rw [List.all_cons, List.all_cons, nr, List.all_cons, nl]; rfl) h6
  exact asgG_ok q rfl rfl
end K14

namespace K14
open PySem PySem.Spec PyProof.Rows L2 DL
/-! ### _law_right, statement by statement -/
def q_0 : FS := (dAsg 1 (dOp gAdd (dC (.int (1))) (dCall F_L_roll (dCons (dVar 0) (dCons (dC (.int (4))) dNil)))))
def q_1 : FS := (dAsgG (dCall F_L_one (dCons (dVar 0) (dCons (dVar 1) (dCons (dFrz (dLst (dCons (dC (.int (0))) (dCons (dC (.int (61))) (dCons (dNeg (dC (.int (1)))) (dCons (dC (.bl true)) (dCons (dC .non) (dCons (dC (.str "2")) (dCons (dTup (dCons (dC (.int (2))) dNil)) (dCons (dOp gPow (dC (.int (10))) (dC (.int (30)))) dNil)))))))))) dNil)))) (gT (gC (gNm 21) (gC (gNm 2) gN))))
def q_2 : FS := (dAsg 3 (dFrz (dLst (dCons (dC .non) (dCons (dTup dNil) (dCons (dOp gMul (dTup (dCons (dC (.int (0))) dNil)) (dOp gAdd (dVar 1) (dC (.int (1))))) (dCons (dFrz (dRepF (dLst (dCons (dC (.int (0))) dNil)) (dVar 1))) (dCons (dOp gMul (dTup (dCons (dC .non) dNil)) (dVar 1)) (dCons (dOp gMul (dTup (dCons (dC (.bl true)) dNil)) (dVar 1)) (dCons (dC (.int (0))) (dCons (dOp gMul (dTup (dCons (dC (.str "0")) dNil)) (dVar 1)) (dCons (dFrz dEmp) dNil))))))))))))
def q_3 : FS := (dAsgG (dCall F_L_one (dCons (dVar 0) (dCons (dOp gMul (dTup (dCons (dC (.int (2))) dNil)) (dVar 1)) (dCons (dVar 3) dNil)))) (gT (gC (gNm 18) (gC (gNm 4) gN))))
def q_4 : FS := (dAsgG (dCall F_L_one (dCons (dVar 0) (dCons (dOp gMul (dTup (dCons (dC (.int (0))) dNil)) (dVar 1)) (dCons (dVar 3) dNil)))) (gT (gC (gNm 19) (gC (gNm 5) gN))))
def q_5 : FS := (dAsg 6 (dFrz (dLst (dCons (dC .non) (dCons (dFrz (dLst (dCons (dTup dNil) dNil))) (dCons (dTup (dCons (dOp gMul (dTup (dCons (dC (.int (0))) dNil)) (dVar 1)) dNil)) (dCons (dTup (dCons (dOp gMul (dTup (dCons (dC (.int (2))) dNil)) (dVar 1)) dNil)) (dCons (dTup (dCons (dOp gMul (dTup (dCons (dC (.int (1))) dNil)) (dOp gAdd (dVar 1) (dC (.int (1))))) dNil)) (dCons (dC (.int (0))) (dCons (dTup (dCons (dOp gMul (dTup (dCons (dC (.bl true)) dNil)) (dVar 1)) dNil)) (dCons (dFrz dEmp) dNil)))))))))))
def q_6 : FS := (dAsgG (dCall F_L_one (dCons (dVar 0) (dCons (dTup (dCons (dOp gMul (dTup (dCons (dC (.int (1))) dNil)) (dVar 1)) dNil)) (dCons (dVar 6) dNil)))) (gT (gC (gNm 16) (gC (gNm 7) gN))))
def q_7 : FS := (dAsgG (dCall F_L_one (dCons (dVar 0) (dCons (dTup dNil) (dCons (dVar 6) dNil)))) (gT (gC (gNm 17) (gC (gNm 8) gN))))
def q_8 : FS := (dAsgG (dCall F_L_one (dCons (dVar 0) (dCons (dTup (dCons (dOp gMul (dTup (dCons (dC (.int (3))) dNil)) (dVar 1)) dNil)) (dCons (dFrz (dLst (dCons (dC .non) (dCons (dFrz (dLst (dCons (dOp gMul (dTup (dCons (dC (.int (3))) dNil)) (dVar 1)) dNil))) (dCons (dTup (dCons (dOp gMul (dTup (dCons (dC (.int (3))) dNil)) (dOp gAdd (dVar 1) (dC (.int (1))))) dNil)) (dCons (dTup (dCons (dC .non) dNil)) (dCons (dTup (dCons (dOp gMul (dTup (dCons (dC (.bl true)) dNil)) (dVar 1)) dNil)) (dCons (dC (.int (0))) dNil)))))))) dNil)))) (gT (gC (gNm 20) (gC (gNm 9) gN))))
def q_9 : FS := (dAsgG (dCall F_L_one (dCons (dVar 0) (dCons (dNeg (dC (.int (4)))) (dCons (dFrz (dLst (dCons (dC .non) (dCons (dC (.bl true)) (dCons (dC (.str "3")) (dCons (dTup (dCons (dC (.int (1))) dNil)) (dCons (dFrz (dLst dNil)) dNil))))))) dNil)))) (gT (gC (gNm 14) (gC (gNm 10) gN))))
def q_10 : FS := (dAsg 11 (dTup (dCons (dOp gAdd (dC (.str "count ")) (dB gRepr (dCons (dVar 21) dNil))) (dCons (dVar 2) dNil))))
def q_11 : FS := (dAsgO 12 (dLst (dCons (dMet 2 sub cl_L_met "fine" (dCall F_row_plus (dCons (dVar 21) (dCons (dVar 18) (dCons (dVar 19) dNil))))) (dCons (dMet 2 sub cl_L_met "fine" (dCall F_row_times (dCons (dVar 21) (dCons (dVar 14) (dCons (dVar 18) dNil))))) dNil))))
def q_12 : FS := (dAsgO 13 (dLst (dCons (dCall F_L_due (dCons (dFrz (dLst (dCons (dVar 11) (dCons (dTup (dCons (dC (.str "row")) (dCons (dVar 4) dNil))) (dCons (dTup (dCons (dC (.str "row")) (dCons (dVar 5) dNil))) dNil))))) dNil)) (dCons (dCall F_L_due (dCons (dFrz (dLst (dCons (dVar 11) (dCons (dTup (dCons (dC (.str "operation")) (dCons (dVar 10) dNil))) (dCons (dTup (dCons (dC (.str "row")) (dCons (dVar 4) dNil))) dNil))))) dNil)) dNil))))
def q_13 : FS := (dAsgO 12 (dCat (dVar 12) (dFrz (dLst (dCons (dMet 2 sub cl_L_met "fine" (dCall F_product (dCons (dVar 21) (dCons (dVar 18) (dCons (dVar 19) dNil))))) (dCons (dMet 2 sub cl_L_met "fine" (dCall F_lowest (dCons (dVar 21) (dCons (dVar 18) dNil)))) dNil))))))
def q_14 : FS := (dAsgO 13 (dCat (dVar 13) (dFrz (dLst (dCons (dCall F_L_due (dCons (dFrz (dLst (dCons (dVar 11) (dCons (dTup (dCons (dC (.str "row")) (dCons (dVar 4) dNil))) (dCons (dTup (dCons (dC (.str "row")) (dCons (dVar 5) dNil))) dNil))))) dNil)) (dCons (dCall F_L_due (dCons (dFrz (dLst (dCons (dVar 11) (dCons (dTup (dCons (dC (.str "row")) (dCons (dVar 4) dNil))) dNil)))) dNil)) dNil))))))
def q_15 : FS := (dAsgO 12 (dCat (dVar 12) (dFrz (dLst (dCons (dMet 2 sub cl_L_met "fine" (dCall F_lot_of (dCons (dVar 21) (dCons (dVar 20) dNil)))) (dCons (dMet 2 sub cl_L_met "fine" (dCall F_holds (dCons (dVar 21) (dCons (dVar 16) (dCons (dVar 18) dNil))))) dNil))))))
def q_16 : FS := (dAsgO 13 (dCat (dVar 13) (dFrz (dLst (dCons (dCall F_L_due (dCons (dFrz (dLst (dCons (dVar 11) (dCons (dTup (dCons (dC (.str "row")) (dCons (dVar 9) dNil))) dNil)))) dNil)) (dCons (dCall F_L_due (dCons (dFrz (dLst (dCons (dVar 11) (dCons (dTup (dCons (dC (.str "lot")) (dCons (dVar 7) dNil))) (dCons (dTup (dCons (dC (.str "row")) (dCons (dVar 4) dNil))) dNil))))) dNil)) dNil))))))
def q_17 : FS := (dForI (dIter (dTup (dCons (dC (.fn "joined_lots")) (dCons (dC (.fn "met_lots")) dNil)))) (gNm 15) (dSeq (dDrop (dM "list" gAppend (dVar 12) (dCons (dMet 2 sub cl_L_met "fine" (dCallV 15 [("joined_lots", F_joined_lots), ("met_lots", F_met_lots)] (dCons (dVar 21) (dCons (dVar 16) (dCons (dVar 17) dNil))))) dNil))) (dDrop (dM "list" gAppend (dVar 13) (dCons (dCall F_L_due (dCons (dFrz (dLst (dCons (dVar 11) (dCons (dTup (dCons (dC (.str "lot")) (dCons (dVar 7) dNil))) (dCons (dTup (dCons (dC (.str "lot")) (dCons (dVar 8) dNil))) dNil))))) dNil)) dNil)))))
def q_18 : FS := (dAsgO 12 (dCat (dVar 12) (dFrz (dLst (dCons (dMet 2 sub cl_L_met "fine" (dCall F_rows_apart (dCons (dVar 21) (dCons (dVar 16) dNil)))) (dCons (dMet 2 sub cl_L_met "fine" (dCall F_span_paper (dCons (dVar 21) (dCons (dVar 20) (dCons (dVar 18) dNil))))) dNil))))))
def q_19 : FS := (dAsgO 13 (dCat (dVar 13) (dFrz (dLst (dCons (dCall F_L_due (dCons (dFrz (dLst (dCons (dVar 11) (dCons (dTup (dCons (dC (.str "lot")) (dCons (dVar 7) dNil))) dNil)))) dNil)) (dCons (dCall F_L_due (dCons (dFrz (dLst (dCons (dVar 11) (dCons (dTup (dCons (dC (.str "row")) (dCons (dVar 9) dNil))) (dCons (dTup (dCons (dC (.str "row")) (dCons (dVar 4) dNil))) dNil))))) dNil)) dNil))))))
def q_20 : FS := (dAsgO 12 (dCat (dVar 12) (dFrz (dLst (dCons (dMet 2 sub cl_L_met "fine" (dCall F_is_row (dCons (dVar 21) (dCons (dVar 18) dNil)))) (dCons (dMet 2 sub cl_L_met "fine" (dCall F_is_lot (dCons (dVar 21) (dCons (dVar 16) dNil)))) dNil))))))
def q_21 : FS := (dAsgO 13 (dCat (dVar 13) (dFrz (dRepF (dLst (dCons (dCall F_L_due (dCons (dFrz (dLst (dCons (dVar 11) dNil))) dNil)) dNil)) (dC (.int (2)))))))
def q_22 : FS := (dFrzS 12 (dDrop (dM "list" gAppend (dVar 12) (dCons (dMet 2 sub cl_L_met "fine" (dCall F_is_span_paper (dCons (dVar 21) (dCons (dVar 20) (dCons (dVar 18) (dCons (dC .non) dNil)))))) dNil))))
def q_23 : FS := (dFrzS 13 (dDrop (dM "list" gAppend (dVar 13) (dCons (dCall F_L_due (dCons (dFrz (dLst (dCons (dVar 11) (dCons (dTup (dCons (dC (.str "row")) (dCons (dVar 9) dNil))) (dCons (dTup (dCons (dC (.str "row")) (dCons (dVar 4) dNil))) dNil))))) dNil)) dNil))))
def q_24 : FS := (dRet (dOp eqS (dVar 12) (dVar 13)))
theorem right_parts : b_L_right = (dSeq q_0 (dSeq q_1 (dSeq q_2 (dSeq q_3 (dSeq q_4 (dSeq q_5 (dSeq q_6 (dSeq q_7 (dSeq q_8 (dSeq q_9 (dSeq q_10 (dSeq q_11 (dSeq q_12 (dSeq q_13 (dSeq q_14 (dSeq q_15 (dSeq q_16 (dSeq q_17 (dSeq q_18 (dSeq q_19 (dSeq q_20 (dSeq q_21 (dSeq q_22 (dSeq q_23 q_24)))))))))))))))))))))))) := rfl
abbrev Sr (n : Nat) (a1 a2 a3 a4 a5 a6 a7 a8 a9 a10 a11 a12 a13 a14 a15 a16 a17 a18 a19 a20 a21 : DL.Slot) (μ : List Cell) : S := ⟨[.val (.ref n), a1, a2, a3, a4, a5, a6, a7, a8, a9, a10, a11, a12, a13, a14, a15, a16, a17, a18, a19, a20, a21], μ⟩
theorem dr_1 {n k r : Nat} {a2 a3 a4 a5 a6 a7 a8 a9 a10 a11 a12 a13 a14 a15 a16 a17 a18 a19 a20 a21 : DL.Slot} {μ : List Cell} (h1 : 1 ≤ r) (h4 : r ≤ 4) (d : Dc k n μ) (hk : k ≤ 90000) : ∃ (v : D) (c : Bool) (μ' : List Cell), Ch (.int (r : Nat)) badW v c ∧ noOwn v = true ∧ Dc (k + 2) n μ' ∧ q_1 (Sr n (.val (.int (r : Nat))) a2 a3 a4 a5 a6 a7 a8 a9 a10 a11 a12 a13 a14 a15 a16 a17 a18 a19 a20 a21 μ) = .nx (Sr n (.val (.int (r : Nat))) (.val (.bl c)) a3 a4 a5 a6 a7 a8 a9 a10 a11 a12 a13 a14 a15 a16 a17 a18 a19 a20 (.val v) μ') := by
  refine draw_ok (a := 21) (b := 2) (right := .int (r : Nat)) (wrong := badW) (s := (Sr n (.val (.int (r : Nat))) a2 a3 a4 a5 a6 a7 a8 a9 a10 a11 a12 a13 a14 a15 a16 a17 a18 a19 a20 a21 μ)) ?_ d hk (by show 1 ≤ 8; decide) (by show 8 ≤ 60; decide) rfl (fun x hx => List.all_eq_true.mp (rfl : (badW).all noOwn = true) x hx) rfl
  · obtain rfl | rfl | rfl | rfl : r = 1 ∨ r = 2 ∨ r = 3 ∨ r = 4 := by omega
    all_goals kernel_rfl
theorem dr_3 {n k r : Nat} {a2 a4 a5 a6 a7 a8 a9 a10 a11 a12 a13 a14 a15 a16 a17 a18 a19 a20 a21 : DL.Slot} {μ : List Cell} (h1 : 1 ≤ r) (h4 : r ≤ 4) (d : Dc k n μ) (hk : k ≤ 90000) : ∃ (v : D) (c : Bool) (μ' : List Cell), Ch (rep r (.int 2)) (badR r) v c ∧ noOwn v = true ∧ Dc (k + 2) n μ' ∧ q_3 (Sr n (.val (.int (r : Nat))) a2 (.val (.lst (badR r))) a4 a5 a6 a7 a8 a9 a10 a11 a12 a13 a14 a15 a16 a17 a18 a19 a20 a21 μ) = .nx (Sr n (.val (.int (r : Nat))) a2 (.val (.lst (badR r))) (.val (.bl c)) a5 a6 a7 a8 a9 a10 a11 a12 a13 a14 a15 a16 a17 (.val v) a19 a20 a21 μ') := by
  refine draw_ok (a := 18) (b := 4) (right := rep r (.int 2)) (wrong := (badR r)) (s := (Sr n (.val (.int (r : Nat))) a2 (.val (.lst (badR r))) a4 a5 a6 a7 a8 a9 a10 a11 a12 a13 a14 a15 a16 a17 a18 a19 a20 a21 μ)) ?_ d hk (by show 1 ≤ 9; decide) (by show 9 ≤ 60; decide) rfl (fun x hx => List.all_eq_true.mp (rfl : ((badR r)).all noOwn = true) x hx) rfl
  · obtain rfl | rfl | rfl | rfl : r = 1 ∨ r = 2 ∨ r = 3 ∨ r = 4 := by omega
    all_goals kernel_rfl
theorem dr_4 {n k r : Nat} {a2 a4 a5 a6 a7 a8 a9 a10 a11 a12 a13 a14 a15 a16 a17 a18 a19 a20 a21 : DL.Slot} {μ : List Cell} (h1 : 1 ≤ r) (h4 : r ≤ 4) (d : Dc k n μ) (hk : k ≤ 90000) : ∃ (v : D) (c : Bool) (μ' : List Cell), Ch (rep r (.int 0)) (badR r) v c ∧ noOwn v = true ∧ Dc (k + 2) n μ' ∧ q_4 (Sr n (.val (.int (r : Nat))) a2 (.val (.lst (badR r))) a4 a5 a6 a7 a8 a9 a10 a11 a12 a13 a14 a15 a16 a17 a18 a19 a20 a21 μ) = .nx (Sr n (.val (.int (r : Nat))) a2 (.val (.lst (badR r))) a4 (.val (.bl c)) a6 a7 a8 a9 a10 a11 a12 a13 a14 a15 a16 a17 a18 (.val v) a20 a21 μ') := by
  refine draw_ok (a := 19) (b := 5) (right := rep r (.int 0)) (wrong := (badR r)) (s := (Sr n (.val (.int (r : Nat))) a2 (.val (.lst (badR r))) a4 a5 a6 a7 a8 a9 a10 a11 a12 a13 a14 a15 a16 a17 a18 a19 a20 a21 μ)) ?_ d hk (by show 1 ≤ 9; decide) (by show 9 ≤ 60; decide) rfl (fun x hx => List.all_eq_true.mp (rfl : ((badR r)).all noOwn = true) x hx) rfl
  · obtain rfl | rfl | rfl | rfl : r = 1 ∨ r = 2 ∨ r = 3 ∨ r = 4 := by omega
    all_goals kernel_rfl
theorem dr_6 {n k r : Nat} {a2 a3 a4 a5 a7 a8 a9 a10 a11 a12 a13 a14 a15 a16 a17 a18 a19 a20 a21 : DL.Slot} {μ : List Cell} (h1 : 1 ≤ r) (h4 : r ≤ 4) (d : Dc k n μ) (hk : k ≤ 90000) : ∃ (v : D) (c : Bool) (μ' : List Cell), Ch (.tup [rep r (.int 1)]) (badL r) v c ∧ noOwn v = true ∧ Dc (k + 2) n μ' ∧ q_6 (Sr n (.val (.int (r : Nat))) a2 a3 a4 a5 (.val (.lst (badL r))) a7 a8 a9 a10 a11 a12 a13 a14 a15 a16 a17 a18 a19 a20 a21 μ) = .nx (Sr n (.val (.int (r : Nat))) a2 a3 a4 a5 (.val (.lst (badL r))) (.val (.bl c)) a8 a9 a10 a11 a12 a13 a14 a15 (.val v) a17 a18 a19 a20 a21 μ') := by
  refine draw_ok (a := 16) (b := 7) (right := .tup [rep r (.int 1)]) (wrong := (badL r)) (s := (Sr n (.val (.int (r : Nat))) a2 a3 a4 a5 (.val (.lst (badL r))) a7 a8 a9 a10 a11 a12 a13 a14 a15 a16 a17 a18 a19 a20 a21 μ)) ?_ d hk (by show 1 ≤ 8; decide) (by show 8 ≤ 60; decide) rfl (fun x hx => List.all_eq_true.mp (rfl : ((badL r)).all noOwn = true) x hx) rfl
  · obtain rfl | rfl | rfl | rfl : r = 1 ∨ r = 2 ∨ r = 3 ∨ r = 4 := by omega
    all_goals kernel_rfl
theorem dr_7 {n k r : Nat} {a2 a3 a4 a5 a7 a8 a9 a10 a11 a12 a13 a14 a15 a16 a17 a18 a19 a20 a21 : DL.Slot} {μ : List Cell} (h1 : 1 ≤ r) (h4 : r ≤ 4) (d : Dc k n μ) (hk : k ≤ 90000) : ∃ (v : D) (c : Bool) (μ' : List Cell), Ch (.tup []) (badL r) v c ∧ noOwn v = true ∧ Dc (k + 2) n μ' ∧ q_7 (Sr n (.val (.int (r : Nat))) a2 a3 a4 a5 (.val (.lst (badL r))) a7 a8 a9 a10 a11 a12 a13 a14 a15 a16 a17 a18 a19 a20 a21 μ) = .nx (Sr n (.val (.int (r : Nat))) a2 a3 a4 a5 (.val (.lst (badL r))) a7 (.val (.bl c)) a9 a10 a11 a12 a13 a14 a15 a16 (.val v) a18 a19 a20 a21 μ') := by
  refine draw_ok (a := 17) (b := 8) (right := .tup []) (wrong := (badL r)) (s := (Sr n (.val (.int (r : Nat))) a2 a3 a4 a5 (.val (.lst (badL r))) a7 a8 a9 a10 a11 a12 a13 a14 a15 a16 a17 a18 a19 a20 a21 μ)) ?_ d hk (by show 1 ≤ 8; decide) (by show 8 ≤ 60; decide) rfl (fun x hx => List.all_eq_true.mp (rfl : ((badL r)).all noOwn = true) x hx) rfl
  · obtain rfl | rfl | rfl | rfl : r = 1 ∨ r = 2 ∨ r = 3 ∨ r = 4 := by omega
    all_goals kernel_rfl
theorem dr_8 {n k r : Nat} {a2 a3 a4 a5 a6 a7 a8 a9 a10 a11 a12 a13 a14 a15 a16 a17 a18 a19 a20 a21 : DL.Slot} {μ : List Cell} (h1 : 1 ≤ r) (h4 : r ≤ 4) (d : Dc k n μ) (hk : k ≤ 90000) : ∃ (v : D) (c : Bool) (μ' : List Cell), Ch (.tup [rep r (.int 3)]) (badM r) v c ∧ noOwn v = true ∧ Dc (k + 2) n μ' ∧ q_8 (Sr n (.val (.int (r : Nat))) a2 a3 a4 a5 a6 a7 a8 a9 a10 a11 a12 a13 a14 a15 a16 a17 a18 a19 a20 a21 μ) = .nx (Sr n (.val (.int (r : Nat))) a2 a3 a4 a5 a6 a7 a8 (.val (.bl c)) a10 a11 a12 a13 a14 a15 a16 a17 a18 a19 (.val v) a21 μ') := by
  refine draw_ok (a := 20) (b := 9) (right := .tup [rep r (.int 3)]) (wrong := (badM r)) (s := (Sr n (.val (.int (r : Nat))) a2 a3 a4 a5 a6 a7 a8 a9 a10 a11 a12 a13 a14 a15 a16 a17 a18 a19 a20 a21 μ)) ?_ d hk (by show 1 ≤ 6; decide) (by show 6 ≤ 60; decide) rfl (fun x hx => List.all_eq_true.mp (rfl : ((badM r)).all noOwn = true) x hx) rfl
  · obtain rfl | rfl | rfl | rfl : r = 1 ∨ r = 2 ∨ r = 3 ∨ r = 4 := by omega
    all_goals kernel_rfl
theorem dr_9 {n k r : Nat} {a2 a3 a4 a5 a6 a7 a8 a9 a10 a11 a12 a13 a14 a15 a16 a17 a18 a19 a20 a21 : DL.Slot} {μ : List Cell} (h1 : 1 ≤ r) (h4 : r ≤ 4) (d : Dc k n μ) (hk : k ≤ 90000) : ∃ (v : D) (c : Bool) (μ' : List Cell), Ch (.int (-4)) badB v c ∧ noOwn v = true ∧ Dc (k + 2) n μ' ∧ q_9 (Sr n (.val (.int (r : Nat))) a2 a3 a4 a5 a6 a7 a8 a9 a10 a11 a12 a13 a14 a15 a16 a17 a18 a19 a20 a21 μ) = .nx (Sr n (.val (.int (r : Nat))) a2 a3 a4 a5 a6 a7 a8 a9 (.val (.bl c)) a11 a12 a13 (.val v) a15 a16 a17 a18 a19 a20 a21 μ') := by
  refine draw_ok (a := 14) (b := 10) (right := .int (-4)) (wrong := badB) (s := (Sr n (.val (.int (r : Nat))) a2 a3 a4 a5 a6 a7 a8 a9 a10 a11 a12 a13 a14 a15 a16 a17 a18 a19 a20 a21 μ)) ?_ d hk (by show 1 ≤ 5; decide) (by show 5 ≤ 60; decide) rfl (fun x hx => List.all_eq_true.mp (rfl : (badB).all noOwn = true) x hx) rfl
  · obtain rfl | rfl | rfl | rfl : r = 1 ∨ r = 2 ∨ r = 3 ∨ r = 4 := by omega
    all_goals kernel_rfl
theorem as_2 {n r : Nat} {a2 a3 a4 a5 a6 a7 a8 a9 a10 a11 a12 a13 a14 a15 a16 a17 a18 a19 a20 a21 : DL.Slot} {μ : List Cell} (h1 : 1 ≤ r) (h4 : r ≤ 4) : q_2 (Sr n (.val (.int (r : Nat))) a2 a3 a4 a5 a6 a7 a8 a9 a10 a11 a12 a13 a14 a15 a16 a17 a18 a19 a20 a21 μ) = .nx (Sr n (.val (.int (r : Nat))) a2 (.val (.lst (badR r))) a4 a5 a6 a7 a8 a9 a10 a11 a12 a13 a14 a15 a16 a17 a18 a19 a20 a21 μ) := by
  · obtain rfl | rfl | rfl | rfl : r = 1 ∨ r = 2 ∨ r = 3 ∨ r = 4 := by omega
    all_goals kernel_rfl
theorem as_5 {n r : Nat} {a2 a3 a4 a5 a6 a7 a8 a9 a10 a11 a12 a13 a14 a15 a16 a17 a18 a19 a20 a21 : DL.Slot} {μ : List Cell} (h1 : 1 ≤ r) (h4 : r ≤ 4) : q_5 (Sr n (.val (.int (r : Nat))) a2 a3 a4 a5 a6 a7 a8 a9 a10 a11 a12 a13 a14 a15 a16 a17 a18 a19 a20 a21 μ) = .nx (Sr n (.val (.int (r : Nat))) a2 a3 a4 a5 (.val (.lst (badL r))) a7 a8 a9 a10 a11 a12 a13 a14 a15 a16 a17 a18 a19 a20 a21 μ) := by
  · obtain rfl | rfl | rfl | rfl : r = 1 ∨ r = 2 ∨ r = 3 ∨ r = 4 := by omega
    all_goals kernel_rfl
def wl : List D := [.int 1, .int 2, .int 3, .int 4] ++ badW
theorem q10_all {n : Nat} {b : Bool} {a1 a3 a4 a5 a6 a7 a8 a9 a10 a11 a12 a13 a14 a15 a16 a17 a18 a19 a20 : DL.Slot} {μ : List Cell} : wl.map (fun w => q_10 (Sr n a1 (.val (.bl b)) a3 a4 a5 a6 a7 a8 a9 a10 a11 a12 a13 a14 a15 a16 a17 a18 a19 a20 (.val w) μ)) = wl.map (fun w => .nx (Sr n a1 (.val (.bl b)) a3 a4 a5 a6 a7 a8 a9 a10 (.val (pr (cw w) b)) a12 a13 a14 a15 a16 a17 a18 a19 a20 (.val w) μ)) := by kernel_rfl
theorem str_all : wl.all (fun w => PyData.strOk (cw w)) = true := by kernel_rfl
theorem wl_of {r : Nat} {w : D} {b : Bool} (h1 : 1 ≤ r) (h4 : r ≤ 4) (hw : Ch (.int (r : Nat)) badW w b) : w ∈ wl := by
  rcases hw with ⟨_, rfl⟩ | ⟨_, hm⟩
  · obtain rfl | rfl | rfl | rfl : r = 1 ∨ r = 2 ∨ r = 3 ∨ r = 4 := by omega
    all_goals simp [wl]
  · exact List.mem_append_right _ hm
theorem as_10 {n r : Nat} {w : D} {b : Bool} {a1 a3 a4 a5 a6 a7 a8 a9 a10 a11 a12 a13 a14 a15 a16 a17 a18 a19 a20 : DL.Slot} {μ : List Cell} (h1 : 1 ≤ r) (h4 : r ≤ 4) (hw : Ch (.int (r : Nat)) badW w b) : q_10 (Sr n a1 (.val (.bl b)) a3 a4 a5 a6 a7 a8 a9 a10 a11 a12 a13 a14 a15 a16 a17 a18 a19 a20 (.val w) μ) = .nx (Sr n a1 (.val (.bl b)) a3 a4 a5 a6 a7 a8 a9 a10 (.val (pr (cw w) b)) a12 a13 a14 a15 a16 a17 a18 a19 a20 (.val w) μ) :=
  List.map_inj_left.mp q10_all w (wl_of h1 h4 hw)
theorem fstW_ok : ∀ {l : List (Str × Bool)}, l.all (fun p => PyData.strOk p.1) = true → PyData.strOk (fstW l) = true
  | [], _ => by decide +kernel
  | (x, b) :: l, h => by
    rw [List.all_cons, Bool.and_eq_true] at h
    cases b with
    | true => exact h.1
    | false => exact fstW_ok (l := l) h.2
theorem ok_row : PyData.strOk "row" = true := by decide +kernel
theorem ok_lot : PyData.strOk "lot" = true := by decide +kernel
theorem ok_op : PyData.strOk "operation" = true := by decide +kernel
abbrev Sz (n r : Nat) (n0 n1 n2 n3 n4 n5 n6 : Bool) (by_ lot more one other rows w : D) (a12 a13 a15 : DL.Slot) (μ : List Cell) : S := Sr n (.val (.int (r : Nat))) (.val (.bl n0)) (.val (.lst (badR r))) (.val (.bl n1)) (.val (.bl n2)) (.val (.lst (badL r))) (.val (.bl n3)) (.val (.bl n4)) (.val (.bl n5)) (.val (.bl n6)) (.val (pr (cw w) n0)) a12 a13 (.val by_) a15 (.val lot) (.val more) (.val one) (.val other) (.val rows) (.val w) μ
theorem m_0 {n r : Nat} {n0 n1 n2 n3 n4 n5 n6 : Bool} {by_ lot more one other rows w : D} {μ : List Cell} {a12 a13 a15 : DL.Slot} (h1 : 1 ≤ r) (h4 : r ≤ 4) (hw : Ch (.int (r : Nat)) badW w n0) (hone : Ch (rep r (.int 2)) (badR r) one n1) (hother : Ch (rep r (.int 0)) (badR r) other n2) (hlot : Ch (.tup [rep r (.int 1)]) (badL r) lot n3) (hmore : Ch (.tup []) (badL r) more n4) (hrows : Ch (.tup [rep r (.int 3)]) (badM r) rows n5) (hby : Ch (.int (-4)) badB by_ n6)
    (kw : noOwn w = true) (kone : noOwn one = true) (kother : noOwn other = true) (klot : noOwn lot = true) (kmore : noOwn more = true) (krows : noOwn rows = true) (kby : noOwn by_ = true) (an : AN n μ) : (dMet 2 sub cl_L_met "fine" (dCall F_row_plus (dCons (dVar 21) (dCons (dVar 18) (dCons (dVar 19) dNil))))) (Sz n r n0 n1 n2 n3 n4 n5 n6 by_ lot more one other rows w a12 a13 a15 μ) = .ok (.str (fstW [(cw w, n0), ("row", n1), ("row", n2)])) (Sz n r n0 n1 n2 n3 n4 n5 n6 by_ lot more one other rows w a12 a13 a15 μ) :=
  met_ok (ds := [w, one, other]) an.2.1 rfl (by simp only [List.all_cons, List.all_nil, kw, kone, kother, Bool.and_self, (show noOwn D.non = true from rfl)]) (row_plus_out h1 h4 hw hone hother μ) (wd_w hw (wd_R (wd_R wd_nil)))
theorem u_0 {n r : Nat} {n0 n1 n2 n3 n4 n5 n6 : Bool} {by_ lot more one other rows w : D} {μ : List Cell} {a12 a13 a15 : DL.Slot} : (dCall F_L_due (dCons (dFrz (dLst (dCons (dVar 11) (dCons (dTup (dCons (dC (.str "row")) (dCons (dVar 4) dNil))) (dCons (dTup (dCons (dC (.str "row")) (dCons (dVar 5) dNil))) dNil))))) dNil)) (Sz n r n0 n1 n2 n3 n4 n5 n6 by_ lot more one other rows w a12 a13 a15 μ) = .ok (.str (fstW [(cw w, n0), ("row", n1), ("row", n2)])) (Sz n r n0 n1 n2 n3 n4 n5 n6 by_ lot more one other rows w a12 a13 a15 μ) :=
  call_ok (ds := [.lst [pr (cw w) n0, pr "row" n1, pr "row" n2]]) (by kernel_rfl) rfl (due3 (cw w) "row" "row" n0 n1 n2 μ)
theorem m_1 {n r : Nat} {n0 n1 n2 n3 n4 n5 n6 : Bool} {by_ lot more one other rows w : D} {μ : List Cell} {a12 a13 a15 : DL.Slot} (h1 : 1 ≤ r) (h4 : r ≤ 4) (hw : Ch (.int (r : Nat)) badW w n0) (hone : Ch (rep r (.int 2)) (badR r) one n1) (hother : Ch (rep r (.int 0)) (badR r) other n2) (hlot : Ch (.tup [rep r (.int 1)]) (badL r) lot n3) (hmore : Ch (.tup []) (badL r) more n4) (hrows : Ch (.tup [rep r (.int 3)]) (badM r) rows n5) (hby : Ch (.int (-4)) badB by_ n6)
    (kw : noOwn w = true) (kone : noOwn one = true) (kother : noOwn other = true) (klot : noOwn lot = true) (kmore : noOwn more = true) (krows : noOwn rows = true) (kby : noOwn by_ = true) (an : AN n μ) : (dMet 2 sub cl_L_met "fine" (dCall F_row_times (dCons (dVar 21) (dCons (dVar 14) (dCons (dVar 18) dNil))))) (Sz n r n0 n1 n2 n3 n4 n5 n6 by_ lot more one other rows w a12 a13 a15 μ) = .ok (.str (fstW [(cw w, n0), ("operation", n6), ("row", n1)])) (Sz n r n0 n1 n2 n3 n4 n5 n6 by_ lot more one other rows w a12 a13 a15 μ) :=
  met_ok (ds := [w, by_, one]) an.2.1 rfl (by simp only [List.all_cons, List.all_nil, kw, kby, kone, Bool.and_self, (show noOwn D.non = true from rfl)]) (row_times_out h1 h4 hw hby hone μ) (wd_w hw (wd_O (wd_R wd_nil)))
theorem u_1 {n r : Nat} {n0 n1 n2 n3 n4 n5 n6 : Bool} {by_ lot more one other rows w : D} {μ : List Cell} {a12 a13 a15 : DL.Slot} : (dCall F_L_due (dCons (dFrz (dLst (dCons (dVar 11) (dCons (dTup (dCons (dC (.str "operation")) (dCons (dVar 10) dNil))) (dCons (dTup (dCons (dC (.str "row")) (dCons (dVar 4) dNil))) dNil))))) dNil)) (Sz n r n0 n1 n2 n3 n4 n5 n6 by_ lot more one other rows w a12 a13 a15 μ) = .ok (.str (fstW [(cw w, n0), ("operation", n6), ("row", n1)])) (Sz n r n0 n1 n2 n3 n4 n5 n6 by_ lot more one other rows w a12 a13 a15 μ) :=
  call_ok (ds := [.lst [pr (cw w) n0, pr "operation" n6, pr "row" n1]]) (by kernel_rfl) rfl (due3 (cw w) "operation" "row" n0 n6 n1 μ)
theorem m_2 {n r : Nat} {n0 n1 n2 n3 n4 n5 n6 : Bool} {by_ lot more one other rows w : D} {μ : List Cell} {a12 a13 a15 : DL.Slot} (h1 : 1 ≤ r) (h4 : r ≤ 4) (hw : Ch (.int (r : Nat)) badW w n0) (hone : Ch (rep r (.int 2)) (badR r) one n1) (hother : Ch (rep r (.int 0)) (badR r) other n2) (hlot : Ch (.tup [rep r (.int 1)]) (badL r) lot n3) (hmore : Ch (.tup []) (badL r) more n4) (hrows : Ch (.tup [rep r (.int 3)]) (badM r) rows n5) (hby : Ch (.int (-4)) badB by_ n6)
    (kw : noOwn w = true) (kone : noOwn one = true) (kother : noOwn other = true) (klot : noOwn lot = true) (kmore : noOwn more = true) (krows : noOwn rows = true) (kby : noOwn by_ = true) (an : AN n μ) : (dMet 2 sub cl_L_met "fine" (dCall F_product (dCons (dVar 21) (dCons (dVar 18) (dCons (dVar 19) dNil))))) (Sz n r n0 n1 n2 n3 n4 n5 n6 by_ lot more one other rows w a12 a13 a15 μ) = .ok (.str (fstW [(cw w, n0), ("row", n1), ("row", n2)])) (Sz n r n0 n1 n2 n3 n4 n5 n6 by_ lot more one other rows w a12 a13 a15 μ) :=
  met_ok (ds := [w, one, other]) an.2.1 rfl (by simp only [List.all_cons, List.all_nil, kw, kone, kother, Bool.and_self, (show noOwn D.non = true from rfl)]) (product_out h1 h4 hw hone hother μ) (wd_w hw (wd_R (wd_R wd_nil)))
theorem u_2 {n r : Nat} {n0 n1 n2 n3 n4 n5 n6 : Bool} {by_ lot more one other rows w : D} {μ : List Cell} {a12 a13 a15 : DL.Slot} : (dCall F_L_due (dCons (dFrz (dLst (dCons (dVar 11) (dCons (dTup (dCons (dC (.str "row")) (dCons (dVar 4) dNil))) (dCons (dTup (dCons (dC (.str "row")) (dCons (dVar 5) dNil))) dNil))))) dNil)) (Sz n r n0 n1 n2 n3 n4 n5 n6 by_ lot more one other rows w a12 a13 a15 μ) = .ok (.str (fstW [(cw w, n0), ("row", n1), ("row", n2)])) (Sz n r n0 n1 n2 n3 n4 n5 n6 by_ lot more one other rows w a12 a13 a15 μ) :=
  call_ok (ds := [.lst [pr (cw w) n0, pr "row" n1, pr "row" n2]]) (by kernel_rfl) rfl (due3 (cw w) "row" "row" n0 n1 n2 μ)
theorem m_3 {n r : Nat} {n0 n1 n2 n3 n4 n5 n6 : Bool} {by_ lot more one other rows w : D} {μ : List Cell} {a12 a13 a15 : DL.Slot} (h1 : 1 ≤ r) (h4 : r ≤ 4) (hw : Ch (.int (r : Nat)) badW w n0) (hone : Ch (rep r (.int 2)) (badR r) one n1) (hother : Ch (rep r (.int 0)) (badR r) other n2) (hlot : Ch (.tup [rep r (.int 1)]) (badL r) lot n3) (hmore : Ch (.tup []) (badL r) more n4) (hrows : Ch (.tup [rep r (.int 3)]) (badM r) rows n5) (hby : Ch (.int (-4)) badB by_ n6)
    (kw : noOwn w = true) (kone : noOwn one = true) (kother : noOwn other = true) (klot : noOwn lot = true) (kmore : noOwn more = true) (krows : noOwn rows = true) (kby : noOwn by_ = true) (an : AN n μ) : (dMet 2 sub cl_L_met "fine" (dCall F_lowest (dCons (dVar 21) (dCons (dVar 18) dNil)))) (Sz n r n0 n1 n2 n3 n4 n5 n6 by_ lot more one other rows w a12 a13 a15 μ) = .ok (.str (fstW [(cw w, n0), ("row", n1)])) (Sz n r n0 n1 n2 n3 n4 n5 n6 by_ lot more one other rows w a12 a13 a15 μ) :=
  met_ok (ds := [w, one]) an.2.1 rfl (by simp only [List.all_cons, List.all_nil, kw, kone, Bool.and_self, (show noOwn D.non = true from rfl)]) (lowest_out h1 h4 hw hone μ) (wd_w hw (wd_R wd_nil))
theorem u_3 {n r : Nat} {n0 n1 n2 n3 n4 n5 n6 : Bool} {by_ lot more one other rows w : D} {μ : List Cell} {a12 a13 a15 : DL.Slot} : (dCall F_L_due (dCons (dFrz (dLst (dCons (dVar 11) (dCons (dTup (dCons (dC (.str "row")) (dCons (dVar 4) dNil))) dNil)))) dNil)) (Sz n r n0 n1 n2 n3 n4 n5 n6 by_ lot more one other rows w a12 a13 a15 μ) = .ok (.str (fstW [(cw w, n0), ("row", n1)])) (Sz n r n0 n1 n2 n3 n4 n5 n6 by_ lot more one other rows w a12 a13 a15 μ) :=
  call_ok (ds := [.lst [pr (cw w) n0, pr "row" n1]]) (by kernel_rfl) rfl (due2 (cw w) "row" n0 n1 μ)
theorem m_4 {n r : Nat} {n0 n1 n2 n3 n4 n5 n6 : Bool} {by_ lot more one other rows w : D} {μ : List Cell} {a12 a13 a15 : DL.Slot} (h1 : 1 ≤ r) (h4 : r ≤ 4) (hw : Ch (.int (r : Nat)) badW w n0) (hone : Ch (rep r (.int 2)) (badR r) one n1) (hother : Ch (rep r (.int 0)) (badR r) other n2) (hlot : Ch (.tup [rep r (.int 1)]) (badL r) lot n3) (hmore : Ch (.tup []) (badL r) more n4) (hrows : Ch (.tup [rep r (.int 3)]) (badM r) rows n5) (hby : Ch (.int (-4)) badB by_ n6)
    (kw : noOwn w = true) (kone : noOwn one = true) (kother : noOwn other = true) (klot : noOwn lot = true) (kmore : noOwn more = true) (krows : noOwn rows = true) (kby : noOwn by_ = true) (an : AN n μ) : (dMet 2 sub cl_L_met "fine" (dCall F_lot_of (dCons (dVar 21) (dCons (dVar 20) dNil)))) (Sz n r n0 n1 n2 n3 n4 n5 n6 by_ lot more one other rows w a12 a13 a15 μ) = .ok (.str (fstW [(cw w, n0), ("row", n5)])) (Sz n r n0 n1 n2 n3 n4 n5 n6 by_ lot more one other rows w a12 a13 a15 μ) :=
  met_ok (ds := [w, rows]) an.2.1 rfl (by simp only [List.all_cons, List.all_nil, kw, krows, Bool.and_self, (show noOwn D.non = true from rfl)]) (lot_of_out h1 h4 hw hrows μ) (wd_w hw (wd_R wd_nil))
theorem u_4 {n r : Nat} {n0 n1 n2 n3 n4 n5 n6 : Bool} {by_ lot more one other rows w : D} {μ : List Cell} {a12 a13 a15 : DL.Slot} : (dCall F_L_due (dCons (dFrz (dLst (dCons (dVar 11) (dCons (dTup (dCons (dC (.str "row")) (dCons (dVar 9) dNil))) dNil)))) dNil)) (Sz n r n0 n1 n2 n3 n4 n5 n6 by_ lot more one other rows w a12 a13 a15 μ) = .ok (.str (fstW [(cw w, n0), ("row", n5)])) (Sz n r n0 n1 n2 n3 n4 n5 n6 by_ lot more one other rows w a12 a13 a15 μ) :=
  call_ok (ds := [.lst [pr (cw w) n0, pr "row" n5]]) (by kernel_rfl) rfl (due2 (cw w) "row" n0 n5 μ)
theorem m_5 {n r : Nat} {n0 n1 n2 n3 n4 n5 n6 : Bool} {by_ lot more one other rows w : D} {μ : List Cell} {a12 a13 a15 : DL.Slot} (h1 : 1 ≤ r) (h4 : r ≤ 4) (hw : Ch (.int (r : Nat)) badW w n0) (hone : Ch (rep r (.int 2)) (badR r) one n1) (hother : Ch (rep r (.int 0)) (badR r) other n2) (hlot : Ch (.tup [rep r (.int 1)]) (badL r) lot n3) (hmore : Ch (.tup []) (badL r) more n4) (hrows : Ch (.tup [rep r (.int 3)]) (badM r) rows n5) (hby : Ch (.int (-4)) badB by_ n6)
    (kw : noOwn w = true) (kone : noOwn one = true) (kother : noOwn other = true) (klot : noOwn lot = true) (kmore : noOwn more = true) (krows : noOwn rows = true) (kby : noOwn by_ = true) (an : AN n μ) : (dMet 2 sub cl_L_met "fine" (dCall F_holds (dCons (dVar 21) (dCons (dVar 16) (dCons (dVar 18) dNil))))) (Sz n r n0 n1 n2 n3 n4 n5 n6 by_ lot more one other rows w a12 a13 a15 μ) = .ok (.str (fstW [(cw w, n0), ("lot", n3), ("row", n1)])) (Sz n r n0 n1 n2 n3 n4 n5 n6 by_ lot more one other rows w a12 a13 a15 μ) :=
  met_ok (ds := [w, lot, one]) an.2.1 rfl (by simp only [List.all_cons, List.all_nil, kw, klot, kone, Bool.and_self, (show noOwn D.non = true from rfl)]) (holds_out h1 h4 hw hlot hone μ) (wd_w hw (wd_L (wd_R wd_nil)))
theorem u_5 {n r : Nat} {n0 n1 n2 n3 n4 n5 n6 : Bool} {by_ lot more one other rows w : D} {μ : List Cell} {a12 a13 a15 : DL.Slot} : (dCall F_L_due (dCons (dFrz (dLst (dCons (dVar 11) (dCons (dTup (dCons (dC (.str "lot")) (dCons (dVar 7) dNil))) (dCons (dTup (dCons (dC (.str "row")) (dCons (dVar 4) dNil))) dNil))))) dNil)) (Sz n r n0 n1 n2 n3 n4 n5 n6 by_ lot more one other rows w a12 a13 a15 μ) = .ok (.str (fstW [(cw w, n0), ("lot", n3), ("row", n1)])) (Sz n r n0 n1 n2 n3 n4 n5 n6 by_ lot more one other rows w a12 a13 a15 μ) :=
  call_ok (ds := [.lst [pr (cw w) n0, pr "lot" n3, pr "row" n1]]) (by kernel_rfl) rfl (due3 (cw w) "lot" "row" n0 n3 n1 μ)
theorem m_6 {n r : Nat} {n0 n1 n2 n3 n4 n5 n6 : Bool} {by_ lot more one other rows w : D} {μ : List Cell} {a12 a13 : DL.Slot} (h1 : 1 ≤ r) (h4 : r ≤ 4) (hw : Ch (.int (r : Nat)) badW w n0) (hone : Ch (rep r (.int 2)) (badR r) one n1) (hother : Ch (rep r (.int 0)) (badR r) other n2) (hlot : Ch (.tup [rep r (.int 1)]) (badL r) lot n3) (hmore : Ch (.tup []) (badL r) more n4) (hrows : Ch (.tup [rep r (.int 3)]) (badM r) rows n5) (hby : Ch (.int (-4)) badB by_ n6)
    (kw : noOwn w = true) (kone : noOwn one = true) (kother : noOwn other = true) (klot : noOwn lot = true) (kmore : noOwn more = true) (krows : noOwn rows = true) (kby : noOwn by_ = true) (an : AN n μ) : (dMet 2 sub cl_L_met "fine" (dCallV 15 [("joined_lots", F_joined_lots), ("met_lots", F_met_lots)] (dCons (dVar 21) (dCons (dVar 16) (dCons (dVar 17) dNil))))) (Sz n r n0 n1 n2 n3 n4 n5 n6 by_ lot more one other rows w a12 a13 (.val (.fn "joined_lots")) μ) = .ok (.str (fstW [(cw w, n0), ("lot", n3), ("lot", n4)])) (Sz n r n0 n1 n2 n3 n4 n5 n6 by_ lot more one other rows w a12 a13 (.val (.fn "joined_lots")) μ) :=
  metV_ok (f := "joined_lots") (F := F_joined_lots) (ds := [w, lot, more]) rfl rfl an.2.1 rfl (by simp only [List.all_cons, List.all_nil, kw, klot, kmore, Bool.and_self, (show noOwn D.non = true from rfl)]) (joined_lots_out h1 h4 hw hlot hmore μ) (wd_w hw (wd_L (wd_L wd_nil)))
theorem u_6 {n r : Nat} {n0 n1 n2 n3 n4 n5 n6 : Bool} {by_ lot more one other rows w : D} {μ : List Cell} {a12 a13 a15 : DL.Slot} : (dCall F_L_due (dCons (dFrz (dLst (dCons (dVar 11) (dCons (dTup (dCons (dC (.str "lot")) (dCons (dVar 7) dNil))) (dCons (dTup (dCons (dC (.str "lot")) (dCons (dVar 8) dNil))) dNil))))) dNil)) (Sz n r n0 n1 n2 n3 n4 n5 n6 by_ lot more one other rows w a12 a13 a15 μ) = .ok (.str (fstW [(cw w, n0), ("lot", n3), ("lot", n4)])) (Sz n r n0 n1 n2 n3 n4 n5 n6 by_ lot more one other rows w a12 a13 a15 μ) :=
  call_ok (ds := [.lst [pr (cw w) n0, pr "lot" n3, pr "lot" n4]]) (by kernel_rfl) rfl (due3 (cw w) "lot" "lot" n0 n3 n4 μ)
theorem m_7 {n r : Nat} {n0 n1 n2 n3 n4 n5 n6 : Bool} {by_ lot more one other rows w : D} {μ : List Cell} {a12 a13 : DL.Slot} (h1 : 1 ≤ r) (h4 : r ≤ 4) (hw : Ch (.int (r : Nat)) badW w n0) (hone : Ch (rep r (.int 2)) (badR r) one n1) (hother : Ch (rep r (.int 0)) (badR r) other n2) (hlot : Ch (.tup [rep r (.int 1)]) (badL r) lot n3) (hmore : Ch (.tup []) (badL r) more n4) (hrows : Ch (.tup [rep r (.int 3)]) (badM r) rows n5) (hby : Ch (.int (-4)) badB by_ n6)
    (kw : noOwn w = true) (kone : noOwn one = true) (kother : noOwn other = true) (klot : noOwn lot = true) (kmore : noOwn more = true) (krows : noOwn rows = true) (kby : noOwn by_ = true) (an : AN n μ) : (dMet 2 sub cl_L_met "fine" (dCallV 15 [("joined_lots", F_joined_lots), ("met_lots", F_met_lots)] (dCons (dVar 21) (dCons (dVar 16) (dCons (dVar 17) dNil))))) (Sz n r n0 n1 n2 n3 n4 n5 n6 by_ lot more one other rows w a12 a13 (.val (.fn "met_lots")) μ) = .ok (.str (fstW [(cw w, n0), ("lot", n3), ("lot", n4)])) (Sz n r n0 n1 n2 n3 n4 n5 n6 by_ lot more one other rows w a12 a13 (.val (.fn "met_lots")) μ) :=
  metV_ok (f := "met_lots") (F := F_met_lots) (ds := [w, lot, more]) rfl rfl an.2.1 rfl (by simp only [List.all_cons, List.all_nil, kw, klot, kmore, Bool.and_self, (show noOwn D.non = true from rfl)]) (met_lots_out h1 h4 hw hlot hmore μ) (wd_w hw (wd_L (wd_L wd_nil)))
theorem u_7 {n r : Nat} {n0 n1 n2 n3 n4 n5 n6 : Bool} {by_ lot more one other rows w : D} {μ : List Cell} {a12 a13 a15 : DL.Slot} : (dCall F_L_due (dCons (dFrz (dLst (dCons (dVar 11) (dCons (dTup (dCons (dC (.str "lot")) (dCons (dVar 7) dNil))) (dCons (dTup (dCons (dC (.str "lot")) (dCons (dVar 8) dNil))) dNil))))) dNil)) (Sz n r n0 n1 n2 n3 n4 n5 n6 by_ lot more one other rows w a12 a13 a15 μ) = .ok (.str (fstW [(cw w, n0), ("lot", n3), ("lot", n4)])) (Sz n r n0 n1 n2 n3 n4 n5 n6 by_ lot more one other rows w a12 a13 a15 μ) :=
  call_ok (ds := [.lst [pr (cw w) n0, pr "lot" n3, pr "lot" n4]]) (by kernel_rfl) rfl (due3 (cw w) "lot" "lot" n0 n3 n4 μ)
theorem m_8 {n r : Nat} {n0 n1 n2 n3 n4 n5 n6 : Bool} {by_ lot more one other rows w : D} {μ : List Cell} {a12 a13 a15 : DL.Slot} (h1 : 1 ≤ r) (h4 : r ≤ 4) (hw : Ch (.int (r : Nat)) badW w n0) (hone : Ch (rep r (.int 2)) (badR r) one n1) (hother : Ch (rep r (.int 0)) (badR r) other n2) (hlot : Ch (.tup [rep r (.int 1)]) (badL r) lot n3) (hmore : Ch (.tup []) (badL r) more n4) (hrows : Ch (.tup [rep r (.int 3)]) (badM r) rows n5) (hby : Ch (.int (-4)) badB by_ n6)
    (kw : noOwn w = true) (kone : noOwn one = true) (kother : noOwn other = true) (klot : noOwn lot = true) (kmore : noOwn more = true) (krows : noOwn rows = true) (kby : noOwn by_ = true) (an : AN n μ) : (dMet 2 sub cl_L_met "fine" (dCall F_rows_apart (dCons (dVar 21) (dCons (dVar 16) dNil)))) (Sz n r n0 n1 n2 n3 n4 n5 n6 by_ lot more one other rows w a12 a13 a15 μ) = .ok (.str (fstW [(cw w, n0), ("lot", n3)])) (Sz n r n0 n1 n2 n3 n4 n5 n6 by_ lot more one other rows w a12 a13 a15 μ) :=
  met_ok (ds := [w, lot]) an.2.1 rfl (by simp only [List.all_cons, List.all_nil, kw, klot, Bool.and_self, (show noOwn D.non = true from rfl)]) (rows_apart_out h1 h4 hw hlot μ) (wd_w hw (wd_L wd_nil))
theorem u_8 {n r : Nat} {n0 n1 n2 n3 n4 n5 n6 : Bool} {by_ lot more one other rows w : D} {μ : List Cell} {a12 a13 a15 : DL.Slot} : (dCall F_L_due (dCons (dFrz (dLst (dCons (dVar 11) (dCons (dTup (dCons (dC (.str "lot")) (dCons (dVar 7) dNil))) dNil)))) dNil)) (Sz n r n0 n1 n2 n3 n4 n5 n6 by_ lot more one other rows w a12 a13 a15 μ) = .ok (.str (fstW [(cw w, n0), ("lot", n3)])) (Sz n r n0 n1 n2 n3 n4 n5 n6 by_ lot more one other rows w a12 a13 a15 μ) :=
  call_ok (ds := [.lst [pr (cw w) n0, pr "lot" n3]]) (by kernel_rfl) rfl (due2 (cw w) "lot" n0 n3 μ)
theorem m_9 {n r : Nat} {n0 n1 n2 n3 n4 n5 n6 : Bool} {by_ lot more one other rows w : D} {μ : List Cell} {a12 a13 a15 : DL.Slot} (h1 : 1 ≤ r) (h4 : r ≤ 4) (hw : Ch (.int (r : Nat)) badW w n0) (hone : Ch (rep r (.int 2)) (badR r) one n1) (hother : Ch (rep r (.int 0)) (badR r) other n2) (hlot : Ch (.tup [rep r (.int 1)]) (badL r) lot n3) (hmore : Ch (.tup []) (badL r) more n4) (hrows : Ch (.tup [rep r (.int 3)]) (badM r) rows n5) (hby : Ch (.int (-4)) badB by_ n6)
    (kw : noOwn w = true) (kone : noOwn one = true) (kother : noOwn other = true) (klot : noOwn lot = true) (kmore : noOwn more = true) (krows : noOwn rows = true) (kby : noOwn by_ = true) (an : AN n μ) : (dMet 2 sub cl_L_met "fine" (dCall F_span_paper (dCons (dVar 21) (dCons (dVar 20) (dCons (dVar 18) dNil))))) (Sz n r n0 n1 n2 n3 n4 n5 n6 by_ lot more one other rows w a12 a13 a15 μ) = .ok (.str (fstW [(cw w, n0), ("row", n5), ("row", n1)])) (Sz n r n0 n1 n2 n3 n4 n5 n6 by_ lot more one other rows w a12 a13 a15 μ) :=
  met_ok (ds := [w, rows, one]) an.2.1 rfl (by simp only [List.all_cons, List.all_nil, kw, krows, kone, Bool.and_self, (show noOwn D.non = true from rfl)]) (span_paper_out h1 h4 hw hrows hone μ (fun r a b => span_k a b an.1)) (wd_w hw (wd_R (wd_R wd_nil)))
theorem u_9 {n r : Nat} {n0 n1 n2 n3 n4 n5 n6 : Bool} {by_ lot more one other rows w : D} {μ : List Cell} {a12 a13 a15 : DL.Slot} : (dCall F_L_due (dCons (dFrz (dLst (dCons (dVar 11) (dCons (dTup (dCons (dC (.str "row")) (dCons (dVar 9) dNil))) (dCons (dTup (dCons (dC (.str "row")) (dCons (dVar 4) dNil))) dNil))))) dNil)) (Sz n r n0 n1 n2 n3 n4 n5 n6 by_ lot more one other rows w a12 a13 a15 μ) = .ok (.str (fstW [(cw w, n0), ("row", n5), ("row", n1)])) (Sz n r n0 n1 n2 n3 n4 n5 n6 by_ lot more one other rows w a12 a13 a15 μ) :=
  call_ok (ds := [.lst [pr (cw w) n0, pr "row" n5, pr "row" n1]]) (by kernel_rfl) rfl (due3 (cw w) "row" "row" n0 n5 n1 μ)
theorem m_10 {n r : Nat} {n0 n1 n2 n3 n4 n5 n6 : Bool} {by_ lot more one other rows w : D} {μ : List Cell} {a12 a13 a15 : DL.Slot} (h1 : 1 ≤ r) (h4 : r ≤ 4) (hw : Ch (.int (r : Nat)) badW w n0) (hone : Ch (rep r (.int 2)) (badR r) one n1) (hother : Ch (rep r (.int 0)) (badR r) other n2) (hlot : Ch (.tup [rep r (.int 1)]) (badL r) lot n3) (hmore : Ch (.tup []) (badL r) more n4) (hrows : Ch (.tup [rep r (.int 3)]) (badM r) rows n5) (hby : Ch (.int (-4)) badB by_ n6)
    (kw : noOwn w = true) (kone : noOwn one = true) (kother : noOwn other = true) (klot : noOwn lot = true) (kmore : noOwn more = true) (krows : noOwn rows = true) (kby : noOwn by_ = true) (an : AN n μ) : (dMet 2 sub cl_L_met "fine" (dCall F_is_row (dCons (dVar 21) (dCons (dVar 18) dNil)))) (Sz n r n0 n1 n2 n3 n4 n5 n6 by_ lot more one other rows w a12 a13 a15 μ) = .ok (.str (fstW [(cw w, n0)])) (Sz n r n0 n1 n2 n3 n4 n5 n6 by_ lot more one other rows w a12 a13 a15 μ) :=
  met_ok (ds := [w, one]) an.2.1 rfl (by simp only [List.all_cons, List.all_nil, kw, kone, Bool.and_self, (show noOwn D.non = true from rfl)]) (is_row_out h1 h4 hw hone μ) (wd_w hw wd_nil)
theorem u_10 {n r : Nat} {n0 n1 n2 n3 n4 n5 n6 : Bool} {by_ lot more one other rows w : D} {μ : List Cell} {a12 a13 a15 : DL.Slot} : (dCall F_L_due (dCons (dFrz (dLst (dCons (dVar 11) dNil))) dNil)) (Sz n r n0 n1 n2 n3 n4 n5 n6 by_ lot more one other rows w a12 a13 a15 μ) = .ok (.str (fstW [(cw w, n0)])) (Sz n r n0 n1 n2 n3 n4 n5 n6 by_ lot more one other rows w a12 a13 a15 μ) :=
  call_ok (ds := [.lst [pr (cw w) n0]]) (by kernel_rfl) rfl (due1 (cw w) n0 μ)
theorem m_11 {n r : Nat} {n0 n1 n2 n3 n4 n5 n6 : Bool} {by_ lot more one other rows w : D} {μ : List Cell} {a12 a13 a15 : DL.Slot} (h1 : 1 ≤ r) (h4 : r ≤ 4) (hw : Ch (.int (r : Nat)) badW w n0) (hone : Ch (rep r (.int 2)) (badR r) one n1) (hother : Ch (rep r (.int 0)) (badR r) other n2) (hlot : Ch (.tup [rep r (.int 1)]) (badL r) lot n3) (hmore : Ch (.tup []) (badL r) more n4) (hrows : Ch (.tup [rep r (.int 3)]) (badM r) rows n5) (hby : Ch (.int (-4)) badB by_ n6)
    (kw : noOwn w = true) (kone : noOwn one = true) (kother : noOwn other = true) (klot : noOwn lot = true) (kmore : noOwn more = true) (krows : noOwn rows = true) (kby : noOwn by_ = true) (an : AN n μ) : (dMet 2 sub cl_L_met "fine" (dCall F_is_lot (dCons (dVar 21) (dCons (dVar 16) dNil)))) (Sz n r n0 n1 n2 n3 n4 n5 n6 by_ lot more one other rows w a12 a13 a15 μ) = .ok (.str (fstW [(cw w, n0)])) (Sz n r n0 n1 n2 n3 n4 n5 n6 by_ lot more one other rows w a12 a13 a15 μ) :=
  met_ok (ds := [w, lot]) an.2.1 rfl (by simp only [List.all_cons, List.all_nil, kw, klot, Bool.and_self, (show noOwn D.non = true from rfl)]) (is_lot_out h1 h4 hw hlot μ) (wd_w hw wd_nil)
theorem u_11 {n r : Nat} {n0 n1 n2 n3 n4 n5 n6 : Bool} {by_ lot more one other rows w : D} {μ : List Cell} {a12 a13 a15 : DL.Slot} : (dCall F_L_due (dCons (dFrz (dLst (dCons (dVar 11) dNil))) dNil)) (Sz n r n0 n1 n2 n3 n4 n5 n6 by_ lot more one other rows w a12 a13 a15 μ) = .ok (.str (fstW [(cw w, n0)])) (Sz n r n0 n1 n2 n3 n4 n5 n6 by_ lot more one other rows w a12 a13 a15 μ) :=
  call_ok (ds := [.lst [pr (cw w) n0]]) (by kernel_rfl) rfl (due1 (cw w) n0 μ)
theorem m_12 {n r : Nat} {n0 n1 n2 n3 n4 n5 n6 : Bool} {by_ lot more one other rows w : D} {μ : List Cell} {a12 a13 a15 : DL.Slot} (h1 : 1 ≤ r) (h4 : r ≤ 4) (hw : Ch (.int (r : Nat)) badW w n0) (hone : Ch (rep r (.int 2)) (badR r) one n1) (hother : Ch (rep r (.int 0)) (badR r) other n2) (hlot : Ch (.tup [rep r (.int 1)]) (badL r) lot n3) (hmore : Ch (.tup []) (badL r) more n4) (hrows : Ch (.tup [rep r (.int 3)]) (badM r) rows n5) (hby : Ch (.int (-4)) badB by_ n6)
    (kw : noOwn w = true) (kone : noOwn one = true) (kother : noOwn other = true) (klot : noOwn lot = true) (kmore : noOwn more = true) (krows : noOwn rows = true) (kby : noOwn by_ = true) (an : AN n μ) : (dMet 2 sub cl_L_met "fine" (dCall F_is_span_paper (dCons (dVar 21) (dCons (dVar 20) (dCons (dVar 18) (dCons (dC .non) dNil)))))) (Sz n r n0 n1 n2 n3 n4 n5 n6 by_ lot more one other rows w a12 a13 a15 μ) = .ok (.str (fstW [(cw w, n0), ("row", n5), ("row", n1)])) (Sz n r n0 n1 n2 n3 n4 n5 n6 by_ lot more one other rows w a12 a13 a15 μ) :=
  met_ok (ds := [w, rows, one, .non]) an.2.1 rfl (by simp only [List.all_cons, List.all_nil, kw, krows, kone, Bool.and_self, (show noOwn D.non = true from rfl)]) (is_span_paper_out h1 h4 hw hrows hone μ) (wd_w hw (wd_R (wd_R wd_nil)))
theorem u_12 {n r : Nat} {n0 n1 n2 n3 n4 n5 n6 : Bool} {by_ lot more one other rows w : D} {μ : List Cell} {a12 a13 a15 : DL.Slot} : (dCall F_L_due (dCons (dFrz (dLst (dCons (dVar 11) (dCons (dTup (dCons (dC (.str "row")) (dCons (dVar 9) dNil))) (dCons (dTup (dCons (dC (.str "row")) (dCons (dVar 4) dNil))) dNil))))) dNil)) (Sz n r n0 n1 n2 n3 n4 n5 n6 by_ lot more one other rows w a12 a13 a15 μ) = .ok (.str (fstW [(cw w, n0), ("row", n5), ("row", n1)])) (Sz n r n0 n1 n2 n3 n4 n5 n6 by_ lot more one other rows w a12 a13 a15 μ) :=
  call_ok (ds := [.lst [pr (cw w) n0, pr "row" n5, pr "row" n1]]) (by kernel_rfl) rfl (due3 (cw w) "row" "row" n0 n5 n1 μ)
end K14

namespace K14
open PySem PySem.Spec PyProof.Rows L2 DL
theorem frzS_ok {i : Nat} {f : FS} {s s1 s2 : S} (h : f s = .nx s1) (h2 : frzAt i s1 = some s2) : dFrzS i f s = .nx s2 := by
  unfold dFrzS
  rw [h]
  simp only [h2]
theorem e_11 {n r : Nat} {n0 n1 n2 n3 n4 n5 n6 : Bool} {by_ lot more one other rows w : D} {μ : List Cell} {a12 a13 a15 : DL.Slot} (h1 : 1 ≤ r) (h4 : r ≤ 4) (hw : Ch (.int (r : Nat)) badW w n0) (hone : Ch (rep r (.int 2)) (badR r) one n1) (hother : Ch (rep r (.int 0)) (badR r) other n2) (hlot : Ch (.tup [rep r (.int 1)]) (badL r) lot n3) (hmore : Ch (.tup []) (badL r) more n4) (hrows : Ch (.tup [rep r (.int 3)]) (badM r) rows n5) (hby : Ch (.int (-4)) badB by_ n6)
    (kw : noOwn w = true) (kone : noOwn one = true) (kother : noOwn other = true) (klot : noOwn lot = true) (kmore : noOwn more = true) (krows : noOwn rows = true) (kby : noOwn by_ = true) (an : AN n μ) : q_11 (Sz n r n0 n1 n2 n3 n4 n5 n6 by_ lot more one other rows w a12 a13 a15 μ) = .nx (Sz n r n0 n1 n2 n3 n4 n5 n6 by_ lot more one other rows w (.own (.lst [.str (fstW [(cw w, n0), ("row", n1), ("row", n2)]), .str (fstW [(cw w, n0), ("operation", n6), ("row", n1)])])) a13 a15 μ) :=
  asgO_ok (lst_ok (cons_ok (m_0 h1 h4 hw hone hother hlot hmore hrows hby kw kone kother klot kmore krows kby an) (cons_ok (m_1 h1 h4 hw hone hother hlot hmore hrows hby kw kone kother klot kmore krows kby an) nil_ok)) rfl (by show 2 ≤ 16777216; decide))
theorem e_12 {n r : Nat} {n0 n1 n2 n3 n4 n5 n6 : Bool} {by_ lot more one other rows w : D} {μ : List Cell} {a12 a13 a15 : DL.Slot}  : q_12 (Sz n r n0 n1 n2 n3 n4 n5 n6 by_ lot more one other rows w a12 a13 a15 μ) = .nx (Sz n r n0 n1 n2 n3 n4 n5 n6 by_ lot more one other rows w a12 (.own (.lst [.str (fstW [(cw w, n0), ("row", n1), ("row", n2)]), .str (fstW [(cw w, n0), ("operation", n6), ("row", n1)])])) a15 μ) :=
  asgO_ok (lst_ok (cons_ok u_0 (cons_ok u_1 nil_ok)) rfl (by show 2 ≤ 16777216; decide))
theorem e_13 {n r : Nat} {n0 n1 n2 n3 n4 n5 n6 : Bool} {by_ lot more one other rows w : D} {μ : List Cell} {a13 a15 : DL.Slot} (h1 : 1 ≤ r) (h4 : r ≤ 4) (hw : Ch (.int (r : Nat)) badW w n0) (hone : Ch (rep r (.int 2)) (badR r) one n1) (hother : Ch (rep r (.int 0)) (badR r) other n2) (hlot : Ch (.tup [rep r (.int 1)]) (badL r) lot n3) (hmore : Ch (.tup []) (badL r) more n4) (hrows : Ch (.tup [rep r (.int 3)]) (badM r) rows n5) (hby : Ch (.int (-4)) badB by_ n6)
    (kw : noOwn w = true) (kone : noOwn one = true) (kother : noOwn other = true) (klot : noOwn lot = true) (kmore : noOwn more = true) (krows : noOwn rows = true) (kby : noOwn by_ = true) (an : AN n μ) : q_13 (Sz n r n0 n1 n2 n3 n4 n5 n6 by_ lot more one other rows w (.own (.lst [.str (fstW [(cw w, n0), ("row", n1), ("row", n2)]), .str (fstW [(cw w, n0), ("operation", n6), ("row", n1)])])) a13 a15 μ) = .nx (Sz n r n0 n1 n2 n3 n4 n5 n6 by_ lot more one other rows w (.own (.lst [.str (fstW [(cw w, n0), ("row", n1), ("row", n2)]), .str (fstW [(cw w, n0), ("operation", n6), ("row", n1)]), .str (fstW [(cw w, n0), ("row", n1), ("row", n2)]), .str (fstW [(cw w, n0), ("row", n1)])])) a13 a15 μ) :=
  asgO_ok (cat_ok (x := [.str (fstW [(cw w, n0), ("row", n1), ("row", n2)]), .str (fstW [(cw w, n0), ("operation", n6), ("row", n1)])]) (y := [.str (fstW [(cw w, n0), ("row", n1), ("row", n2)]), .str (fstW [(cw w, n0), ("row", n1)])]) (var_own rfl) (frzE_ok (lst_ok (cons_ok (m_2 h1 h4 hw hone hother hlot hmore hrows hby kw kone kother klot kmore krows kby an) (cons_ok (m_3 h1 h4 hw hone hother hlot hmore hrows hby kw kone kother klot kmore krows kby an) nil_ok)) rfl (by show 2 ≤ 16777216; decide))) (asl_own rfl) rfl (by show 4 ≤ 16777216; decide))
theorem e_14 {n r : Nat} {n0 n1 n2 n3 n4 n5 n6 : Bool} {by_ lot more one other rows w : D} {μ : List Cell} {a12 a15 : DL.Slot}  : q_14 (Sz n r n0 n1 n2 n3 n4 n5 n6 by_ lot more one other rows w a12 (.own (.lst [.str (fstW [(cw w, n0), ("row", n1), ("row", n2)]), .str (fstW [(cw w, n0), ("operation", n6), ("row", n1)])])) a15 μ) = .nx (Sz n r n0 n1 n2 n3 n4 n5 n6 by_ lot more one other rows w a12 (.own (.lst [.str (fstW [(cw w, n0), ("row", n1), ("row", n2)]), .str (fstW [(cw w, n0), ("operation", n6), ("row", n1)]), .str (fstW [(cw w, n0), ("row", n1), ("row", n2)]), .str (fstW [(cw w, n0), ("row", n1)])])) a15 μ) :=
  asgO_ok (cat_ok (x := [.str (fstW [(cw w, n0), ("row", n1), ("row", n2)]), .str (fstW [(cw w, n0), ("operation", n6), ("row", n1)])]) (y := [.str (fstW [(cw w, n0), ("row", n1), ("row", n2)]), .str (fstW [(cw w, n0), ("row", n1)])]) (var_own rfl) (frzE_ok (lst_ok (cons_ok u_2 (cons_ok u_3 nil_ok)) rfl (by show 2 ≤ 16777216; decide))) (asl_own rfl) rfl (by show 4 ≤ 16777216; decide))
theorem e_15 {n r : Nat} {n0 n1 n2 n3 n4 n5 n6 : Bool} {by_ lot more one other rows w : D} {μ : List Cell} {a13 a15 : DL.Slot} (h1 : 1 ≤ r) (h4 : r ≤ 4) (hw : Ch (.int (r : Nat)) badW w n0) (hone : Ch (rep r (.int 2)) (badR r) one n1) (hother : Ch (rep r (.int 0)) (badR r) other n2) (hlot : Ch (.tup [rep r (.int 1)]) (badL r) lot n3) (hmore : Ch (.tup []) (badL r) more n4) (hrows : Ch (.tup [rep r (.int 3)]) (badM r) rows n5) (hby : Ch (.int (-4)) badB by_ n6)
    (kw : noOwn w = true) (kone : noOwn one = true) (kother : noOwn other = true) (klot : noOwn lot = true) (kmore : noOwn more = true) (krows : noOwn rows = true) (kby : noOwn by_ = true) (an : AN n μ) : q_15 (Sz n r n0 n1 n2 n3 n4 n5 n6 by_ lot more one other rows w (.own (.lst [.str (fstW [(cw w, n0), ("row", n1), ("row", n2)]), .str (fstW [(cw w, n0), ("operation", n6), ("row", n1)]), .str (fstW [(cw w, n0), ("row", n1), ("row", n2)]), .str (fstW [(cw w, n0), ("row", n1)])])) a13 a15 μ) = .nx (Sz n r n0 n1 n2 n3 n4 n5 n6 by_ lot more one other rows w (.own (.lst [.str (fstW [(cw w, n0), ("row", n1), ("row", n2)]), .str (fstW [(cw w, n0), ("operation", n6), ("row", n1)]), .str (fstW [(cw w, n0), ("row", n1), ("row", n2)]), .str (fstW [(cw w, n0), ("row", n1)]), .str (fstW [(cw w, n0), ("row", n5)]), .str (fstW [(cw w, n0), ("lot", n3), ("row", n1)])])) a13 a15 μ) :=
  asgO_ok (cat_ok (x := [.str (fstW [(cw w, n0), ("row", n1), ("row", n2)]), .str (fstW [(cw w, n0), ("operation", n6), ("row", n1)]), .str (fstW [(cw w, n0), ("row", n1), ("row", n2)]), .str (fstW [(cw w, n0), ("row", n1)])]) (y := [.str (fstW [(cw w, n0), ("row", n5)]), .str (fstW [(cw w, n0), ("lot", n3), ("row", n1)])]) (var_own rfl) (frzE_ok (lst_ok (cons_ok (m_4 h1 h4 hw hone hother hlot hmore hrows hby kw kone kother klot kmore krows kby an) (cons_ok (m_5 h1 h4 hw hone hother hlot hmore hrows hby kw kone kother klot kmore krows kby an) nil_ok)) rfl (by show 2 ≤ 16777216; decide))) (asl_own rfl) rfl (by show 6 ≤ 16777216; decide))
theorem e_16 {n r : Nat} {n0 n1 n2 n3 n4 n5 n6 : Bool} {by_ lot more one other rows w : D} {μ : List Cell} {a12 a15 : DL.Slot}  : q_16 (Sz n r n0 n1 n2 n3 n4 n5 n6 by_ lot more one other rows w a12 (.own (.lst [.str (fstW [(cw w, n0), ("row", n1), ("row", n2)]), .str (fstW [(cw w, n0), ("operation", n6), ("row", n1)]), .str (fstW [(cw w, n0), ("row", n1), ("row", n2)]), .str (fstW [(cw w, n0), ("row", n1)])])) a15 μ) = .nx (Sz n r n0 n1 n2 n3 n4 n5 n6 by_ lot more one other rows w a12 (.own (.lst [.str (fstW [(cw w, n0), ("row", n1), ("row", n2)]), .str (fstW [(cw w, n0), ("operation", n6), ("row", n1)]), .str (fstW [(cw w, n0), ("row", n1), ("row", n2)]), .str (fstW [(cw w, n0), ("row", n1)]), .str (fstW [(cw w, n0), ("row", n5)]), .str (fstW [(cw w, n0), ("lot", n3), ("row", n1)])])) a15 μ) :=
  asgO_ok (cat_ok (x := [.str (fstW [(cw w, n0), ("row", n1), ("row", n2)]), .str (fstW [(cw w, n0), ("operation", n6), ("row", n1)]), .str (fstW [(cw w, n0), ("row", n1), ("row", n2)]), .str (fstW [(cw w, n0), ("row", n1)])]) (y := [.str (fstW [(cw w, n0), ("row", n5)]), .str (fstW [(cw w, n0), ("lot", n3), ("row", n1)])]) (var_own rfl) (frzE_ok (lst_ok (cons_ok u_4 (cons_ok u_5 nil_ok)) rfl (by show 2 ≤ 16777216; decide))) (asl_own rfl) rfl (by show 6 ≤ 16777216; decide))
theorem lb_1 {n r : Nat} {n0 n1 n2 n3 n4 n5 n6 : Bool} {by_ lot more one other rows w : D} {μ : List Cell} (h1 : 1 ≤ r) (h4 : r ≤ 4) (hw : Ch (.int (r : Nat)) badW w n0) (hone : Ch (rep r (.int 2)) (badR r) one n1) (hother : Ch (rep r (.int 0)) (badR r) other n2) (hlot : Ch (.tup [rep r (.int 1)]) (badL r) lot n3) (hmore : Ch (.tup []) (badL r) more n4) (hrows : Ch (.tup [rep r (.int 3)]) (badM r) rows n5) (hby : Ch (.int (-4)) badB by_ n6)
    (kw : noOwn w = true) (kone : noOwn one = true) (kother : noOwn other = true) (klot : noOwn lot = true) (kmore : noOwn more = true) (krows : noOwn rows = true) (kby : noOwn by_ = true) (an : AN n μ) : (dSeq (dDrop (dM "list" gAppend (dVar 12) (dCons (dMet 2 sub cl_L_met "fine" (dCallV 15 [("joined_lots", F_joined_lots), ("met_lots", F_met_lots)] (dCons (dVar 21) (dCons (dVar 16) (dCons (dVar 17) dNil))))) dNil))) (dDrop (dM "list" gAppend (dVar 13) (dCons (dCall F_L_due (dCons (dFrz (dLst (dCons (dVar 11) (dCons (dTup (dCons (dC (.str "lot")) (dCons (dVar 7) dNil))) (dCons (dTup (dCons (dC (.str "lot")) (dCons (dVar 8) dNil))) dNil))))) dNil)) dNil)))) (Sz n r n0 n1 n2 n3 n4 n5 n6 by_ lot more one other rows w (.own (.lst [.str (fstW [(cw w, n0), ("row", n1), ("row", n2)]), .str (fstW [(cw w, n0), ("operation", n6), ("row", n1)]), .str (fstW [(cw w, n0), ("row", n1), ("row", n2)]), .str (fstW [(cw w, n0), ("row", n1)]), .str (fstW [(cw w, n0), ("row", n5)]), .str (fstW [(cw w, n0), ("lot", n3), ("row", n1)])])) (.own (.lst [.str (fstW [(cw w, n0), ("row", n1), ("row", n2)]), .str (fstW [(cw w, n0), ("operation", n6), ("row", n1)]), .str (fstW [(cw w, n0), ("row", n1), ("row", n2)]), .str (fstW [(cw w, n0), ("row", n1)]), .str (fstW [(cw w, n0), ("row", n5)]), .str (fstW [(cw w, n0), ("lot", n3), ("row", n1)])])) (.val (.fn "joined_lots")) μ) = .nx (Sz n r n0 n1 n2 n3 n4 n5 n6 by_ lot more one other rows w (.own (.lst [.str (fstW [(cw w, n0), ("row", n1), ("row", n2)]), .str (fstW [(cw w, n0), ("operation", n6), ("row", n1)]), .str (fstW [(cw w, n0), ("row", n1), ("row", n2)]), .str (fstW [(cw w, n0), ("row", n1)]), .str (fstW [(cw w, n0), ("row", n5)]), .str (fstW [(cw w, n0), ("lot", n3), ("row", n1)]), .str (fstW [(cw w, n0), ("lot", n3), ("lot", n4)])])) (.own (.lst [.str (fstW [(cw w, n0), ("row", n1), ("row", n2)]), .str (fstW [(cw w, n0), ("operation", n6), ("row", n1)]), .str (fstW [(cw w, n0), ("row", n1), ("row", n2)]), .str (fstW [(cw w, n0), ("row", n1)]), .str (fstW [(cw w, n0), ("row", n5)]), .str (fstW [(cw w, n0), ("lot", n3), ("row", n1)]), .str (fstW [(cw w, n0), ("lot", n3), ("lot", n4)])])) (.val (.fn "joined_lots")) μ) :=
  (seq_nx (apd_ok (V := [.str (fstW [(cw w, n0), ("row", n1), ("row", n2)]), .str (fstW [(cw w, n0), ("operation", n6), ("row", n1)]), .str (fstW [(cw w, n0), ("row", n1), ("row", n2)]), .str (fstW [(cw w, n0), ("row", n1)]), .str (fstW [(cw w, n0), ("row", n5)]), .str (fstW [(cw w, n0), ("lot", n3), ("row", n1)])]) rfl (m_6 h1 h4 hw hone hother hlot hmore hrows hby kw kone kother klot kmore krows kby an) rfl (by show 6 < 16777216; decide) rfl)).trans (apd_ok (V := [.str (fstW [(cw w, n0), ("row", n1), ("row", n2)]), .str (fstW [(cw w, n0), ("operation", n6), ("row", n1)]), .str (fstW [(cw w, n0), ("row", n1), ("row", n2)]), .str (fstW [(cw w, n0), ("row", n1)]), .str (fstW [(cw w, n0), ("row", n5)]), .str (fstW [(cw w, n0), ("lot", n3), ("row", n1)])]) rfl u_6 rfl (by show 6 < 16777216; decide) rfl)
theorem lb_2 {n r : Nat} {n0 n1 n2 n3 n4 n5 n6 : Bool} {by_ lot more one other rows w : D} {μ : List Cell} (h1 : 1 ≤ r) (h4 : r ≤ 4) (hw : Ch (.int (r : Nat)) badW w n0) (hone : Ch (rep r (.int 2)) (badR r) one n1) (hother : Ch (rep r (.int 0)) (badR r) other n2) (hlot : Ch (.tup [rep r (.int 1)]) (badL r) lot n3) (hmore : Ch (.tup []) (badL r) more n4) (hrows : Ch (.tup [rep r (.int 3)]) (badM r) rows n5) (hby : Ch (.int (-4)) badB by_ n6)
    (kw : noOwn w = true) (kone : noOwn one = true) (kother : noOwn other = true) (klot : noOwn lot = true) (kmore : noOwn more = true) (krows : noOwn rows = true) (kby : noOwn by_ = true) (an : AN n μ) : (dSeq (dDrop (dM "list" gAppend (dVar 12) (dCons (dMet 2 sub cl_L_met "fine" (dCallV 15 [("joined_lots", F_joined_lots), ("met_lots", F_met_lots)] (dCons (dVar 21) (dCons (dVar 16) (dCons (dVar 17) dNil))))) dNil))) (dDrop (dM "list" gAppend (dVar 13) (dCons (dCall F_L_due (dCons (dFrz (dLst (dCons (dVar 11) (dCons (dTup (dCons (dC (.str "lot")) (dCons (dVar 7) dNil))) (dCons (dTup (dCons (dC (.str "lot")) (dCons (dVar 8) dNil))) dNil))))) dNil)) dNil)))) (Sz n r n0 n1 n2 n3 n4 n5 n6 by_ lot more one other rows w (.own (.lst [.str (fstW [(cw w, n0), ("row", n1), ("row", n2)]), .str (fstW [(cw w, n0), ("operation", n6), ("row", n1)]), .str (fstW [(cw w, n0), ("row", n1), ("row", n2)]), .str (fstW [(cw w, n0), ("row", n1)]), .str (fstW [(cw w, n0), ("row", n5)]), .str (fstW [(cw w, n0), ("lot", n3), ("row", n1)]), .str (fstW [(cw w, n0), ("lot", n3), ("lot", n4)])])) (.own (.lst [.str (fstW [(cw w, n0), ("row", n1), ("row", n2)]), .str (fstW [(cw w, n0), ("operation", n6), ("row", n1)]), .str (fstW [(cw w, n0), ("row", n1), ("row", n2)]), .str (fstW [(cw w, n0), ("row", n1)]), .str (fstW [(cw w, n0), ("row", n5)]), .str (fstW [(cw w, n0), ("lot", n3), ("row", n1)]), .str (fstW [(cw w, n0), ("lot", n3), ("lot", n4)])])) (.val (.fn "met_lots")) μ) = .nx (Sz n r n0 n1 n2 n3 n4 n5 n6 by_ lot more one other rows w (.own (.lst [.str (fstW [(cw w, n0), ("row", n1), ("row", n2)]), .str (fstW [(cw w, n0), ("operation", n6), ("row", n1)]), .str (fstW [(cw w, n0), ("row", n1), ("row", n2)]), .str (fstW [(cw w, n0), ("row", n1)]), .str (fstW [(cw w, n0), ("row", n5)]), .str (fstW [(cw w, n0), ("lot", n3), ("row", n1)]), .str (fstW [(cw w, n0), ("lot", n3), ("lot", n4)]), .str (fstW [(cw w, n0), ("lot", n3), ("lot", n4)])])) (.own (.lst [.str (fstW [(cw w, n0), ("row", n1), ("row", n2)]), .str (fstW [(cw w, n0), ("operation", n6), ("row", n1)]), .str (fstW [(cw w, n0), ("row", n1), ("row", n2)]), .str (fstW [(cw w, n0), ("row", n1)]), .str (fstW [(cw w, n0), ("row", n5)]), .str (fstW [(cw w, n0), ("lot", n3), ("row", n1)]), .str (fstW [(cw w, n0), ("lot", n3), ("lot", n4)]), .str (fstW [(cw w, n0), ("lot", n3), ("lot", n4)])])) (.val (.fn "met_lots")) μ) :=
  (seq_nx (apd_ok (V := [.str (fstW [(cw w, n0), ("row", n1), ("row", n2)]), .str (fstW [(cw w, n0), ("operation", n6), ("row", n1)]), .str (fstW [(cw w, n0), ("row", n1), ("row", n2)]), .str (fstW [(cw w, n0), ("row", n1)]), .str (fstW [(cw w, n0), ("row", n5)]), .str (fstW [(cw w, n0), ("lot", n3), ("row", n1)]), .str (fstW [(cw w, n0), ("lot", n3), ("lot", n4)])]) rfl (m_7 h1 h4 hw hone hother hlot hmore hrows hby kw kone kother klot kmore krows kby an) rfl (by show 7 < 16777216; decide) rfl)).trans (apd_ok (V := [.str (fstW [(cw w, n0), ("row", n1), ("row", n2)]), .str (fstW [(cw w, n0), ("operation", n6), ("row", n1)]), .str (fstW [(cw w, n0), ("row", n1), ("row", n2)]), .str (fstW [(cw w, n0), ("row", n1)]), .str (fstW [(cw w, n0), ("row", n5)]), .str (fstW [(cw w, n0), ("lot", n3), ("row", n1)]), .str (fstW [(cw w, n0), ("lot", n3), ("lot", n4)])]) rfl u_6 rfl (by show 7 < 16777216; decide) rfl)
theorem e_17 {n r : Nat} {n0 n1 n2 n3 n4 n5 n6 : Bool} {by_ lot more one other rows w : D} {μ : List Cell} {a15 : DL.Slot} (h1 : 1 ≤ r) (h4 : r ≤ 4) (hw : Ch (.int (r : Nat)) badW w n0) (hone : Ch (rep r (.int 2)) (badR r) one n1) (hother : Ch (rep r (.int 0)) (badR r) other n2) (hlot : Ch (.tup [rep r (.int 1)]) (badL r) lot n3) (hmore : Ch (.tup []) (badL r) more n4) (hrows : Ch (.tup [rep r (.int 3)]) (badM r) rows n5) (hby : Ch (.int (-4)) badB by_ n6)
    (kw : noOwn w = true) (kone : noOwn one = true) (kother : noOwn other = true) (klot : noOwn lot = true) (kmore : noOwn more = true) (krows : noOwn rows = true) (kby : noOwn by_ = true) (an : AN n μ) : q_17 (Sz n r n0 n1 n2 n3 n4 n5 n6 by_ lot more one other rows w (.own (.lst [.str (fstW [(cw w, n0), ("row", n1), ("row", n2)]), .str (fstW [(cw w, n0), ("operation", n6), ("row", n1)]), .str (fstW [(cw w, n0), ("row", n1), ("row", n2)]), .str (fstW [(cw w, n0), ("row", n1)]), .str (fstW [(cw w, n0), ("row", n5)]), .str (fstW [(cw w, n0), ("lot", n3), ("row", n1)])])) (.own (.lst [.str (fstW [(cw w, n0), ("row", n1), ("row", n2)]), .str (fstW [(cw w, n0), ("operation", n6), ("row", n1)]), .str (fstW [(cw w, n0), ("row", n1), ("row", n2)]), .str (fstW [(cw w, n0), ("row", n1)]), .str (fstW [(cw w, n0), ("row", n5)]), .str (fstW [(cw w, n0), ("lot", n3), ("row", n1)])])) a15 μ) = .nx (Sz n r n0 n1 n2 n3 n4 n5 n6 by_ lot more one other rows w (.own (.lst [.str (fstW [(cw w, n0), ("row", n1), ("row", n2)]), .str (fstW [(cw w, n0), ("operation", n6), ("row", n1)]), .str (fstW [(cw w, n0), ("row", n1), ("row", n2)]), .str (fstW [(cw w, n0), ("row", n1)]), .str (fstW [(cw w, n0), ("row", n5)]), .str (fstW [(cw w, n0), ("lot", n3), ("row", n1)]), .str (fstW [(cw w, n0), ("lot", n3), ("lot", n4)]), .str (fstW [(cw w, n0), ("lot", n3), ("lot", n4)])])) (.own (.lst [.str (fstW [(cw w, n0), ("row", n1), ("row", n2)]), .str (fstW [(cw w, n0), ("operation", n6), ("row", n1)]), .str (fstW [(cw w, n0), ("row", n1), ("row", n2)]), .str (fstW [(cw w, n0), ("row", n1)]), .str (fstW [(cw w, n0), ("row", n5)]), .str (fstW [(cw w, n0), ("lot", n3), ("row", n1)]), .str (fstW [(cw w, n0), ("lot", n3), ("lot", n4)]), .str (fstW [(cw w, n0), ("lot", n3), ("lot", n4)])])) (.val (.fn "met_lots")) μ) :=
  for_it (ds := [.fn "joined_lots", .fn "met_lots"]) (s1 := (Sz n r n0 n1 n2 n3 n4 n5 n6 by_ lot more one other rows w (.own (.lst [.str (fstW [(cw w, n0), ("row", n1), ("row", n2)]), .str (fstW [(cw w, n0), ("operation", n6), ("row", n1)]), .str (fstW [(cw w, n0), ("row", n1), ("row", n2)]), .str (fstW [(cw w, n0), ("row", n1)]), .str (fstW [(cw w, n0), ("row", n5)]), .str (fstW [(cw w, n0), ("lot", n3), ("row", n1)])])) (.own (.lst [.str (fstW [(cw w, n0), ("row", n1), ("row", n2)]), .str (fstW [(cw w, n0), ("operation", n6), ("row", n1)]), .str (fstW [(cw w, n0), ("row", n1), ("row", n2)]), .str (fstW [(cw w, n0), ("row", n1)]), .str (fstW [(cw w, n0), ("row", n5)]), .str (fstW [(cw w, n0), ("lot", n3), ("row", n1)])])) a15 μ)) (by kernel_rfl) (for_nx (s1 := (Sz n r n0 n1 n2 n3 n4 n5 n6 by_ lot more one other rows w (.own (.lst [.str (fstW [(cw w, n0), ("row", n1), ("row", n2)]), .str (fstW [(cw w, n0), ("operation", n6), ("row", n1)]), .str (fstW [(cw w, n0), ("row", n1), ("row", n2)]), .str (fstW [(cw w, n0), ("row", n1)]), .str (fstW [(cw w, n0), ("row", n5)]), .str (fstW [(cw w, n0), ("lot", n3), ("row", n1)])])) (.own (.lst [.str (fstW [(cw w, n0), ("row", n1), ("row", n2)]), .str (fstW [(cw w, n0), ("operation", n6), ("row", n1)]), .str (fstW [(cw w, n0), ("row", n1), ("row", n2)]), .str (fstW [(cw w, n0), ("row", n1)]), .str (fstW [(cw w, n0), ("row", n5)]), .str (fstW [(cw w, n0), ("lot", n3), ("row", n1)])])) (.val (.fn "joined_lots")) μ)) rfl (lb_1 h1 h4 hw hone hother hlot hmore hrows hby kw kone kother klot kmore krows kby an) (for_nx (s1 := (Sz n r n0 n1 n2 n3 n4 n5 n6 by_ lot more one other rows w (.own (.lst [.str (fstW [(cw w, n0), ("row", n1), ("row", n2)]), .str (fstW [(cw w, n0), ("operation", n6), ("row", n1)]), .str (fstW [(cw w, n0), ("row", n1), ("row", n2)]), .str (fstW [(cw w, n0), ("row", n1)]), .str (fstW [(cw w, n0), ("row", n5)]), .str (fstW [(cw w, n0), ("lot", n3), ("row", n1)]), .str (fstW [(cw w, n0), ("lot", n3), ("lot", n4)])])) (.own (.lst [.str (fstW [(cw w, n0), ("row", n1), ("row", n2)]), .str (fstW [(cw w, n0), ("operation", n6), ("row", n1)]), .str (fstW [(cw w, n0), ("row", n1), ("row", n2)]), .str (fstW [(cw w, n0), ("row", n1)]), .str (fstW [(cw w, n0), ("row", n5)]), .str (fstW [(cw w, n0), ("lot", n3), ("row", n1)]), .str (fstW [(cw w, n0), ("lot", n3), ("lot", n4)])])) (.val (.fn "met_lots")) μ)) rfl (lb_2 h1 h4 hw hone hother hlot hmore hrows hby kw kone kother klot kmore krows kby an) for_nil))
theorem e_18 {n r : Nat} {n0 n1 n2 n3 n4 n5 n6 : Bool} {by_ lot more one other rows w : D} {μ : List Cell} {a13 a15 : DL.Slot} (h1 : 1 ≤ r) (h4 : r ≤ 4) (hw : Ch (.int (r : Nat)) badW w n0) (hone : Ch (rep r (.int 2)) (badR r) one n1) (hother : Ch (rep r (.int 0)) (badR r) other n2) (hlot : Ch (.tup [rep r (.int 1)]) (badL r) lot n3) (hmore : Ch (.tup []) (badL r) more n4) (hrows : Ch (.tup [rep r (.int 3)]) (badM r) rows n5) (hby : Ch (.int (-4)) badB by_ n6)
    (kw : noOwn w = true) (kone : noOwn one = true) (kother : noOwn other = true) (klot : noOwn lot = true) (kmore : noOwn more = true) (krows : noOwn rows = true) (kby : noOwn by_ = true) (an : AN n μ) : q_18 (Sz n r n0 n1 n2 n3 n4 n5 n6 by_ lot more one other rows w (.own (.lst [.str (fstW [(cw w, n0), ("row", n1), ("row", n2)]), .str (fstW [(cw w, n0), ("operation", n6), ("row", n1)]), .str (fstW [(cw w, n0), ("row", n1), ("row", n2)]), .str (fstW [(cw w, n0), ("row", n1)]), .str (fstW [(cw w, n0), ("row", n5)]), .str (fstW [(cw w, n0), ("lot", n3), ("row", n1)]), .str (fstW [(cw w, n0), ("lot", n3), ("lot", n4)]), .str (fstW [(cw w, n0), ("lot", n3), ("lot", n4)])])) a13 a15 μ) = .nx (Sz n r n0 n1 n2 n3 n4 n5 n6 by_ lot more one other rows w (.own (.lst [.str (fstW [(cw w, n0), ("row", n1), ("row", n2)]), .str (fstW [(cw w, n0), ("operation", n6), ("row", n1)]), .str (fstW [(cw w, n0), ("row", n1), ("row", n2)]), .str (fstW [(cw w, n0), ("row", n1)]), .str (fstW [(cw w, n0), ("row", n5)]), .str (fstW [(cw w, n0), ("lot", n3), ("row", n1)]), .str (fstW [(cw w, n0), ("lot", n3), ("lot", n4)]), .str (fstW [(cw w, n0), ("lot", n3), ("lot", n4)]), .str (fstW [(cw w, n0), ("lot", n3)]), .str (fstW [(cw w, n0), ("row", n5), ("row", n1)])])) a13 a15 μ) :=
  asgO_ok (cat_ok (x := [.str (fstW [(cw w, n0), ("row", n1), ("row", n2)]), .str (fstW [(cw w, n0), ("operation", n6), ("row", n1)]), .str (fstW [(cw w, n0), ("row", n1), ("row", n2)]), .str (fstW [(cw w, n0), ("row", n1)]), .str (fstW [(cw w, n0), ("row", n5)]), .str (fstW [(cw w, n0), ("lot", n3), ("row", n1)]), .str (fstW [(cw w, n0), ("lot", n3), ("lot", n4)]), .str (fstW [(cw w, n0), ("lot", n3), ("lot", n4)])]) (y := [.str (fstW [(cw w, n0), ("lot", n3)]), .str (fstW [(cw w, n0), ("row", n5), ("row", n1)])]) (var_own rfl) (frzE_ok (lst_ok (cons_ok (m_8 h1 h4 hw hone hother hlot hmore hrows hby kw kone kother klot kmore krows kby an) (cons_ok (m_9 h1 h4 hw hone hother hlot hmore hrows hby kw kone kother klot kmore krows kby an) nil_ok)) rfl (by show 2 ≤ 16777216; decide))) (asl_own rfl) rfl (by show 10 ≤ 16777216; decide))
theorem e_19 {n r : Nat} {n0 n1 n2 n3 n4 n5 n6 : Bool} {by_ lot more one other rows w : D} {μ : List Cell} {a12 a15 : DL.Slot}  : q_19 (Sz n r n0 n1 n2 n3 n4 n5 n6 by_ lot more one other rows w a12 (.own (.lst [.str (fstW [(cw w, n0), ("row", n1), ("row", n2)]), .str (fstW [(cw w, n0), ("operation", n6), ("row", n1)]), .str (fstW [(cw w, n0), ("row", n1), ("row", n2)]), .str (fstW [(cw w, n0), ("row", n1)]), .str (fstW [(cw w, n0), ("row", n5)]), .str (fstW [(cw w, n0), ("lot", n3), ("row", n1)]), .str (fstW [(cw w, n0), ("lot", n3), ("lot", n4)]), .str (fstW [(cw w, n0), ("lot", n3), ("lot", n4)])])) a15 μ) = .nx (Sz n r n0 n1 n2 n3 n4 n5 n6 by_ lot more one other rows w a12 (.own (.lst [.str (fstW [(cw w, n0), ("row", n1), ("row", n2)]), .str (fstW [(cw w, n0), ("operation", n6), ("row", n1)]), .str (fstW [(cw w, n0), ("row", n1), ("row", n2)]), .str (fstW [(cw w, n0), ("row", n1)]), .str (fstW [(cw w, n0), ("row", n5)]), .str (fstW [(cw w, n0), ("lot", n3), ("row", n1)]), .str (fstW [(cw w, n0), ("lot", n3), ("lot", n4)]), .str (fstW [(cw w, n0), ("lot", n3), ("lot", n4)]), .str (fstW [(cw w, n0), ("lot", n3)]), .str (fstW [(cw w, n0), ("row", n5), ("row", n1)])])) a15 μ) :=
  asgO_ok (cat_ok (x := [.str (fstW [(cw w, n0), ("row", n1), ("row", n2)]), .str (fstW [(cw w, n0), ("operation", n6), ("row", n1)]), .str (fstW [(cw w, n0), ("row", n1), ("row", n2)]), .str (fstW [(cw w, n0), ("row", n1)]), .str (fstW [(cw w, n0), ("row", n5)]), .str (fstW [(cw w, n0), ("lot", n3), ("row", n1)]), .str (fstW [(cw w, n0), ("lot", n3), ("lot", n4)]), .str (fstW [(cw w, n0), ("lot", n3), ("lot", n4)])]) (y := [.str (fstW [(cw w, n0), ("lot", n3)]), .str (fstW [(cw w, n0), ("row", n5), ("row", n1)])]) (var_own rfl) (frzE_ok (lst_ok (cons_ok u_8 (cons_ok u_9 nil_ok)) rfl (by show 2 ≤ 16777216; decide))) (asl_own rfl) rfl (by show 10 ≤ 16777216; decide))
theorem e_20 {n r : Nat} {n0 n1 n2 n3 n4 n5 n6 : Bool} {by_ lot more one other rows w : D} {μ : List Cell} {a13 a15 : DL.Slot} (h1 : 1 ≤ r) (h4 : r ≤ 4) (hw : Ch (.int (r : Nat)) badW w n0) (hone : Ch (rep r (.int 2)) (badR r) one n1) (hother : Ch (rep r (.int 0)) (badR r) other n2) (hlot : Ch (.tup [rep r (.int 1)]) (badL r) lot n3) (hmore : Ch (.tup []) (badL r) more n4) (hrows : Ch (.tup [rep r (.int 3)]) (badM r) rows n5) (hby : Ch (.int (-4)) badB by_ n6)
    (kw : noOwn w = true) (kone : noOwn one = true) (kother : noOwn other = true) (klot : noOwn lot = true) (kmore : noOwn more = true) (krows : noOwn rows = true) (kby : noOwn by_ = true) (an : AN n μ) : q_20 (Sz n r n0 n1 n2 n3 n4 n5 n6 by_ lot more one other rows w (.own (.lst [.str (fstW [(cw w, n0), ("row", n1), ("row", n2)]), .str (fstW [(cw w, n0), ("operation", n6), ("row", n1)]), .str (fstW [(cw w, n0), ("row", n1), ("row", n2)]), .str (fstW [(cw w, n0), ("row", n1)]), .str (fstW [(cw w, n0), ("row", n5)]), .str (fstW [(cw w, n0), ("lot", n3), ("row", n1)]), .str (fstW [(cw w, n0), ("lot", n3), ("lot", n4)]), .str (fstW [(cw w, n0), ("lot", n3), ("lot", n4)]), .str (fstW [(cw w, n0), ("lot", n3)]), .str (fstW [(cw w, n0), ("row", n5), ("row", n1)])])) a13 a15 μ) = .nx (Sz n r n0 n1 n2 n3 n4 n5 n6 by_ lot more one other rows w (.own (.lst [.str (fstW [(cw w, n0), ("row", n1), ("row", n2)]), .str (fstW [(cw w, n0), ("operation", n6), ("row", n1)]), .str (fstW [(cw w, n0), ("row", n1), ("row", n2)]), .str (fstW [(cw w, n0), ("row", n1)]), .str (fstW [(cw w, n0), ("row", n5)]), .str (fstW [(cw w, n0), ("lot", n3), ("row", n1)]), .str (fstW [(cw w, n0), ("lot", n3), ("lot", n4)]), .str (fstW [(cw w, n0), ("lot", n3), ("lot", n4)]), .str (fstW [(cw w, n0), ("lot", n3)]), .str (fstW [(cw w, n0), ("row", n5), ("row", n1)]), .str (fstW [(cw w, n0)]), .str (fstW [(cw w, n0)])])) a13 a15 μ) :=
  asgO_ok (cat_ok (x := [.str (fstW [(cw w, n0), ("row", n1), ("row", n2)]), .str (fstW [(cw w, n0), ("operation", n6), ("row", n1)]), .str (fstW [(cw w, n0), ("row", n1), ("row", n2)]), .str (fstW [(cw w, n0), ("row", n1)]), .str (fstW [(cw w, n0), ("row", n5)]), .str (fstW [(cw w, n0), ("lot", n3), ("row", n1)]), .str (fstW [(cw w, n0), ("lot", n3), ("lot", n4)]), .str (fstW [(cw w, n0), ("lot", n3), ("lot", n4)]), .str (fstW [(cw w, n0), ("lot", n3)]), .str (fstW [(cw w, n0), ("row", n5), ("row", n1)])]) (y := [.str (fstW [(cw w, n0)]), .str (fstW [(cw w, n0)])]) (var_own rfl) (frzE_ok (lst_ok (cons_ok (m_10 h1 h4 hw hone hother hlot hmore hrows hby kw kone kother klot kmore krows kby an) (cons_ok (m_11 h1 h4 hw hone hother hlot hmore hrows hby kw kone kother klot kmore krows kby an) nil_ok)) rfl (by show 2 ≤ 16777216; decide))) (asl_own rfl) rfl (by show 12 ≤ 16777216; decide))
theorem e_21 {n r : Nat} {n0 n1 n2 n3 n4 n5 n6 : Bool} {by_ lot more one other rows w : D} {μ : List Cell} {a12 a15 : DL.Slot}  : q_21 (Sz n r n0 n1 n2 n3 n4 n5 n6 by_ lot more one other rows w a12 (.own (.lst [.str (fstW [(cw w, n0), ("row", n1), ("row", n2)]), .str (fstW [(cw w, n0), ("operation", n6), ("row", n1)]), .str (fstW [(cw w, n0), ("row", n1), ("row", n2)]), .str (fstW [(cw w, n0), ("row", n1)]), .str (fstW [(cw w, n0), ("row", n5)]), .str (fstW [(cw w, n0), ("lot", n3), ("row", n1)]), .str (fstW [(cw w, n0), ("lot", n3), ("lot", n4)]), .str (fstW [(cw w, n0), ("lot", n3), ("lot", n4)]), .str (fstW [(cw w, n0), ("lot", n3)]), .str (fstW [(cw w, n0), ("row", n5), ("row", n1)])])) a15 μ) = .nx (Sz n r n0 n1 n2 n3 n4 n5 n6 by_ lot more one other rows w a12 (.own (.lst [.str (fstW [(cw w, n0), ("row", n1), ("row", n2)]), .str (fstW [(cw w, n0), ("operation", n6), ("row", n1)]), .str (fstW [(cw w, n0), ("row", n1), ("row", n2)]), .str (fstW [(cw w, n0), ("row", n1)]), .str (fstW [(cw w, n0), ("row", n5)]), .str (fstW [(cw w, n0), ("lot", n3), ("row", n1)]), .str (fstW [(cw w, n0), ("lot", n3), ("lot", n4)]), .str (fstW [(cw w, n0), ("lot", n3), ("lot", n4)]), .str (fstW [(cw w, n0), ("lot", n3)]), .str (fstW [(cw w, n0), ("row", n5), ("row", n1)]), .str (fstW [(cw w, n0)]), .str (fstW [(cw w, n0)])])) a15 μ) :=
  asgO_ok (cat_ok (x := [.str (fstW [(cw w, n0), ("row", n1), ("row", n2)]), .str (fstW [(cw w, n0), ("operation", n6), ("row", n1)]), .str (fstW [(cw w, n0), ("row", n1), ("row", n2)]), .str (fstW [(cw w, n0), ("row", n1)]), .str (fstW [(cw w, n0), ("row", n5)]), .str (fstW [(cw w, n0), ("lot", n3), ("row", n1)]), .str (fstW [(cw w, n0), ("lot", n3), ("lot", n4)]), .str (fstW [(cw w, n0), ("lot", n3), ("lot", n4)]), .str (fstW [(cw w, n0), ("lot", n3)]), .str (fstW [(cw w, n0), ("row", n5), ("row", n1)])]) (y := [.str (fstW [(cw w, n0)]), .str (fstW [(cw w, n0)])]) (var_own rfl) (frzE_ok (repF_ok (lst_ok (cons_ok u_10 nil_ok) rfl (by show 1 ≤ 16777216; decide)) c_ok (by kernel_rfl))) (asl_own rfl) rfl (by show 12 ≤ 16777216; decide))
theorem e_22 {n r : Nat} {n0 n1 n2 n3 n4 n5 n6 : Bool} {by_ lot more one other rows w : D} {μ : List Cell} {a13 a15 : DL.Slot} (h1 : 1 ≤ r) (h4 : r ≤ 4) (hw : Ch (.int (r : Nat)) badW w n0) (hone : Ch (rep r (.int 2)) (badR r) one n1) (hother : Ch (rep r (.int 0)) (badR r) other n2) (hlot : Ch (.tup [rep r (.int 1)]) (badL r) lot n3) (hmore : Ch (.tup []) (badL r) more n4) (hrows : Ch (.tup [rep r (.int 3)]) (badM r) rows n5) (hby : Ch (.int (-4)) badB by_ n6)
    (kw : noOwn w = true) (kone : noOwn one = true) (kother : noOwn other = true) (klot : noOwn lot = true) (kmore : noOwn more = true) (krows : noOwn rows = true) (kby : noOwn by_ = true) (an : AN n μ) : q_22 (Sz n r n0 n1 n2 n3 n4 n5 n6 by_ lot more one other rows w (.own (.lst [.str (fstW [(cw w, n0), ("row", n1), ("row", n2)]), .str (fstW [(cw w, n0), ("operation", n6), ("row", n1)]), .str (fstW [(cw w, n0), ("row", n1), ("row", n2)]), .str (fstW [(cw w, n0), ("row", n1)]), .str (fstW [(cw w, n0), ("row", n5)]), .str (fstW [(cw w, n0), ("lot", n3), ("row", n1)]), .str (fstW [(cw w, n0), ("lot", n3), ("lot", n4)]), .str (fstW [(cw w, n0), ("lot", n3), ("lot", n4)]), .str (fstW [(cw w, n0), ("lot", n3)]), .str (fstW [(cw w, n0), ("row", n5), ("row", n1)]), .str (fstW [(cw w, n0)]), .str (fstW [(cw w, n0)])])) a13 a15 μ) = .nx (Sz n r n0 n1 n2 n3 n4 n5 n6 by_ lot more one other rows w (.val (.lst [.str (fstW [(cw w, n0), ("row", n1), ("row", n2)]), .str (fstW [(cw w, n0), ("operation", n6), ("row", n1)]), .str (fstW [(cw w, n0), ("row", n1), ("row", n2)]), .str (fstW [(cw w, n0), ("row", n1)]), .str (fstW [(cw w, n0), ("row", n5)]), .str (fstW [(cw w, n0), ("lot", n3), ("row", n1)]), .str (fstW [(cw w, n0), ("lot", n3), ("lot", n4)]), .str (fstW [(cw w, n0), ("lot", n3), ("lot", n4)]), .str (fstW [(cw w, n0), ("lot", n3)]), .str (fstW [(cw w, n0), ("row", n5), ("row", n1)]), .str (fstW [(cw w, n0)]), .str (fstW [(cw w, n0)]), .str (fstW [(cw w, n0), ("row", n5), ("row", n1)])])) a13 a15 μ) :=
  frzS_ok (apd_ok (V := [.str (fstW [(cw w, n0), ("row", n1), ("row", n2)]), .str (fstW [(cw w, n0), ("operation", n6), ("row", n1)]), .str (fstW [(cw w, n0), ("row", n1), ("row", n2)]), .str (fstW [(cw w, n0), ("row", n1)]), .str (fstW [(cw w, n0), ("row", n5)]), .str (fstW [(cw w, n0), ("lot", n3), ("row", n1)]), .str (fstW [(cw w, n0), ("lot", n3), ("lot", n4)]), .str (fstW [(cw w, n0), ("lot", n3), ("lot", n4)]), .str (fstW [(cw w, n0), ("lot", n3)]), .str (fstW [(cw w, n0), ("row", n5), ("row", n1)]), .str (fstW [(cw w, n0)]), .str (fstW [(cw w, n0)])]) rfl (m_12 h1 h4 hw hone hother hlot hmore hrows hby kw kone kother klot kmore krows kby an) rfl (by show 12 < 16777216; decide) rfl) rfl
theorem e_23 {n r : Nat} {n0 n1 n2 n3 n4 n5 n6 : Bool} {by_ lot more one other rows w : D} {μ : List Cell} {a12 a15 : DL.Slot}  : q_23 (Sz n r n0 n1 n2 n3 n4 n5 n6 by_ lot more one other rows w a12 (.own (.lst [.str (fstW [(cw w, n0), ("row", n1), ("row", n2)]), .str (fstW [(cw w, n0), ("operation", n6), ("row", n1)]), .str (fstW [(cw w, n0), ("row", n1), ("row", n2)]), .str (fstW [(cw w, n0), ("row", n1)]), .str (fstW [(cw w, n0), ("row", n5)]), .str (fstW [(cw w, n0), ("lot", n3), ("row", n1)]), .str (fstW [(cw w, n0), ("lot", n3), ("lot", n4)]), .str (fstW [(cw w, n0), ("lot", n3), ("lot", n4)]), .str (fstW [(cw w, n0), ("lot", n3)]), .str (fstW [(cw w, n0), ("row", n5), ("row", n1)]), .str (fstW [(cw w, n0)]), .str (fstW [(cw w, n0)])])) a15 μ) = .nx (Sz n r n0 n1 n2 n3 n4 n5 n6 by_ lot more one other rows w a12 (.val (.lst [.str (fstW [(cw w, n0), ("row", n1), ("row", n2)]), .str (fstW [(cw w, n0), ("operation", n6), ("row", n1)]), .str (fstW [(cw w, n0), ("row", n1), ("row", n2)]), .str (fstW [(cw w, n0), ("row", n1)]), .str (fstW [(cw w, n0), ("row", n5)]), .str (fstW [(cw w, n0), ("lot", n3), ("row", n1)]), .str (fstW [(cw w, n0), ("lot", n3), ("lot", n4)]), .str (fstW [(cw w, n0), ("lot", n3), ("lot", n4)]), .str (fstW [(cw w, n0), ("lot", n3)]), .str (fstW [(cw w, n0), ("row", n5), ("row", n1)]), .str (fstW [(cw w, n0)]), .str (fstW [(cw w, n0)]), .str (fstW [(cw w, n0), ("row", n5), ("row", n1)])])) a15 μ) :=
  frzS_ok (apd_ok (V := [.str (fstW [(cw w, n0), ("row", n1), ("row", n2)]), .str (fstW [(cw w, n0), ("operation", n6), ("row", n1)]), .str (fstW [(cw w, n0), ("row", n1), ("row", n2)]), .str (fstW [(cw w, n0), ("row", n1)]), .str (fstW [(cw w, n0), ("row", n5)]), .str (fstW [(cw w, n0), ("lot", n3), ("row", n1)]), .str (fstW [(cw w, n0), ("lot", n3), ("lot", n4)]), .str (fstW [(cw w, n0), ("lot", n3), ("lot", n4)]), .str (fstW [(cw w, n0), ("lot", n3)]), .str (fstW [(cw w, n0), ("row", n5), ("row", n1)]), .str (fstW [(cw w, n0)]), .str (fstW [(cw w, n0)])]) rfl u_12 rfl (by show 12 < 16777216; decide) rfl) rfl
theorem all_str {n0 n1 n2 n3 n4 n5 n6 : Bool} {w : D} (kcw : PyData.strOk (cw w) = true) : ([(fstW [(cw w, n0), ("row", n1), ("row", n2)]), (fstW [(cw w, n0), ("operation", n6), ("row", n1)]), (fstW [(cw w, n0), ("row", n1), ("row", n2)]), (fstW [(cw w, n0), ("row", n1)]), (fstW [(cw w, n0), ("row", n5)]), (fstW [(cw w, n0), ("lot", n3), ("row", n1)]), (fstW [(cw w, n0), ("lot", n3), ("lot", n4)]), (fstW [(cw w, n0), ("lot", n3), ("lot", n4)]), (fstW [(cw w, n0), ("lot", n3)]), (fstW [(cw w, n0), ("row", n5), ("row", n1)]), (fstW [(cw w, n0)]), (fstW [(cw w, n0)]), (fstW [(cw w, n0), ("row", n5), ("row", n1)])] : List Str).all PyData.strOk = true := by
  have f0 : PyData.strOk (fstW [(cw w, n0), ("row", n1), ("row", n2)]) = true := (fstW_ok (by simp only [List.all_cons, List.all_nil, kcw, ok_row, ok_lot, ok_op, Bool.and_self]))
  have f1 : PyData.strOk (fstW [(cw w, n0), ("operation", n6), ("row", n1)]) = true := (fstW_ok (by simp only [List.all_cons, List.all_nil, kcw, ok_row, ok_lot, ok_op, Bool.and_self]))
  have f2 : PyData.strOk (fstW [(cw w, n0), ("row", n1), ("row", n2)]) = true := (fstW_ok (by simp only [List.all_cons, List.all_nil, kcw, ok_row, ok_lot, ok_op, Bool.and_self]))
  have f3 : PyData.strOk (fstW [(cw w, n0), ("row", n1)]) = true := (fstW_ok (by simp only [List.all_cons, List.all_nil, kcw, ok_row, ok_lot, ok_op, Bool.and_self]))
  have f4 : PyData.strOk (fstW [(cw w, n0), ("row", n5)]) = true := (fstW_ok (by simp only [List.all_cons, List.all_nil, kcw, ok_row, ok_lot, ok_op, Bool.and_self]))
  have f5 : PyData.strOk (fstW [(cw w, n0), ("lot", n3), ("row", n1)]) = true := (fstW_ok (by simp only [List.all_cons, List.all_nil, kcw, ok_row, ok_lot, ok_op, Bool.and_self]))
  have f6 : PyData.strOk (fstW [(cw w, n0), ("lot", n3), ("lot", n4)]) = true := (fstW_ok (by simp only [List.all_cons, List.all_nil, kcw, ok_row, ok_lot, ok_op, Bool.and_self]))
  have f7 : PyData.strOk (fstW [(cw w, n0), ("lot", n3), ("lot", n4)]) = true := (fstW_ok (by simp only [List.all_cons, List.all_nil, kcw, ok_row, ok_lot, ok_op, Bool.and_self]))
  have f8 : PyData.strOk (fstW [(cw w, n0), ("lot", n3)]) = true := (fstW_ok (by simp only [List.all_cons, List.all_nil, kcw, ok_row, ok_lot, ok_op, Bool.and_self]))
  have f9 : PyData.strOk (fstW [(cw w, n0), ("row", n5), ("row", n1)]) = true := (fstW_ok (by simp only [List.all_cons, List.all_nil, kcw, ok_row, ok_lot, ok_op, Bool.and_self]))
  have f10 : PyData.strOk (fstW [(cw w, n0)]) = true := (fstW_ok (by simp only [List.all_cons, List.all_nil, kcw, ok_row, ok_lot, ok_op, Bool.and_self]))
  have f11 : PyData.strOk (fstW [(cw w, n0)]) = true := (fstW_ok (by simp only [List.all_cons, List.all_nil, kcw, ok_row, ok_lot, ok_op, Bool.and_self]))
  have f12 : PyData.strOk (fstW [(cw w, n0), ("row", n5), ("row", n1)]) = true := (fstW_ok (by simp only [List.all_cons, List.all_nil, kcw, ok_row, ok_lot, ok_op, Bool.and_self]))
  simp only [List.all_cons, List.all_nil, f0, f1, f2, f3, f4, f5, f6, f7, f8, f9, f10, f11, f12, Bool.and_self]
theorem e_24 {n r : Nat} {n0 n1 n2 n3 n4 n5 n6 : Bool} {by_ lot more one other rows w : D} {μ : List Cell} {a15 : DL.Slot} (kcw : PyData.strOk (cw w) = true) : q_24 (Sz n r n0 n1 n2 n3 n4 n5 n6 by_ lot more one other rows w (.val (.lst [.str (fstW [(cw w, n0), ("row", n1), ("row", n2)]), .str (fstW [(cw w, n0), ("operation", n6), ("row", n1)]), .str (fstW [(cw w, n0), ("row", n1), ("row", n2)]), .str (fstW [(cw w, n0), ("row", n1)]), .str (fstW [(cw w, n0), ("row", n5)]), .str (fstW [(cw w, n0), ("lot", n3), ("row", n1)]), .str (fstW [(cw w, n0), ("lot", n3), ("lot", n4)]), .str (fstW [(cw w, n0), ("lot", n3), ("lot", n4)]), .str (fstW [(cw w, n0), ("lot", n3)]), .str (fstW [(cw w, n0), ("row", n5), ("row", n1)]), .str (fstW [(cw w, n0)]), .str (fstW [(cw w, n0)]), .str (fstW [(cw w, n0), ("row", n5), ("row", n1)])])) (.val (.lst [.str (fstW [(cw w, n0), ("row", n1), ("row", n2)]), .str (fstW [(cw w, n0), ("operation", n6), ("row", n1)]), .str (fstW [(cw w, n0), ("row", n1), ("row", n2)]), .str (fstW [(cw w, n0), ("row", n1)]), .str (fstW [(cw w, n0), ("row", n5)]), .str (fstW [(cw w, n0), ("lot", n3), ("row", n1)]), .str (fstW [(cw w, n0), ("lot", n3), ("lot", n4)]), .str (fstW [(cw w, n0), ("lot", n3), ("lot", n4)]), .str (fstW [(cw w, n0), ("lot", n3)]), .str (fstW [(cw w, n0), ("row", n5), ("row", n1)]), .str (fstW [(cw w, n0)]), .str (fstW [(cw w, n0)]), .str (fstW [(cw w, n0), ("row", n5), ("row", n1)])])) a15 μ) = .rt (.bl true) (Sz n r n0 n1 n2 n3 n4 n5 n6 by_ lot more one other rows w (.val (.lst [.str (fstW [(cw w, n0), ("row", n1), ("row", n2)]), .str (fstW [(cw w, n0), ("operation", n6), ("row", n1)]), .str (fstW [(cw w, n0), ("row", n1), ("row", n2)]), .str (fstW [(cw w, n0), ("row", n1)]), .str (fstW [(cw w, n0), ("row", n5)]), .str (fstW [(cw w, n0), ("lot", n3), ("row", n1)]), .str (fstW [(cw w, n0), ("lot", n3), ("lot", n4)]), .str (fstW [(cw w, n0), ("lot", n3), ("lot", n4)]), .str (fstW [(cw w, n0), ("lot", n3)]), .str (fstW [(cw w, n0), ("row", n5), ("row", n1)]), .str (fstW [(cw w, n0)]), .str (fstW [(cw w, n0)]), .str (fstW [(cw w, n0), ("row", n5), ("row", n1)])])) (.val (.lst [.str (fstW [(cw w, n0), ("row", n1), ("row", n2)]), .str (fstW [(cw w, n0), ("operation", n6), ("row", n1)]), .str (fstW [(cw w, n0), ("row", n1), ("row", n2)]), .str (fstW [(cw w, n0), ("row", n1)]), .str (fstW [(cw w, n0), ("row", n5)]), .str (fstW [(cw w, n0), ("lot", n3), ("row", n1)]), .str (fstW [(cw w, n0), ("lot", n3), ("lot", n4)]), .str (fstW [(cw w, n0), ("lot", n3), ("lot", n4)]), .str (fstW [(cw w, n0), ("lot", n3)]), .str (fstW [(cw w, n0), ("row", n5), ("row", n1)]), .str (fstW [(cw w, n0)]), .str (fstW [(cw w, n0)]), .str (fstW [(cw w, n0), ("row", n5), ("row", n1)])])) a15 μ) :=
  ret_eq (x := .lst (([(fstW [(cw w, n0), ("row", n1), ("row", n2)]), (fstW [(cw w, n0), ("operation", n6), ("row", n1)]), (fstW [(cw w, n0), ("row", n1), ("row", n2)]), (fstW [(cw w, n0), ("row", n1)]), (fstW [(cw w, n0), ("row", n5)]), (fstW [(cw w, n0), ("lot", n3), ("row", n1)]), (fstW [(cw w, n0), ("lot", n3), ("lot", n4)]), (fstW [(cw w, n0), ("lot", n3), ("lot", n4)]), (fstW [(cw w, n0), ("lot", n3)]), (fstW [(cw w, n0), ("row", n5), ("row", n1)]), (fstW [(cw w, n0)]), (fstW [(cw w, n0)]), (fstW [(cw w, n0), ("row", n5), ("row", n1)])] : List Str).map .str)) (y := .lst (([(fstW [(cw w, n0), ("row", n1), ("row", n2)]), (fstW [(cw w, n0), ("operation", n6), ("row", n1)]), (fstW [(cw w, n0), ("row", n1), ("row", n2)]), (fstW [(cw w, n0), ("row", n1)]), (fstW [(cw w, n0), ("row", n5)]), (fstW [(cw w, n0), ("lot", n3), ("row", n1)]), (fstW [(cw w, n0), ("lot", n3), ("lot", n4)]), (fstW [(cw w, n0), ("lot", n3), ("lot", n4)]), (fstW [(cw w, n0), ("lot", n3)]), (fstW [(cw w, n0), ("row", n5), ("row", n1)]), (fstW [(cw w, n0)]), (fstW [(cw w, n0)]), (fstW [(cw w, n0), ("row", n5), ("row", n1)])] : List Str).map .str)) (var_ok rfl) (var_ok rfl) (eq_strs _ _ (all_str kcw))
theorem tail_ok {n r : Nat} {n0 n1 n2 n3 n4 n5 n6 : Bool} {by_ lot more one other rows w : D} {μ : List Cell} {a12 a13 a15 : DL.Slot} (h1 : 1 ≤ r) (h4 : r ≤ 4) (hw : Ch (.int (r : Nat)) badW w n0) (hone : Ch (rep r (.int 2)) (badR r) one n1) (hother : Ch (rep r (.int 0)) (badR r) other n2) (hlot : Ch (.tup [rep r (.int 1)]) (badL r) lot n3) (hmore : Ch (.tup []) (badL r) more n4) (hrows : Ch (.tup [rep r (.int 3)]) (badM r) rows n5) (hby : Ch (.int (-4)) badB by_ n6)
    (kw : noOwn w = true) (kone : noOwn one = true) (kother : noOwn other = true) (klot : noOwn lot = true) (kmore : noOwn more = true) (krows : noOwn rows = true) (kby : noOwn by_ = true) (an : AN n μ) : ∃ s : S, (dSeq q_11 (dSeq q_12 (dSeq q_13 (dSeq q_14 (dSeq q_15 (dSeq q_16 (dSeq q_17 (dSeq q_18 (dSeq q_19 (dSeq q_20 (dSeq q_21 (dSeq q_22 (dSeq q_23 q_24))))))))))))) (Sz n r n0 n1 n2 n3 n4 n5 n6 by_ lot more one other rows w a12 a13 a15 μ) = .rt (.bl true) s ∧ s.μ = μ := by
  have kcw : PyData.strOk (cw w) = true := List.all_eq_true.mp str_all w (wl_of h1 h4 hw)
  exact ⟨_, ((seq_nx (e_11 h1 h4 hw hone hother hlot hmore hrows hby kw kone kother klot kmore krows kby an)).trans ((seq_nx (e_12)).trans ((seq_nx (e_13 h1 h4 hw hone hother hlot hmore hrows hby kw kone kother klot kmore krows kby an)).trans ((seq_nx (e_14)).trans ((seq_nx (e_15 h1 h4 hw hone hother hlot hmore hrows hby kw kone kother klot kmore krows kby an)).trans ((seq_nx (e_16)).trans ((seq_nx (e_17 h1 h4 hw hone hother hlot hmore hrows hby kw kone kother klot kmore krows kby an)).trans ((seq_nx (e_18 h1 h4 hw hone hother hlot hmore hrows hby kw kone kother klot kmore krows kby an)).trans ((seq_nx (e_19)).trans ((seq_nx (e_20 h1 h4 hw hone hother hlot hmore hrows hby kw kone kother klot kmore krows kby an)).trans ((seq_nx (e_21)).trans ((seq_nx (e_22 h1 h4 hw hone hother hlot hmore hrows hby kw kone kother klot kmore krows kby an)).trans ((seq_nx (e_23)).trans (e_24 kcw)))))))))))))), rfl⟩
end K14

namespace K14
open PySem PySem.Spec PyProof.Rows L2 DL
theorem runF_at2 {b : FS} {n : Nat} {ds : List D} {μ : List Cell} {s0 s : S} {v : D} (h0 : (⟨ds.map .val ++ List.replicate (n - ds.length) .no, μ⟩ : S) = s0) (h : b s0 = .rt v s) : runF b n ds μ = .ok v s.μ := by
  rw [← h0] at h
  exact runF_rt h
theorem L_right_ok {n k : Nat} {μ : List Cell} (d : Dc k n μ) (hk : k ≤ 80000) : ∃ μ', Dc (k + 15) n μ' ∧ F_L_right [.ref n] μ = .ok (.bl true) μ' := by
  obtain ⟨q, μ0, e0, hq, d0⟩ := roll_ok (t := 4) d (by omega) (by decide) (by decide)
  have ea : ∀ s : S, gAdd s (.int 1) (.int (q : Nat)) = some (.int ((1 + q : Nat) : Int)) := fun s => by rw [add_ii]; congr 2
  have q1 : dCall F_L_roll (dCons (dVar 0) (dCons (dC (.int (4))) dNil)) (Sr n .no .no .no .no .no .no .no .no .no .no .no .no .no .no .no .no .no .no .no .no .no μ) = .ok (.int (q : Nat)) (Sr n .no .no .no .no .no .no .no .no .no .no .no .no .no .no .no .no .no .no .no .no .no μ0) := call_okμ (s1 := (Sr n .no .no .no .no .no .no .no .no .no .no .no .no .no .no .no .no .no .no .no .no .no μ)) (ds := [.ref n, .int 4]) rfl rfl e0
  have E0 : q_0 (Sr n .no .no .no .no .no .no .no .no .no .no .no .no .no .no .no .no .no .no .no .no .no μ) = .nx (Sr n (.val (.int ((1 + q : Nat) : Int))) .no .no .no .no .no .no .no .no .no .no .no .no .no .no .no .no .no .no .no .no μ0) := asg_okμ (i := 1) (op_ok c_ok q1 (ea _)) rfl
  have h1 : 1 ≤ 1 + q := by omega
  have h4 : 1 + q ≤ 4 := by omega
  generalize 1 + q = r at E0 h1 h4
  obtain ⟨w, n0, μ1, hw, kw, d1, E1⟩ := dr_1 (n := n) (a2 := .no) (a3 := .no) (a4 := .no) (a5 := .no) (a6 := .no) (a7 := .no) (a8 := .no) (a9 := .no) (a10 := .no) (a11 := .no) (a12 := .no) (a13 := .no) (a14 := .no) (a15 := .no) (a16 := .no) (a17 := .no) (a18 := .no) (a19 := .no) (a20 := .no) (a21 := .no) h1 h4 d0 (by omega)
  have E2 := as_2 (n := n) (μ := μ1) (a2 := .val (.bl n0)) (a3 := .no) (a4 := .no) (a5 := .no) (a6 := .no) (a7 := .no) (a8 := .no) (a9 := .no) (a10 := .no) (a11 := .no) (a12 := .no) (a13 := .no) (a14 := .no) (a15 := .no) (a16 := .no) (a17 := .no) (a18 := .no) (a19 := .no) (a20 := .no) (a21 := .val w) h1 h4
  obtain ⟨one, n1, μ2, hone, kone, d2, E3⟩ := dr_3 (n := n) (a2 := .val (.bl n0)) (a4 := .no) (a5 := .no) (a6 := .no) (a7 := .no) (a8 := .no) (a9 := .no) (a10 := .no) (a11 := .no) (a12 := .no) (a13 := .no) (a14 := .no) (a15 := .no) (a16 := .no) (a17 := .no) (a18 := .no) (a19 := .no) (a20 := .no) (a21 := .val w) h1 h4 d1 (by omega)
  obtain ⟨other, n2, μ3, hother, kother, d3, E4⟩ := dr_4 (n := n) (a2 := .val (.bl n0)) (a4 := .val (.bl n1)) (a5 := .no) (a6 := .no) (a7 := .no) (a8 := .no) (a9 := .no) (a10 := .no) (a11 := .no) (a12 := .no) (a13 := .no) (a14 := .no) (a15 := .no) (a16 := .no) (a17 := .no) (a18 := .val one) (a19 := .no) (a20 := .no) (a21 := .val w) h1 h4 d2 (by omega)
  have E5 := as_5 (n := n) (μ := μ3) (a2 := .val (.bl n0)) (a3 := .val (.lst (badR r))) (a4 := .val (.bl n1)) (a5 := .val (.bl n2)) (a6 := .no) (a7 := .no) (a8 := .no) (a9 := .no) (a10 := .no) (a11 := .no) (a12 := .no) (a13 := .no) (a14 := .no) (a15 := .no) (a16 := .no) (a17 := .no) (a18 := .val one) (a19 := .val other) (a20 := .no) (a21 := .val w) h1 h4
  obtain ⟨lot, n3, μ4, hlot, klot, d4, E6⟩ := dr_6 (n := n) (a2 := .val (.bl n0)) (a3 := .val (.lst (badR r))) (a4 := .val (.bl n1)) (a5 := .val (.bl n2)) (a7 := .no) (a8 := .no) (a9 := .no) (a10 := .no) (a11 := .no) (a12 := .no) (a13 := .no) (a14 := .no) (a15 := .no) (a16 := .no) (a17 := .no) (a18 := .val one) (a19 := .val other) (a20 := .no) (a21 := .val w) h1 h4 d3 (by omega)
  obtain ⟨more, n4, μ5, hmore, kmore, d5, E7⟩ := dr_7 (n := n) (a2 := .val (.bl n0)) (a3 := .val (.lst (badR r))) (a4 := .val (.bl n1)) (a5 := .val (.bl n2)) (a7 := .val (.bl n3)) (a8 := .no) (a9 := .no) (a10 := .no) (a11 := .no) (a12 := .no) (a13 := .no) (a14 := .no) (a15 := .no) (a16 := .val lot) (a17 := .no) (a18 := .val one) (a19 := .val other) (a20 := .no) (a21 := .val w) h1 h4 d4 (by omega)
  obtain ⟨rows, n5, μ6, hrows, krows, d6, E8⟩ := dr_8 (n := n) (a2 := .val (.bl n0)) (a3 := .val (.lst (badR r))) (a4 := .val (.bl n1)) (a5 := .val (.bl n2)) (a6 := .val (.lst (badL r))) (a7 := .val (.bl n3)) (a8 := .val (.bl n4)) (a9 := .no) (a10 := .no) (a11 := .no) (a12 := .no) (a13 := .no) (a14 := .no) (a15 := .no) (a16 := .val lot) (a17 := .val more) (a18 := .val one) (a19 := .val other) (a20 := .no) (a21 := .val w) h1 h4 d5 (by omega)
  obtain ⟨by_, n6, μ7, hby, kby, d7, E9⟩ := dr_9 (n := n) (a2 := .val (.bl n0)) (a3 := .val (.lst (badR r))) (a4 := .val (.bl n1)) (a5 := .val (.bl n2)) (a6 := .val (.lst (badL r))) (a7 := .val (.bl n3)) (a8 := .val (.bl n4)) (a9 := .val (.bl n5)) (a10 := .no) (a11 := .no) (a12 := .no) (a13 := .no) (a14 := .no) (a15 := .no) (a16 := .val lot) (a17 := .val more) (a18 := .val one) (a19 := .val other) (a20 := .val rows) (a21 := .val w) h1 h4 d6 (by omega)
  have E10 := as_10 (n := n) (μ := μ7) (a1 := .val (.int (r : Nat))) (a3 := .val (.lst (badR r))) (a4 := .val (.bl n1)) (a5 := .val (.bl n2)) (a6 := .val (.lst (badL r))) (a7 := .val (.bl n3)) (a8 := .val (.bl n4)) (a9 := .val (.bl n5)) (a10 := .val (.bl n6)) (a11 := .no) (a12 := .no) (a13 := .no) (a14 := .val by_) (a15 := .no) (a16 := .val lot) (a17 := .val more) (a18 := .val one) (a19 := .val other) (a20 := .val rows) h1 h4 hw
  obtain ⟨s, E11, hs⟩ := tail_ok (a12 := .no) (a13 := .no) (a15 := .no) h1 h4 hw hone hother hlot hmore hrows hby kw kone kother klot kmore krows kby d7.2
  have key : b_L_right (Sr n .no .no .no .no .no .no .no .no .no .no .no .no .no .no .no .no .no .no .no .no .no μ) = .rt (.bl true) s := by
    rw [right_parts]
    exact ((seq_nx E0).trans ((seq_nx E1).trans ((seq_nx E2).trans ((seq_nx E3).trans ((seq_nx E4).trans ((seq_nx E5).trans ((seq_nx E6).trans ((seq_nx E7).trans ((seq_nx E8).trans ((seq_nx E9).trans ((seq_nx E10).trans E11)))))))))))
  have h0 : (⟨[D.ref n].map .val ++ List.replicate (22 - [D.ref n].length) .no, μ⟩ : S) = (Sr n .no .no .no .no .no .no .no .no .no .no .no .no .no .no .no .no .no .no .no .no .no μ) := by kernel_rfl
  refine ⟨μ7, d7.mono (by omega), ?_⟩
  rw [← hs]
  exact runF_at2 h0 key
end K14

namespace K14
open PySem PySem.Spec PyProof.Rows L2 DL
/-! ### the law -/
def outR : FA := (dRng1 (dCons (dB gMax2 (dCons (dC (.int (1))) (dCons (dB gMin2 (dCons (dC (.int (6))) (dCons (dB gLen (dCons (dVar 0) dNil)) dNil))) dNil))) dNil))
def forB : FS := (dIfS (dNotT (dTruth (dCall F_L_right (dCons (dVar 2) dNil)))) (dRet (dC (.bl false))) dSkip)
def outB : FS := (dSeq (dAsgR 2 (dCallF F_L_dice (dCons (dVar 0) (dCons (dVar 1) dNil)))) (dForI (dRng1 (dCons (dC (.int (6))) dNil)) (gNm 3) forB))
def toldA : FS := (dAsg 4 (dFrz (dLst (dCons (dMet 2 sub cl_L_met "fine" (dCall F_lowest (dCons (dC (.int (60))) (dCons (dOp gMul (dTup (dCons (dC (.int (1))) dNil)) (dC (.int (60)))) dNil)))) (dCons (dMet 2 sub cl_L_met "fine" (dCall F_lowest (dCons (dC (.int (1))) (dCons (dTup (dCons (dC (.int (0))) dNil)) dNil)))) (dCons (dMet 2 sub cl_L_met "fine" (dCall F_lot_of (dCons (dC (.int (3))) (dCons (dTup dNil) dNil)))) dNil))))))
def toldR : FS := (dRet (dAndV (dOp eqS (dC (.int (60))) (dC (.int (60)))) (dOp eqS (dVar 4) (dFrz (dRepF (dLst (dCons (dC (.str "fine")) dNil)) (dC (.int (3))))))))
theorem law_parts : b_law = dSeq (dForI outR (gNm 1) outB) (dSeq toldA toldR) := rfl
abbrev Sl (xs : List D) (a1 a2 a3 a4 : DL.Slot) (μ : List Cell) : S := ⟨[.val (.lst xs), a1, a2, a3, a4], μ⟩
/-- between the turns -/
def Mu (μ : List Cell) : Prop := μ.all nLc = true ∧ tabsOk 2 μ = true ∧ 2 ≤ μ.length
theorem Dc.mu {k n : Nat} {μ : List Cell} (h : Dc k n μ) : Mu μ := by
  obtain ⟨⟨a, b, c, h1, _⟩, h2, h3, h4⟩ := h
  have := (List.getElem?_eq_some_iff.mp h1).1
  exact ⟨h2, h3, by omega⟩
theorem forB_ok {xs : List D} {n k : Nat} {a1 a3 : DL.Slot} {μ : List Cell} (h : Dc k n μ) (hk : k ≤ 18000) : ∃ μ', Dc (k + 15) n μ' ∧ forB (Sl xs a1 (.val (.ref n)) a3 .no μ) = .nx (Sl xs a1 (.val (.ref n)) a3 .no μ') := by
  obtain ⟨μ2, d2, e2⟩ := L_right_ok h (by omega)
  refine ⟨μ2, d2, ?_⟩
  have q2 : dCall F_L_right (dCons (dVar 2) dNil) (Sl xs a1 (.val (.ref n)) a3 .no μ) = .ok (.bl true) (Sl xs a1 (.val (.ref n)) a3 .no μ2) := call_okμ (s1 := Sl xs a1 (.val (.ref n)) a3 .no μ) (cons_ok (var_ok rfl) nil_ok) rfl e2
  unfold forB
  exact ifS_no (not_ok (truth_ok q2))
theorem in_loop {xs : List D} {n : Nat} {a1 : DL.Slot} : ∀ (ds : List D) (k : Nat) (a3 : DL.Slot) (μ : List Cell), Dc k n μ → k + 15 * ds.length ≤ 18000 → ∃ (d3 : DL.Slot) (μ' : List Cell), Mu μ' ∧ dFor (gNm 3) forB ds (Sl xs a1 (.val (.ref n)) a3 .no μ) = .nx (Sl xs a1 (.val (.ref n)) d3 .no μ')
  | [], k, a3, μ, h, _ => ⟨a3, μ, h.mu, for_nil⟩
  | d :: ds, k, a3, μ, h, hk => by
    rw [List.length_cons] at hk
    obtain ⟨μ1, d1, e1⟩ := forB_ok (xs := xs) (a1 := a1) (a3 := .val d) h (by omega)
    obtain ⟨d3, μ', hn, e⟩ := in_loop ds (k + 15) (.val d) μ1 d1 (by omega)
    exact ⟨d3, μ', hn, for_nx rfl e1 e⟩
theorem tab_app {μ : List Cell} {c : Cell} (h : tabsOk 2 μ = true) (hl : 2 ≤ μ.length) : tabsOk 2 (μ ++ [c]) = true := by
  have h0 := tabs_at h (i := 0) (by decide)
  have h1 := tabs_at h (i := 1) (by decide)
  have e0 : (μ ++ [c])[0]? = some (.tab 0) := by rw [List.getElem?_append_left (by omega)]; exact h0
  have e1 : (μ ++ [c])[1]? = some (.tab 1) := by rw [List.getElem?_append_left (by omega)]; exact h1
  show ((match (μ ++ [c])[0]? with | some c => isTab 0 c | none => false) && ((match (μ ++ [c])[1]? with | some c => isTab 1 c | none => false) && true)) = true
  rw [e0, e1]; rfl
theorem outB_ok {xs : List Int} {i : Nat} {a2 a3 : DL.Slot} {μ : List Cell} (hl : xs.length ≤ 63) (hi : i ≤ 6) (hn : Mu μ) : ∃ (d2 d3 : DL.Slot) (μ' : List Cell), Mu μ' ∧ outB (Sl (xs.map .int) (.val (.int (i : Nat))) a2 a3 .no μ) = .nx (Sl (xs.map .int) (.val (.int (i : Nat))) d2 d3 .no μ') := by
  obtain ⟨p, q, e1⟩ := dice_ok (i := i) (μ := μ) hl hi
  have hd : Dc 0 μ.length (μ ++ [.lst [.int p, .int q, .int 0]]) := ⟨⟨p, q, 0, by simp, by omega, by omega⟩, by rw [List.all_append, hn.1]; rfl, tab_app hn.2.1 hn.2.2, hn.2.2⟩
  obtain ⟨d3, μ', hn', e2⟩ := in_loop (xs := xs.map .int) (a1 := .val (.int (i : Nat))) (rngD 0 6) 0 a3 _ hd (by decide)
  refine ⟨.val (.ref μ.length), d3, μ', hn', ?_⟩
  have g1 : dAsgR 2 (dCallF F_L_dice (dCons (dVar 0) (dCons (dVar 1) dNil))) (Sl (xs.map .int) (.val (.int (i : Nat))) a2 a3 .no μ) = .nx (Sl (xs.map .int) (.val (.int (i : Nat))) (.val (.ref μ.length)) a3 .no (μ ++ [.lst [.int p, .int q, .int 0]])) :=
    asgR_ok (callF_ok (s1 := Sl (xs.map .int) (.val (.int (i : Nat))) a2 a3 .no μ) (cons_ok (var_ok rfl) (cons_ok (var_ok rfl) nil_ok)) rfl e1)
  have er : dRng1 (dCons (dC (.int (6))) dNil) (Sl (xs.map .int) (.val (.int (i : Nat))) (.val (.ref μ.length)) a3 .no (μ ++ [.lst [.int p, .int q, .int 0]])) = .ok (rngD 0 6) (Sl (xs.map .int) (.val (.int (i : Nat))) (.val (.ref μ.length)) a3 .no (μ ++ [.lst [.int p, .int q, .int 0]])) := rfl
  unfold outB
  exact (seq_nx g1).trans (for_it er e2)
theorem out_loop {xs : List Int} (hl : xs.length ≤ 63) : ∀ (is : List Nat) (a1 a2 a3 : DL.Slot) (μ : List Cell), (∀ i ∈ is, i ≤ 6) → Mu μ → ∃ (d1 d2 d3 : DL.Slot) (μ' : List Cell), Mu μ' ∧ dFor (gNm 1) outB (is.map fun (i : Nat) => D.int i) (Sl (xs.map .int) a1 a2 a3 .no μ) = .nx (Sl (xs.map .int) d1 d2 d3 .no μ')
  | [], a1, a2, a3, μ, _, hn => ⟨a1, a2, a3, μ, hn, for_nil⟩
  | i :: is, a1, a2, a3, μ, h, hn => by
    obtain ⟨d2, d3, μ1, hn1, e1⟩ := outB_ok (xs := xs) (a2 := a2) (a3 := a3) hl (h i (by simp)) hn
    obtain ⟨b1, b2, b3, μ', hn', e⟩ := out_loop hl is (.val (.int (i : Nat))) d2 d3 μ1 (fun j hj => h j (by simp [hj])) hn1
    refine ⟨b1, b2, b3, μ', hn', ?_⟩
    rw [List.map_cons]
    exact for_nx rfl e1 e
theorem rng_ints (n : Nat) : rngD 0 n = (List.range n).map fun (i : Nat) => D.int i := by simp [rngD]
theorem outR_ok {xs : List Int} (hl : xs.length ≤ 63) {μ : List Cell} : ∃ n : Nat, n ≤ 6 ∧ outR (Sl (xs.map .int) .no .no .no .no μ) = .ok ((List.range n).map fun (i : Nat) => D.int i) (Sl (xs.map .int) .no .no .no .no μ) := by
  refine ⟨max 1 (min 6 xs.length), by omega, ?_⟩
  have e1 : dB gLen (dCons (dVar 0) dNil) (Sl (xs.map .int) .no .no .no .no μ) = .ok (.int (xs.length : Nat)) (Sl (xs.map .int) .no .no .no .no μ) := len_ok (var_ok rfl) (by
    show some (D.int (((xs.map D.int).length : Nat) : Int)) = _
    rw [List.length_map])
  have e2 : dB gMin2 (dCons (dC (.int (6))) (dCons (dB gLen (dCons (dVar 0) dNil)) dNil)) (Sl (xs.map .int) .no .no .no .no μ) = .ok (.int (min 6 xs.length : Nat)) (Sl (xs.map .int) .no .no .no .no μ) := b_ok (cons_ok c_ok (cons_ok e1 nil_ok)) (by
    show some (D.int (if (xs.length : Int) < 6 then (xs.length : Int) else 6)) = _
    congr 2
    split <;> omega)
  have e3 : dB gMax2 (dCons (dC (.int (1))) (dCons (dB gMin2 (dCons (dC (.int (6))) (dCons (dB gLen (dCons (dVar 0) dNil)) dNil))) dNil)) (Sl (xs.map .int) .no .no .no .no μ) = .ok (.int (max 1 (min 6 xs.length) : Nat)) (Sl (xs.map .int) .no .no .no .no μ) := b_ok (cons_ok c_ok (cons_ok e2 nil_ok)) (by
    show some (D.int (if ((min 6 xs.length : Nat) : Int) > 1 then ((min 6 xs.length : Nat) : Int) else 1)) = _
    congr 2
    split <;> omega)
  have := rng_gen (cons_ok e3 nil_ok) (small_w (w := max 1 (min 6 xs.length)) (by omega))
  rw [Int.toNat_natCast, rng_ints] at this
  exact this
theorem lo60 (μ : List Cell) : okM (F_lowest [.int 60, rep 60 (.int 1)] μ) μ = (μ = μ) := by kernel_rfl
theorem lo1 (μ : List Cell) : okM (F_lowest [.int 1, .tup [.int 0]] μ) μ = (μ = μ) := by kernel_rfl
theorem lot3 (μ : List Cell) : okM (G_lot_of [.int 3, .tup []] μ) μ = (μ = μ) := by kernel_rfl
theorem toldA_ok {xs : List D} {a1 a2 a3 : DL.Slot} {μ : List Cell} (hn : Mu μ) : toldA (Sl xs a1 a2 a3 .no μ) = .nx (Sl xs a1 a2 a3 (.val (.lst [.str "fine", .str "fine", .str "fine"])) μ) := by
  have q1 : dMet 2 sub cl_L_met "fine" (dCall F_lowest (dCons (dC (.int (60))) (dCons (dOp gMul (dTup (dCons (dC (.int (1))) dNil)) (dC (.int (60)))) dNil))) (Sl xs a1 a2 a3 .no μ) = .ok (.str "fine") (Sl xs a1 a2 a3 .no μ) :=
    met_ok (ds := [.int 60, rep 60 (.int 1)]) (o := none) hn.2.1 (by kernel_rfl) rfl (out_ok (lo60 μ)) rfl
  have q2 : dMet 2 sub cl_L_met "fine" (dCall F_lowest (dCons (dC (.int (1))) (dCons (dTup (dCons (dC (.int (0))) dNil)) dNil))) (Sl xs a1 a2 a3 .no μ) = .ok (.str "fine") (Sl xs a1 a2 a3 .no μ) :=
    met_ok (ds := [.int 1, .tup [.int 0]]) (o := none) hn.2.1 (by kernel_rfl) rfl (out_ok (lo1 μ)) rfl
  have q3 : dMet 2 sub cl_L_met "fine" (dCall F_lot_of (dCons (dC (.int (3))) (dCons (dTup dNil) dNil))) (Sl xs a1 a2 a3 .no μ) = .ok (.str "fine") (Sl xs a1 a2 a3 .no μ) :=
    met_ok (ds := [.int 3, .tup []]) (o := none) hn.2.1 (by kernel_rfl) rfl (by rw [e_lot_of]; exact out_ok (lot3 μ)) rfl
  exact asg_ok (i := 4) (frzE_ok (lst_ok (cons_ok q1 (cons_ok q2 (cons_ok q3 nil_ok))) rfl (by show 3 ≤ 16777216; decide))) rfl
theorem toldR_ok {xs : List D} {a1 a2 a3 : DL.Slot} {μ : List Cell} : toldR (Sl xs a1 a2 a3 (.val (.lst [.str "fine", .str "fine", .str "fine"])) μ) = .rt (.bl true) (Sl xs a1 a2 a3 (.val (.lst [.str "fine", .str "fine", .str "fine"])) μ) := by
  kernel_rfl
theorem law_holds : ∀ ns : List Int, ns.length ≤ 63 → ∃ μ, F_law [.lst (ns.map .int)] (tabs0 2) = .ok (.bl true) μ := by
  intro ns hl
  obtain ⟨n, hn6, er⟩ := outR_ok (xs := ns) hl (μ := tabs0 2)
  obtain ⟨a1, a2, a3, μ, hn, e1⟩ := out_loop hl (List.range n) .no .no .no (tabs0 2) (fun i hi => by have := List.mem_range.mp hi; omega) ⟨rfl, rfl, by decide⟩
  have g1 := for_it er e1
  have key : b_law (Sl (ns.map .int) .no .no .no .no (tabs0 2)) = .rt (.bl true) (Sl (ns.map .int) a1 a2 a3 (.val (.lst [.str "fine", .str "fine", .str "fine"])) μ) := by
    rw [law_parts]
    exact (seq_nx g1).trans ((seq_nx (toldA_ok hn)).trans toldR_ok)
  have h0 : (⟨[D.lst (ns.map .int)].map .val ++ List.replicate (5 - [D.lst (ns.map .int)].length) .no, tabs0 2⟩ : S) = Sl (ns.map .int) .no .no .no .no (tabs0 2) := by kernel_rfl
  exact ⟨μ, runF_at2 h0 key⟩
end K14

open PySem PySem.W PyProof.Rows in
set_option maxRecDepth 100000 in
set_option maxHeartbeats 0 in
theorem PySem.Challenge.cw_anywaybuilt_k14_errors_of_rows_holds : PySem.Challenge.rw_anywaybuilt_k14_errors_of_rows.Holds := by
  w_on; o_law; k_head; (case hw => w_witness2)
  k_fill
  refine' DL.walkGT (l := PySem.Challenge.rw_anywaybuilt_k14_errors_of_rows) (k := 11) [(343, 339), (350, 346)] [K14.lamQ_L_right, K14.lamQ_law] rfl (by decide) rfl ⟨rfl, by decide, by decide⟩ (fun w h Y => PySem.W.km_in_of Y) (fun w h Y p hp => PySem.W.km_tabs_of Y p.2 ?hTm) ?nT ?C ?hnd rfl ?F K14.law_holds
  case F =>
    intro w mg fa h KX G hmg base kb gb TB
    letI inst : DL.DLX := ⟨[(339, K14.lamQ_L_right), (346, K14.lamQ_law)], mg⟩
    have tb1 := TB _ (List.mem_cons_self ..)
    have tb2 := TB _ (List.mem_cons_of_mem _ (List.mem_cons_self ..))
    refine' K14.all_mk KX G ?a0 ?l0 ?c0 ?k0 ?a1 ?l1 ?c1 ?k1 ?a2 ?l2 ?c2 ?k2 ?a3 ?l3 ?c3 ?k3 ?a4 ?l4 ?c4 ?k4 ?a5 ?l5 ?c5 ?k5 ?a6 ?l6 ?c6 ?k6 ?a7 ?l7 ?c7 ?k7 ?a8 ?l8 ?c8 ?k8 ?a9 ?l9 ?c9 ?k9 ?a10 ?l10 ?c10 ?k10 ?a11 ?l11 ?c11 ?k11 ?a12 ?l12 ?c12 ?k12 ?a13 ?l13 ?c13 ?k13 ?a14 ?l14 ?c14 ?k14 ?a15 ?l15 ?c15 ?k15 ?a16 ?l16 ?c16 ?k16 ?a17 ?l17 ?c17 ?k17 ?a18 ?l18 ?c18 ?k18 ?a19 ?l19 ?c19 ?k19 ?a20 ?l20 ?c20 ?k20 ?a21 ?l21 ?c21 ?k21 ?a22 ?l22 ?c22 ?k22 ?a23 ?l23 ?c23 ?k23 ?a24 ?l24 ?c24 ?k24 ?a25 ?l25 ?c25 ?k25 ?a26 ?l26 ?c26 ?k26 ?a27 ?l27 ?c27 ?k27 ?a28 ?l28 ?c28 ?k28 ?a29 ?l29 ?c29 ?k29 ?a30 ?l30 ?c30 ?k30 ?a31 ?l31 ?c31 ?k31 ?a32 ?l32 ?c32 ?k32 ?a33 ?l33 ?c33 ?k33 ?a34 ?l34 ?c34 ?k34 ?a35 ?l35 ?c35 ?k35 ?a36 ?l36 ?c36 ?k36 ?a37 ?l37 ?c37 ?k37 ?a38 ?l38 ?c38 ?k38 ?a39 ?l39 ?c39 ?k39 ?a40 ?l40 ?c40 ?k40 ?a41 ?l41 ?c41 ?k41 ?z_abs ?z_all ?z_any ?z_bool ?z_enumerate ?z_int ?z_isinstance ?z_len ?z_max ?z_min ?z_range ?z_repr ?z_sorted ?z_str ?z_sum ?z_tuple ?z_zip ?e_APART ?e_MAX_WIDTH ?e_SUM ⟨rfl, rfl, ?sub, ?s_c, ?t_r, ?t_o, ?t_l, ?x_c, ?m_r, ?m_l, ?m_o⟩ ?m1 tb1 (List.mem_cons_self ..) ?m2 tb2 (List.mem_cons_of_mem _ (List.mem_cons_self ..))
    (case a0 => k_is)
    (case l0 => k_is)
    (case c0 => k_is)
    (case k0 => k_is)
    (case a1 => k_is)
    (case l1 => k_is)
    (case c1 => k_is)
    (case k1 => k_is)
    (case a2 => k_is)
    (case l2 => k_is)
    (case c2 => k_is)
    (case k2 => k_is)
    (case a3 => k_is)
    (case l3 => k_is)
    (case c3 => k_is)
    (case k3 => k_is)
    (case a4 => k_is)
    (case l4 => k_is)
    (case c4 => k_is)
    (case k4 => k_is)
    (case a5 => k_is)
    (case l5 => k_is)
    (case c5 => k_is)
    (case k5 => k_is)
    (case a6 => k_is)
    (case l6 => k_is)
    (case c6 => k_is)
    (case k6 => k_is)
    (case a7 => k_is)
    (case l7 => k_is)
    (case c7 => k_is)
    (case k7 => k_is)
    (case a8 => k_is)
    (case l8 => k_is)
    (case c8 => k_is)
    (case k8 => k_is)
    (case a9 => k_is)
    (case l9 => k_is)
    (case c9 => k_is)
    (case k9 => k_is)
    (case a10 => k_is)
    (case l10 => k_is)
    (case c10 => k_is)
    (case k10 => k_is)
    (case a11 => k_is)
    (case l11 => k_is)
    (case c11 => k_is)
    (case k11 => k_is)
    (case a12 => k_is)
    (case l12 => k_is)
    (case c12 => k_is)
    (case k12 => k_is)
    (case a13 => k_is)
    (case l13 => k_is)
    (case c13 => k_is)
    (case k13 => k_is)
    (case a14 => k_is)
    (case l14 => k_is)
    (case c14 => k_is)
    (case k14 => k_is)
    (case a15 => k_is)
    (case l15 => k_is)
    (case c15 => k_is)
    (case k15 => k_is)
    (case a16 => k_is)
    (case l16 => k_is)
    (case c16 => k_is)
    (case k16 => k_is)
    (case a17 => k_is)
    (case l17 => k_is)
    (case c17 => k_is)
    (case k17 => k_is)
    (case a18 => k_is)
    (case l18 => k_is)
    (case c18 => k_is)
    (case k18 => k_is)
    (case a19 => k_is)
    (case l19 => k_is)
    (case c19 => k_is)
    (case k19 => k_is)
    (case a20 => k_is)
    (case l20 => k_is)
    (case c20 => k_is)
    (case k20 => k_is)
    (case a21 => k_is)
    (case l21 => k_is)
    (case c21 => k_is)
    (case k21 => k_is)
    (case a22 => k_is)
    (case l22 => k_is)
    (case c22 => k_is)
    (case k22 => k_is)
    (case a23 => k_is)
    (case l23 => k_is)
    (case c23 => k_is)
    (case k23 => k_is)
    (case a24 => k_is)
    (case l24 => k_is)
    (case c24 => k_is)
    (case k24 => k_is)
    (case a25 => k_is)
    (case l25 => k_is)
    (case c25 => k_is)
    (case k25 => k_is)
    (case a26 => k_is)
    (case l26 => k_is)
    (case c26 => k_is)
    (case k26 => k_is)
    (case a27 => k_is)
    (case l27 => k_is)
    (case c27 => k_is)
    (case k27 => k_is)
    (case a28 => k_is)
    (case l28 => k_is)
    (case c28 => k_is)
    (case k28 => k_is)
    (case a29 => k_is)
    (case l29 => k_is)
    (case c29 => k_is)
    (case k29 => k_is)
    (case a30 => k_is)
    (case l30 => k_is)
    (case c30 => k_is)
    (case k30 => k_is)
    (case a31 => k_is)
    (case l31 => k_is)
    (case c31 => k_is)
    (case k31 => k_is)
    (case a32 => k_is)
    (case l32 => k_is)
    (case c32 => k_is)
    (case k32 => k_is)
    (case a33 => k_is)
    (case l33 => k_is)
    (case c33 => k_is)
    (case k33 => k_is)
    (case a34 => k_is)
    (case l34 => k_is)
    (case c34 => k_is)
    (case k34 => k_is)
    (case a35 => k_is)
    (case l35 => k_is)
    (case c35 => k_is)
    (case k35 => k_is)
    (case a36 => k_is)
    (case l36 => k_is)
    (case c36 => k_is)
    (case k36 => k_is)
    (case a37 => k_is)
    (case l37 => k_is)
    (case c37 => k_is)
    (case k37 => k_is)
    (case a38 => k_is)
    (case l38 => k_is)
    (case c38 => k_is)
    (case k38 => k_is)
    (case a39 => k_is)
    (case l39 => k_is)
    (case c39 => k_is)
    (case k39 => k_is)
    (case a40 => k_is)
    (case l40 => k_is)
    (case c40 => k_is)
    (case k40 => k_is)
    (case a41 => k_is)
    (case l41 => k_is)
    (case c41 => k_is)
    (case k41 => k_is)
    (case z_abs => k_is)
    (case z_all => k_is)
    (case z_any => k_is)
    (case z_bool => k_is)
    (case z_enumerate => k_is)
    (case z_int => k_is)
    (case z_isinstance => k_is)
    (case z_len => k_is)
    (case z_max => k_is)
    (case z_min => k_is)
    (case z_range => k_is)
    (case z_repr => k_is)
    (case z_sorted => k_is)
    (case z_str => k_is)
    (case z_sum => k_is)
    (case z_tuple => k_is)
    (case z_zip => k_is)
    (case e_APART => k_is)
    (case e_MAX_WIDTH => k_is)
    (case e_SUM => k_is)
    (case sub => exact DL.subOk_of (DL.sub_cons (PySem.W.mg_of KX G (by k_is)) (DL.subr_cons (PySem.W.mg_of KX G (by k_is)) (by first | k_is | kernel_rfl) (DL.subr_cons (PySem.W.mg_of KX G (by k_is)) (by first | k_is | kernel_rfl) (DL.subr_cons (PySem.W.mg_of KX G (by k_is)) (by first | k_is | kernel_rfl) (DL.subr_cons (PySem.W.mg_of KX G (by k_is)) (by first | k_is | kernel_rfl) DL.subr_nil)))) (DL.sub_cons (PySem.W.mg_of KX G (by k_is)) (DL.subr_cons (PySem.W.mg_of KX G (by k_is)) (by first | k_is | kernel_rfl) (DL.subr_cons (PySem.W.mg_of KX G (by k_is)) (by first | k_is | kernel_rfl) (DL.subr_cons (PySem.W.mg_of KX G (by k_is)) (by first | k_is | kernel_rfl) (DL.subr_cons (PySem.W.mg_of KX G (by k_is)) (by first | k_is | kernel_rfl) DL.subr_nil)))) (DL.sub_cons (PySem.W.mg_of KX G (by k_is)) (DL.subr_cons (PySem.W.mg_of KX G (by k_is)) (by first | k_is | kernel_rfl) (DL.subr_cons (PySem.W.mg_of KX G (by k_is)) (by first | k_is | kernel_rfl) (DL.subr_cons (PySem.W.mg_of KX G (by k_is)) (by first | k_is | kernel_rfl) (DL.subr_cons (PySem.W.mg_of KX G (by k_is)) (by first | k_is | kernel_rfl) DL.subr_nil)))) (DL.sub_cons (PySem.W.mg_of KX G (by k_is)) (DL.subr_cons (PySem.W.mg_of KX G (by k_is)) (by first | k_is | kernel_rfl) (DL.subr_cons (PySem.W.mg_of KX G (by k_is)) (by first | k_is | kernel_rfl) (DL.subr_cons (PySem.W.mg_of KX G (by k_is)) (by first | k_is | kernel_rfl) (DL.subr_cons (PySem.W.mg_of KX G (by k_is)) (by first | k_is | kernel_rfl) DL.subr_nil)))) DL.sub_nil)))))
    (case t_r => exact DL.erT_mk KX G PySem.F.excBase_ValueError (by k_is) (by k_exc) (by k_is) (by k_is) (by k_is))
    (case t_o => exact DL.erT_mk KX G PySem.F.excBase_ValueError (by k_is) (by k_exc) (by k_is) (by k_is) (by k_is))
    (case t_l => exact DL.erT_mk KX G PySem.F.excBase_ValueError (by k_is) (by k_exc) (by k_is) (by k_is) (by k_is))
    (case x_c => exact DL.erX_mk KX G (by k_is) (by kernel_rfl) (by k_is))
    (case m_r => exact ⟨_, PySem.W.mg_of KX G (by k_is)⟩)
    (case m_l => exact ⟨_, PySem.W.mg_of KX G (by k_is)⟩)
    (case m_o => exact ⟨_, PySem.W.mg_of KX G (by k_is)⟩)
    (case m1 => rfl)
    (case m2 => rfl)
    (case s_c =>
      refine' DL.erS_mk KX G ?ya ?yhsup ?yhtop DL.JsOk.back PySem.F.excBase_IndexError kxs_IndexError PySem.F.store_IndexError ?yhi ?yq ?ytI ?ylk ?yhcd ?yhcode ?yhvs ?yhfile ?yhcell ?yhD ?yhsub ?yhm ?yhB ?yhth ?yhsa ?yhov ?yhtk ?yhhd ?yhsx ?ytyC ?ykC ?yhp ?yhb ?yhks ?yhkc ?yhka ?yhkx ?yhxs ?yhxd ?yhk ?yhco ?yhge ?yhnc ?yhE ?yhI ?yhS1 ?yhS2
      (case ya => k_is)
      (case yhsup => k_is)
      (case yhtop => kernel_rfl)
      (case yhi => k_is)
      (case yq => kernel_rfl)
      (case ytI => k_is)
      (case ylk => k_is)
      (case yhcd => k_is)
      (case yhcode => k_is)
      (case yhvs => rfl)
      (case yhfile => kernel_rfl)
      (case yhcell => k_is)
      (case yhD => k_is)
      (case yhsub => k_is)
      (case yhm => kernel_rfl)
      (case yhB => k_is)
      (case yhth => k_is)
      (case yhsa => k_is)
      (case yhov => kernel_rfl)
      (case yhtk => k_is)
      (case yhhd => k_is)
      (case yhsx => k_is)
      (case ytyC => k_is)
      (case ykC => k_is)
      (case yhp => exact Or.inr ⟨_, rfl, rfl⟩)
      (case yhb => intro s a b; exact BindsTo.of_eq rfl)
      (case yhks => rfl)
      (case yhkc => rfl)
      (case yhka => rfl)
      (case yhkx => rfl)
      (case yhxs => decide)
      (case yhxd => decide)
      (case yhk => rfl)
      (case yhco => rfl)
      (case yhge => rfl)
      (case yhnc => decide)
      (case yhE => intro L'; exact ⟨_, rfl⟩)
      (case yhI => intro L'; rfl)
      (case yhS1 => intro L'; rfl)
      (case yhS2 => intro L'; rfl))
  case hTm => have := List.mem_map_of_mem (f := Prod.snd) hp; exact this
  case nT => intro w; exact List.forall_mem_cons.mpr ⟨by kernel_rfl, List.forall_mem_cons.mpr ⟨by kernel_rfl, fun _ h => nomatch h⟩⟩
  case C => intro w; exact List.forall_mem_cons.mpr ⟨by kernel_rfl, List.forall_mem_cons.mpr ⟨by kernel_rfl, fun _ h => nomatch h⟩⟩
  case hnd => decide

