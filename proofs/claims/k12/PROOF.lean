import PyProof.Rows.All
import Wide.All
import OpenK.AllK
import Wide.FinOn
import PySem.Challenge.RW_anywaybuilt_k12_whole_span_papers
import HandS.ForMost
import HandS.ForExc
import HandS.TryMany
import HandS.Flow
import HandS.Wide
import HandS.WideBits
import HandS.ExcSuper
import HandS.CallSlots
import HandS.Lambda
import HandS.Walk
import HandS.TupAny
import HandS.TupMul
import HandS.Style
import HandS.Conv
import HandS.Deep
import HandS.IsInst
import HandS.RaiseMore
import HandS.Small
import KE.DataAny
import KE.SortData
import KE.DataMinMax
import PyProof.ReprRoads
import HandS.Zip
import KE.GoesNew
import HandS.SetFor
import HandS.Strs
import HandS.SortKw
import KE.SortKeyHeap
import HandS.Ends
import HandS.Dict
import HandS.DictComp
import HandS.Iter
import HandS.ListItems
import HandS.Star
set_option Elab.async false
set_option linter.all false
set_option maxRecDepth 100000
set_option maxHeartbeats 4000000
namespace DL
open PySem PySem.Spec PyProof.Rows L2
abbrev Sg := L2.St
/-- what one run of a law knows: the tables of code objects that grow, each with the name of the one lambda made there; the module's names -/
class DLX where
  T : List (Addr × Str)
  mg : Str → Option Value
variable [DLX]
/-! ### 1. Data, states, results -/
/-- a value as plain data: trees; ref n: the n-th shared cell; own i: the thing that slot i owns; adr a: a written thing -/
inductive D where
  | non | bl (b : Bool) | int (i : Int) | str (x : Str) | adr (a : Addr) | fn (x : Str) | ty (n : String) | ref (n : Nat) | own (i : Nat)
  | tup (xs : List D) | lst (xs : List D) | dct (kvs : List (D × D)) | obj (C : Addr) (fs : List (Str × D))
/-- a thing that may change -/
inductive Cell where
  | lst (xs : List D) | dct (kvs : List (D × D)) | ins (C : Addr) (fs : List (Str × D)) | tab (n : Nat) | dead
inductive Slot where
  | no | val (d : D) | own (c : Cell)
structure S where
  δ : List Slot
  μ : List Cell
/-- an exception: its class, its fields (where it has a dict of its own) -/
structure EX where
  cls : Value
  fs : Option (List (Str × D))
inductive Res (α : Type) where
  | ok (a : α) (s : S) | exc (e : EX) (s : S) | bad
inductive SR where
  | nx (s : S) | rt (d : D) (s : S) | rtc (c : Cell) (s : S) | bk (s : S) | ct (s : S) | exc (e : EX) (s : S) | bad
inductive CR where
  | ok (d : D) (μ : List Cell) | okc (c : Cell) (μ : List Cell) | exc (e : EX) (μ : List Cell) | bad
@[inline] def Res.bind {α β : Type} (r : Res α) (f : α → S → Res β) : Res β := match r with
  | .ok a s => f a s
  | .exc e s => .exc e s
  | .bad => .bad
abbrev FE := S → Res D
abbrev FT := S → Res Bool
abbrev FC := S → Res Cell
abbrev FA := S → Res (List D)
abbrev FS := S → SR
abbrev FF := List D → List Cell → CR
def Cell.toD : Cell → D
  | .lst xs => .lst xs
  | .dct kvs => .dct kvs
  | .ins C fs => .obj C fs
  | .tab _ => .non
  | .dead => .non
def keyD : D → Option Key
  | .int i => some (.inl i)
  | .str x => some (.inr x)
  | _ => none
def keyT : D → Option (List Key)
  | .tup ds => ds.mapM keyD
  | _ => none

/-! ### 2. Data in the abstract heap -/
def Fixed : HO → Prop
  | .tup _ => True
  | .frz _ _ => True
  | .ext _ => True
  | _ => False
/-- a list that stands still -/
def SqF (K : PySem.W.Frag) (H : Hp) (a : Addr) (xs : List V) : Prop :=
  (∃ o, H a = some (.frz o (.lst xs))) ∨
    ∃ (o : Obj) (its : Array Value) (n : Nat), K.lookup a = some o ∧ o.cls = .type "list" ∧ o.dict = none ∧ o.data = .seq its n ∧ its.size ≤ sizeLine ∧ Vals xs its.toList
theorem SqF.sq {K : PySem.W.Frag} {H : Hp} {a : Addr} {xs : List V} (h : SqF K H a xs) : SqL K H a xs := h.elim (fun ⟨o, q⟩ => .inl (.inr ⟨o, q⟩)) .inr
section
variable (K : PySem.W.Frag) (H : Hp) (α : List Addr)
mutual
def Rv : D → V → Prop
  | .non, v => v = .non
  | .bl b, v => v = .bl b
  | .int i, v => v = .int i
  | .str x, v => v = .str x
  | .adr a, v => v = .ref a
  | .fn x, v => ∃ a, DLX.mg x = some (.ref a) ∧ v = .ref a
  | .ty n, v => v = .ty n
  | .ref n, v => ∃ a, α[n]? = some a ∧ v = .ref a
  | .own _, _ => False
  | .tup ds, v => ∃ a vs, v = .ref a ∧ SqT K H a vs ∧ Rvs ds vs
  | .lst ds, v => ∃ a vs, v = .ref a ∧ SqF K H a vs ∧ Rvs ds vs
  | .dct kvs, v => ∃ a o, v = .ref a ∧ ((∃ kv, H a = some (.frz o (.dK kv)) ∧ Rkv kvs kv) ∨ ∃ kv, kvs ≠ [] ∧ H a = some (.frz o (.dT kv)) ∧ RkT kvs kv)
  | .obj C fs, v => ∃ a o dx vs, v = .ref a ∧ H a = some (.frz o (.ins C dx vs)) ∧ Rfs fs vs
def Rvs : List D → List V → Prop
  | [], l => l = []
  | d :: ds, l => ∃ v r, l = v :: r ∧ Rv d v ∧ Rvs ds r
def Rkv : List (D × D) → List (Key × V) → Prop
  | [], l => l = []
  | (k, d) :: ds, l => ∃ q v r, l = (q, v) :: r ∧ keyD k = some q ∧ Rv d v ∧ Rkv ds r
def RkT : List (D × D) → List (List Key × V) → Prop
  | [], l => l = []
  | (k, d) :: ds, l => ∃ q v r, l = (q, v) :: r ∧ keyT k = some q ∧ Rv d v ∧ RkT ds r
def Rfs : List (Str × D) → List (Str × V) → Prop
  | [], l => l = []
  | (k, d) :: ds, l => ∃ v r, l = (k, v) :: r ∧ Rv d v ∧ Rfs ds r
end
def CellOk (a : Addr) : Cell → Prop
  | .lst xs => ∃ vs, H a = some (.lst vs) ∧ Rvs K H α xs vs
  | .dct kvs => (∃ kv, H a = some (.dK kv) ∧ Rkv K H α kvs kv) ∨ ∃ kv, kvs ≠ [] ∧ H a = some (.dT kv) ∧ RkT K H α kvs kv
  | .ins C fs => ∃ dx vs, H a = some (.ins C dx vs) ∧ Rfs K H α fs vs
  | .tab n => ∃ q, DLX.T[n]? = some (a, q) ∧ LamX.TabS H a q
  | .dead => ∃ o, H a = some o
/-- the shared cells -/
structure RelC (μ : List Cell) : Prop where
  len : α.length = μ.length
  nd : α.Nodup
  at_ : ∀ (n : Nat) (a : Addr) (c : Cell), α[n]? = some a → μ[n]? = some c → CellOk K H α a c
/-- the slots; H0: the heap at the def's entry -/
structure RelS (H0 : Hp) (σ : Sg) (δ : List Slot) : Prop where
  len : σ.length = δ.length
  val : ∀ (i : Nat) (d : D), δ[i]? = some (.val d) → ∃ v, σ[i]? = some (some v) ∧ Rv K H α d v
  own : ∀ (i : Nat) (c : Cell), δ[i]? = some (.own c) → ∃ a, σ[i]? = some (some (.ref a)) ∧ a ∉ α ∧ H0 a = none ∧ CellOk K H α a c
  inj : ∀ (i j : Nat) (c c' : Cell) (a : Addr), δ[i]? = some (.own c) → δ[j]? = some (.own c') → σ[i]? = some (some (.ref a)) → σ[j]? = some (some (.ref a)) → i = j
end
structure Stay (H : Hp) (α : List Addr) (H' : Hp) (α' : List Addr) : Prop where
  im : ∀ a o, H a = some o → Fixed o → H' a = some o
  pre : α <+: α'
  dom : ∀ a, H' a = none → H a = none
theorem Stay.refl (H : Hp) (α : List Addr) : Stay H α H α := ⟨fun _ _ h _ => h, List.prefix_rfl, fun _ h => h⟩
theorem Stay.trans {H H1 H2 : Hp} {α α1 α2 : List Addr} (a : Stay H α H1 α1) (b : Stay H1 α1 H2 α2) : Stay H α H2 α2 :=
  ⟨fun c o h f => b.im c o (a.im c o h f) f, a.pre.trans b.pre, fun c h => a.dom c (b.dom c h)⟩
theorem pre_get {α α' : List Addr} (p : α <+: α') {n : Nat} {a : Addr} (h : α[n]? = some a) : α'[n]? = some a := by
  obtain ⟨t, rfl⟩ := p
  rw [List.getElem?_append_left (List.getElem?_eq_some_iff.mp h).1]
  exact h
section
variable {K : PySem.W.Frag} {H H' : Hp} {α α' : List Addr}
theorem Stay.rd {a : Addr} {u : HO} (s : Stay H α H' α') (hu : Fixed u) (h : Rd H a u) : Rd H' a u := by
  rcases h with h | ⟨o, h⟩
  · exact .inl (s.im _ _ h hu)
  · exact .inr ⟨o, s.im _ _ h trivial⟩
theorem Stay.sqT {a : Addr} {xs : List V} (s : Stay H α H' α') (h : SqT K H a xs) : SqT K H' a xs := h.elim (fun q => .inl (s.rd trivial q)) .inr
theorem Stay.sqF {a : Addr} {xs : List V} (s : Stay H α H' α') (h : SqF K H a xs) : SqF K H' a xs := h.elim (fun ⟨o, q⟩ => .inl ⟨o, s.im _ _ q trivial⟩) .inr
mutual
theorem Rv.stay (s : Stay H α H' α') : ∀ (d : D) (v : V), Rv K H α d v → Rv K H' α' d v
  | .non, _, h => by simpa only [Rv] using h
  | .bl _, _, h => by simpa only [Rv] using h
  | .int _, _, h => by simpa only [Rv] using h
  | .str _, _, h => by simpa only [Rv] using h
  | .adr _, _, h => by simpa only [Rv] using h
  | .fn _, _, h => by simpa only [Rv] using h
  | .ty _, _, h => by simpa only [Rv] using h
  | .own _, _, h => by simp only [Rv] at h
  | .ref n, v, h => by
    simp only [Rv] at h ⊢
    obtain ⟨a, e, q⟩ := h
    exact ⟨a, pre_get s.pre e, q⟩
  | .tup ds, v, h => by
    simp only [Rv] at h ⊢
    obtain ⟨a, vs, e, q, r⟩ := h
    exact ⟨a, vs, e, s.sqT q, Rvs.stay s ds vs r⟩
  | .lst ds, v, h => by
    simp only [Rv] at h ⊢
    obtain ⟨a, vs, e, q, r⟩ := h
    exact ⟨a, vs, e, s.sqF q, Rvs.stay s ds vs r⟩
  | .dct kvs, v, h => by
    simp only [Rv] at h ⊢
    obtain ⟨a, o, e, ⟨kv, q, r⟩ | ⟨kv, n, q, r⟩⟩ := h
    · exact ⟨a, o, e, .inl ⟨kv, s.im _ _ q trivial, Rkv.stay s kvs kv r⟩⟩
    · exact ⟨a, o, e, .inr ⟨kv, n, s.im _ _ q trivial, RkT.stay s kvs kv r⟩⟩
  | .obj C fs, v, h => by
    simp only [Rv] at h ⊢
    obtain ⟨a, o, dx, vs, e, q, r⟩ := h
    exact ⟨a, o, dx, vs, e, s.im _ _ q trivial, Rfs.stay s fs vs r⟩
theorem Rvs.stay (s : Stay H α H' α') : ∀ (ds : List D) (vs : List V), Rvs K H α ds vs → Rvs K H' α' ds vs
  | [], _, h => by simpa only [Rvs] using h
  | d :: ds, l, h => by
    simp only [Rvs] at h ⊢
    obtain ⟨v, r, e, h1, h2⟩ := h
    exact ⟨v, r, e, Rv.stay s d v h1, Rvs.stay s ds r h2⟩
theorem Rkv.stay (s : Stay H α H' α') : ∀ (ds : List (D × D)) (vs : List (Key × V)), Rkv K H α ds vs → Rkv K H' α' ds vs
  | [], _, h => by simpa only [Rkv] using h
  | (k, d) :: ds, l, h => by
    simp only [Rkv] at h ⊢
    obtain ⟨q, v, r, e, h0, h1, h2⟩ := h
    exact ⟨q, v, r, e, h0, Rv.stay s d v h1, Rkv.stay s ds r h2⟩
theorem RkT.stay (s : Stay H α H' α') : ∀ (ds : List (D × D)) (vs : List (List Key × V)), RkT K H α ds vs → RkT K H' α' ds vs
  | [], _, h => by simpa only [RkT] using h
  | (k, d) :: ds, l, h => by
    simp only [RkT] at h ⊢
    obtain ⟨q, v, r, e, h0, h1, h2⟩ := h
    exact ⟨q, v, r, e, h0, Rv.stay s d v h1, RkT.stay s ds r h2⟩
theorem Rfs.stay (s : Stay H α H' α') : ∀ (ds : List (Str × D)) (vs : List (Str × V)), Rfs K H α ds vs → Rfs K H' α' ds vs
  | [], _, h => by simpa only [Rfs] using h
  | (k, d) :: ds, l, h => by
    simp only [Rfs] at h ⊢
    obtain ⟨v, r, e, h1, h2⟩ := h
    exact ⟨v, r, e, Rv.stay s d v h1, Rfs.stay s ds r h2⟩
end
/-- a cell whose object stands as it was -/
theorem CellOk.stay {a : Addr} (s : Stay H α H' α') (e : ∀ o, H a = some o → ¬ Fixed o → H' a = some o) : ∀ c : Cell, CellOk K H α a c → CellOk K H' α' a c
  | .lst xs, ⟨vs, h, r⟩ => ⟨vs, e _ h (fun z => z), Rvs.stay s xs vs r⟩
  | .dct kvs, h => by
    rcases h with ⟨kv, h, r⟩ | ⟨kv, n, h, r⟩
    · exact .inl ⟨kv, e _ h (fun z => z), Rkv.stay s kvs kv r⟩
    · exact .inr ⟨kv, n, e _ h (fun z => z), RkT.stay s kvs kv r⟩
  | .ins C fs, ⟨dx, vs, h, r⟩ => ⟨dx, vs, e _ h (fun z => z), Rfs.stay s fs vs r⟩
  | .tab n, ⟨q, t, ps, h, k, z⟩ => ⟨q, t, ps, e _ h (fun z => z), k, fun pos cv hc => by
    obtain ⟨c, e1, e2⟩ := z pos cv hc
    exact ⟨c, e1, s.im _ _ e2 trivial⟩⟩
  | .dead, ⟨o, h⟩ => by
    cases q : H' a with
    | none => rw [s.dom a q] at h; cases h
    | some u => exact ⟨u, q⟩
theorem Rvs.length : ∀ {ds : List D} {vs : List V}, Rvs K H α ds vs → vs.length = ds.length
  | [], _, h => by simp only [Rvs] at h; rw [h]; rfl
  | d :: ds, l, h => by
    simp only [Rvs] at h
    obtain ⟨v, r, rfl, h1, h2⟩ := h
    simp only [List.length_cons, Rvs.length h2]
theorem Rvs.at_ : ∀ {ds : List D} {vs : List V} {i : Nat} {d : D}, Rvs K H α ds vs → ds[i]? = some d → ∃ v, vs[i]? = some v ∧ Rv K H α d v
  | [], _, _, _, _, e => by simp at e
  | d :: ds, l, i, x, h, e => by
    simp only [Rvs] at h
    obtain ⟨v, r, rfl, h1, h2⟩ := h
    cases i with
    | zero => simp at e; subst e; exact ⟨v, rfl, h1⟩
    | succ i =>
      obtain ⟨w, q, z⟩ := Rvs.at_ (i := i) (d := x) h2 (by simpa using e)
      exact ⟨w, by simpa using q, z⟩
theorem Rvs.at' : ∀ {ds : List D} {vs : List V} {i : Nat} {v : V}, Rvs K H α ds vs → vs[i]? = some v → ∃ d, ds[i]? = some d ∧ Rv K H α d v
  | [], _, _, _, h, e => by simp only [Rvs] at h; subst h; simp at e
  | d :: ds, l, i, x, h, e => by
    simp only [Rvs] at h
    obtain ⟨v, r, rfl, h1, h2⟩ := h
    cases i with
    | zero => simp at e; subst e; exact ⟨d, rfl, h1⟩
    | succ i =>
      obtain ⟨w, q, z⟩ := Rvs.at' (i := i) (v := x) h2 (by simpa using e)
      exact ⟨w, by simpa using q, z⟩
theorem Rvs.append : ∀ {ds es : List D} {vs us : List V}, Rvs K H α ds vs → Rvs K H α es us → Rvs K H α (ds ++ es) (vs ++ us)
  | [], es, _, us, h, q => by simp only [Rvs] at h; subst h; exact q
  | d :: ds, es, l, us, h, q => by
    simp only [Rvs] at h
    obtain ⟨v, r, rfl, h1, h2⟩ := h
    simp only [List.cons_append, Rvs]
    exact ⟨v, r ++ us, rfl, h1, Rvs.append h2 q⟩
theorem Rvs.single {d : D} {v : V} (h : Rv K H α d v) : Rvs K H α [d] [v] := by
  simp only [Rvs]
  exact ⟨v, [], rfl, h, rfl⟩
theorem Rvs.cons {d : D} {v : V} {ds : List D} {vs : List V} (h : Rv K H α d v) (q : Rvs K H α ds vs) : Rvs K H α (d :: ds) (v :: vs) := by
  simp only [Rvs]
  exact ⟨v, vs, rfl, h, q⟩
theorem Rvs.nil : Rvs K H α [] [] := by simp only [Rvs]
theorem Rvs.set {d : D} {v : V} (h : Rv K H α d v) : ∀ {ds : List D} {vs : List V} (i : Nat), Rvs K H α ds vs → Rvs K H α (ds.set i d) (vs.set i v)
  | [], _, _, q => by simp only [Rvs] at q; subst q; exact Rvs.nil
  | e :: ds, l, i, q => by
    simp only [Rvs] at q
    obtain ⟨w, r, rfl, h1, h2⟩ := q
    cases i with
    | zero => exact Rvs.cons h h2
    | succ i => exact Rvs.cons h1 (Rvs.set h i h2)
theorem Rvs.take : ∀ {ds : List D} {vs : List V} (n : Nat), Rvs K H α ds vs → Rvs K H α (ds.take n) (vs.take n)
  | [], _, _, q => by simp only [Rvs] at q; subst q; simp [Rvs]
  | e :: ds, l, n, q => by
    simp only [Rvs] at q
    obtain ⟨w, r, rfl, h1, h2⟩ := q
    cases n with
    | zero => exact Rvs.nil
    | succ n => exact Rvs.cons h1 (Rvs.take n h2)
theorem Rvs.drop : ∀ {ds : List D} {vs : List V} (n : Nat), Rvs K H α ds vs → Rvs K H α (ds.drop n) (vs.drop n)
  | [], _, _, q => by simp only [Rvs] at q; subst q; simp [Rvs]
  | e :: ds, l, n, q => by
    simp only [Rvs] at q
    obtain ⟨w, r, rfl, h1, h2⟩ := q
    cases n with
    | zero => exact Rvs.cons h1 h2
    | succ n => exact Rvs.drop n h2
end
end DL

namespace DL
open PySem PySem.Spec PyProof.Rows L2
variable [DLX]
/-! ### 3. The relation of a state to the machine -/
structure Rel (K : PySem.W.Frag) (H0 : Hp) (α0 : List Addr) (H : Hp) (α : List Addr) (σ : Sg) (s : S) : Prop where
  cells : RelC K H α s.μ
  slots : RelS K H α H0 σ s.δ
  ot : ∀ a o, H0 a = some o → a ∉ α0 → H a = some o
  nw : ∀ a ∈ α, a ∈ α0 ∨ H0 a = none
  st : Stay H0 α0 H α
def ExR (K : PySem.W.Frag) (H : Hp) (α : List Addr) (e : EX) (cls : Value) (dd : Option Addr) : Prop :=
  cls = e.cls ∧ ∀ fs, e.fs = some fs → ∃ a vs, dd = some a ∧ H a = some (.xd vs) ∧ Rfs K H α fs vs
/-- a value on the way: data, or the thing of a slot -/
def Rx (K : PySem.W.Frag) (H : Hp) (α : List Addr) (σ : Sg) (d : D) (v : V) : Prop :=
  match d with
  | .own i => σ[i]? = some (some v)
  | d => Rv K H α d v
def Rxs (K : PySem.W.Frag) (H : Hp) (α : List Addr) (σ : Sg) (ds : List D) (vs : List V) : Prop := Paired (Rx K H α σ) ds vs
section
variable {K : PySem.W.Frag} {H0 H H' : Hp} {α0 α α' : List Addr} {σ : Sg} {s s' : S}
theorem Rv.x {d : D} {v : V} (h : Rv K H α d v) : Rx K H α σ d v := by
  cases d <;> first | exact h | (simp only [Rv] at h)
theorem Rx.stay (t : Stay H α H' α') {d : D} {v : V} (h : Rx K H α σ d v) : Rx K H' α' σ d v := by
  cases d <;> first | exact h | exact Rv.stay t _ _ h
theorem Rx.rv {d : D} {v : V} (h : Rx K H α σ d v) (n : ∀ i, d ≠ .own i) : Rv K H α d v := by
  cases d <;> first | exact h | exact absurd rfl (n _)
end
/-! ### 4. What is wanted of a result -/
def PostE (K : PySem.W.Frag) (H0 : Hp) (α0 : List Addr) (σ : Sg) (W : WX) (H : Hp) (α : List Addr) (Q : VK) : Res D → Prop
  | .ok d s' => ∀ v H' α', Rel K H0 α0 H' α' σ s' → Stay H α H' α' → Rx K H' α' σ d v → Q v H'
  | .exc e s' => ∀ cls dd H' α', Rel K H0 α0 H' α' σ s' → ExR K H' α' e cls dd → W cls dd σ H'
  | .bad => False
def PostT (K : PySem.W.Frag) (H0 : Hp) (α0 : List Addr) (σ : Sg) (W : WX) (H : Hp) (α : List Addr) (Q : Bool → Hp → Prop) : Res Bool → Prop
  | .ok b s' => ∀ H' α', Rel K H0 α0 H' α' σ s' → Stay H α H' α' → Q b H'
  | .exc e s' => ∀ cls dd H' α', Rel K H0 α0 H' α' σ s' → ExR K H' α' e cls dd → W cls dd σ H'
  | .bad => False
def PostA (K : PySem.W.Frag) (H0 : Hp) (α0 : List Addr) (σ : Sg) (W : WX) (H : Hp) (α : List Addr) (Q : List V → Hp → Prop) : Res (List D) → Prop
  | .ok ds s' => ∀ vs H' α', Rel K H0 α0 H' α' σ s' → Stay H α H' α' → Rxs K H' α' σ ds vs → Q vs H'
  | .exc e s' => ∀ cls dd H' α', Rel K H0 α0 H' α' σ s' → ExR K H' α' e cls dd → W cls dd σ H'
  | .bad => False
/-- a fresh thing at a: nobody else knows it -/
def RF (K : PySem.W.Frag) (H0 : Hp) (H : Hp) (α : List Addr) (σ : Sg) (s : S) (a : Addr) (c : Cell) : Prop :=
  CellOk K H α a c ∧ a ∉ α ∧ H0 a = none ∧ ∀ (i : Nat) (c' : Cell), s.δ[i]? = some (.own c') → σ[i]? ≠ some (some (.ref a))
def PostF (K : PySem.W.Frag) (H0 : Hp) (α0 : List Addr) (σ : Sg) (W : WX) (H : Hp) (α : List Addr) (Q : VK) : Res Cell → Prop
  | .ok c s' => ∀ a H' α', Rel K H0 α0 H' α' σ s' → Stay H α H' α' → RF K H0 H' α' σ s' a c → Q (.ref a) H'
  | .exc e s' => ∀ cls dd H' α', Rel K H0 α0 H' α' σ s' → ExR K H' α' e cls dd → W cls dd σ H'
  | .bad => False
def PostS (K : PySem.W.Frag) (H0 : Hp) (α0 : List Addr) (W : WX) (H : Hp) (α : List Addr) (D : Ends) : SR → Prop
  | .nx s' => ∀ σ' H' α', Rel K H0 α0 H' α' σ' s' → Stay H α H' α' → D.nx σ' H'
  | .bk s' => ∀ σ' H' α', Rel K H0 α0 H' α' σ' s' → Stay H α H' α' → D.bk σ' H'
  | .ct s' => ∀ σ' H' α', Rel K H0 α0 H' α' σ' s' → Stay H α H' α' → D.ct σ' H'
  | .rt d s' => ∀ v σ' H' α', Rel K H0 α0 H' α' σ' s' → Rv K H' α' d v → D.rt v H'
  | .rtc c s' => ∀ a σ' H' α', Rel K H0 α0 H' α' σ' s' → RF K H0 H' α' σ' s' a c → D.rt (.ref a) H'
  | .exc e s' => ∀ cls dd σ' H' α', Rel K H0 α0 H' α' σ' s' → ExR K H' α' e cls dd → W cls dd σ' H'
  | .bad => False
/-! ### 5. The judgements -/
structure PED (X : Cx) (e : Expr) (f : FE) : Prop where
  run : ∀ W, Takes X W → ∃ t, PE X e t ∧ ∀ H0 α0 σ H α s Q, Rel X.K H0 α0 H α σ s → PostE X.K H0 α0 σ W H α Q (f s) → t σ H Q
structure PTD (X : Cx) (e : Expr) (f : FT) : Prop where
  run : ∀ W, Takes X W → ∃ t, PT X e t ∧ ∀ H0 α0 σ H α s Q, Rel X.K H0 α0 H α σ s → PostT X.K H0 α0 σ W H α Q (f s) → t σ H Q
structure PAD (X : Cx) (es : List Expr) (f : FA) : Prop where
  run : ∀ W, Takes X W → ∃ t, PA X es t ∧ ∀ H0 α0 σ H α s Q, Rel X.K H0 α0 H α σ s → PostA X.K H0 α0 σ W H α Q (f s) → t σ H Q
structure PFD (X : Cx) (e : Expr) (f : FC) : Prop where
  run : ∀ W, Takes X W → ∃ t, PE X e t ∧ ∀ H0 α0 σ H α s Q, Rel X.K H0 α0 H α σ s → PostF X.K H0 α0 σ W H α Q (f s) → t σ H Q
structure PSD (X : Cx) (st : Stmt) (f : FS) : Prop where
  run : ∀ W, Takes X W → ∃ t, PS X st t ∧ ∀ H0 α0 σ H α s D, Rel X.K H0 α0 H α σ s → PostS X.K H0 α0 W H α D (f s) → t D σ H
structure PSsD (X : Cx) (st : List Stmt) (f : FS) : Prop where
  run : ∀ W, Takes X W → ∃ t, PSs X st t ∧ ∀ H0 α0 σ H α s D, Rel X.K H0 α0 H α σ s → PostS X.K H0 α0 W H α D (f s) → t D σ H

/-! ### 6. Steps of the heap -/
section
variable {K : PySem.W.Frag} {H0 H H' : Hp} {α0 α α' : List Addr} {σ : Sg} {s : S}
theorem CellOk.some {a : Addr} : ∀ {c : Cell}, CellOk K H α a c → ∃ o, H a = some o
  | .lst _, ⟨_, h, _⟩ => ⟨_, h⟩
  | .dct _, h => h.elim (fun ⟨_, q, _⟩ => ⟨_, q⟩) (fun ⟨_, _, q, _⟩ => ⟨_, q⟩)
  | .tab _, ⟨_, _, _, q, _⟩ => ⟨_, q⟩
  | .ins _ _, ⟨_, _, h, _⟩ => ⟨_, h⟩
  | .dead, h => h
theorem RelC.some {μ : List Cell} (r : RelC K H α μ) {a : Addr} (h : a ∈ α) : ∃ o, H a = some o := by
  obtain ⟨n, e⟩ := List.mem_iff_getElem?.mp h
  have hn := (List.getElem?_eq_some_iff.mp e).1
  rw [r.len] at hn
  exact (r.at_ n a _ e (List.getElem?_eq_getElem hn)).some
theorem Stay.upd_new {p : Addr} {o : HO} (h : H p = none) : Stay H α (upd H p o) α :=
  ⟨fun a u e _ => by rw [upd_ne (ne_of_none e h)]; exact e, List.prefix_rfl, fun a e => by
    by_cases q : a = p
    · subst q; exact h
    · rw [upd_ne q] at e; exact e⟩
/-- an untracked place is fresh to all -/
theorem Rel.free0 (r : Rel K H0 α0 H α σ s) {p : Addr} (h : H p = none) : H0 p = none := r.st.dom p h
theorem Rel.nota (r : Rel K H0 α0 H α σ s) {p : Addr} (h : H p = none) : p ∉ α := fun z => by
  obtain ⟨o, e⟩ := r.cells.some z
  rw [h] at e; cases e
/-- any step that leaves what is shared, what is owned and the callers' things as they were -/
theorem Rel.step (r : Rel K H0 α0 H α σ s) (t : Stay H α H' α)
    (k : ∀ a o, H a = some o → ¬ Fixed o → (a ∈ α ∨ ∃ (i : Nat) (c : Cell), s.δ[i]? = some (.own c) ∧ σ[i]? = some (some (.ref a))) → H' a = some o) (k0 : ∀ a o, H0 a = some o → a ∉ α0 → H a = some o → H' a = some o) : Rel K H0 α0 H' α σ s := by
  refine ⟨⟨r.cells.len, r.cells.nd, fun n a c h1 h2 => ?_⟩, ⟨r.slots.len, fun i d h => ?_, fun i c h => ?_, r.slots.inj⟩, fun a o h1 h2 => k0 a o h1 h2 (r.ot a o h1 h2), r.nw, r.st.trans t⟩
  · exact (r.cells.at_ n a c h1 h2).stay t (fun o e nf => k a o e nf (.inl (List.mem_of_getElem? h1)))
  · obtain ⟨v, e, q⟩ := r.slots.val i d h
    exact ⟨v, e, Rv.stay t d v q⟩
  · obtain ⟨a, e, na, n0, q⟩ := r.slots.own i c h
    exact ⟨a, e, na, n0, q.stay t (fun o e' nf => k a o e' nf (.inr ⟨i, c, h, e⟩))⟩
/-- a new thing -/
theorem Rel.new (r : Rel K H0 α0 H α σ s) {p : Addr} {o : HO} (h : H p = none) : Rel K H0 α0 (upd H p o) α σ s :=
  r.step (Stay.upd_new h) (fun a u e _ _ => by rw [upd_ne (ne_of_none e h)]; exact e) (fun a u _ _ e => by rw [upd_ne (ne_of_none e h)]; exact e)
end
theorem Takes.none {X : Cx} : Takes X (fun _ _ _ _ => False) := takes0
end DL

namespace DL
open PySem PySem.Spec PyProof.Rows L2
variable [DLX]
/-! ### 7. The ghost step: a thing is locked for good -/
def Gh (H : Hp) (Q : Hp → Prop) : Prop := Q H ∨ ∃ a u, H a = some u ∧ Mut (some u) ∧ ∀ o, Q (upd H a (.frz o u))
theorem Inv.gh {X : Cx} {pins : List (Addr × Obj)} {σ : Sg} {H : Hp} {s : Shared} {Q : Hp → Prop} (I : Inv X pins σ H s) (g : Gh H Q) : ∃ H', Inv X pins σ H' s ∧ Q H' := by
  rcases g with q | ⟨a, u, h, m, q⟩
  · exact ⟨H, I, q⟩
  · obtain ⟨o, J⟩ := I.lock h m
    exact ⟨_, J, q o⟩
theorem EP.gh {X : Cx} {pins : List (Addr × Obj)} {σ : Sg} {Q : VK} {u : Value} {s : Shared} (h : EP X pins σ (fun v H1 => Gh H1 (Q v)) u s) : EP X pins σ Q u s := by
  obtain ⟨v, H, I, r, g⟩ := h
  obtain ⟨H', J, q⟩ := DL.Inv.gh I g
  exact ⟨v, H', J, r, q⟩
theorem opGh {X : Cx} {f : Value → Value → Sem Value} {r : R2} (h : OpR X f r) : OpR X f (fun x y H Q => r x y H fun v H1 => Gh H1 (Q v)) :=
  fun pins s σ H x y v u Q I rx ry q => thn (h pins s σ H x y v u _ I rx ry q) fun _ _ e => EP.gh e
theorem peGh {X : Cx} {e : Expr} {t : TE} (h : PE X e t) : PE X e (fun σ H Q => t σ H fun v H1 => Gh H1 (Q v)) :=
  ⟨fun pins s σ H Q I q => thn (h.run pins s σ H _ I q) fun _ _ e => EP.gh e⟩
theorem callGh {X : Cx} {f : Value} {r : List V → Hp → VK → Prop} (h : CallR X f r) : CallR X f (fun xs H Q => r xs H fun v H1 => Gh H1 (Q v)) :=
  fun pins s σ H xs us Q I rx q => thn (h pins s σ H xs us _ I rx q) fun _ _ e => EP.gh e

/-! ### 8. Reading things -/
def cellAt (s : S) (d : D) : Option Cell := match d with
  | .own i => (match s.δ[i]? with | some (.own c) => some c | _ => none)
  | .ref n => s.μ[n]?
  | .lst xs => some (.lst xs)
  | .dct kvs => some (.dct kvs)
  | .obj C fs => some (.ins C fs)
  | _ => none
def asL (s : S) (d : D) : Option (List D) := match cellAt s d with | some (.lst xs) => some xs | _ => none
def asSeq (s : S) (d : D) : Option (List D) := match d with | .tup xs => some xs | d => asL s d
section
variable {K : PySem.W.Frag} {H0 H H' : Hp} {α0 α α' : List Addr} {σ : Sg} {s : S}
theorem asL_ok {d : D} {v : V} {xs : List D} (r : Rel K H0 α0 H α σ s) (h : Rx K H α σ d v) (e : asL s d = some xs) : ∃ a vs, v = .ref a ∧ SqL K H a vs ∧ Rvs K H α xs vs := by
  unfold asL cellAt at e
  cases d <;> simp only [reduceCtorEq] at e
  case ref n =>
    cases hc : s.μ[n]? with
    | none => rw [hc] at e; cases e
    | some c =>
      rw [hc] at e
      cases c <;> simp only [reduceCtorEq, Option.some.injEq] at e
      subst e
      have h' : Rv K H α (.ref n) v := h
      simp only [Rv] at h'
      obtain ⟨a, ha, rfl⟩ := h'
      obtain ⟨vs, q, rr⟩ := r.cells.at_ n a _ ha hc
      exact ⟨a, vs, rfl, .of q, rr⟩
  case own i =>
    cases hc : s.δ[i]? with
    | none => rw [hc] at e; simp at e
    | some c =>
      rw [hc] at e
      cases c with
      | no => simp at e
      | val _ => simp at e
      | own c =>
        cases c <;> simp only [reduceCtorEq, Option.some.injEq] at e
        subst e
        have h' : σ[i]? = some (some v) := h
        obtain ⟨a, ha, _, _, vs, q, rr⟩ := r.slots.own i _ hc
        rw [h'] at ha
        cases ha
        exact ⟨a, vs, rfl, .of q, rr⟩
  case lst ys =>
    simp only [Option.some.injEq] at e
    subst e
    have h' : Rv K H α (.lst ys) v := h
    simp only [Rv] at h'
    obtain ⟨a, vs, rfl, q, rr⟩ := h'
    exact ⟨a, vs, rfl, q.sq, rr⟩
theorem asT_ok {v : V} {xs : List D} (h : Rx K H α σ (.tup xs) v) : ∃ a vs, v = .ref a ∧ SqT K H a vs ∧ Rvs K H α xs vs := by
  have h' : Rv K H α (.tup xs) v := h
  simpa only [Rv] using h'
theorem asSeq_ok {d : D} {v : V} {xs : List D} (r : Rel K H0 α0 H α σ s) (h : Rx K H α σ d v) (e : asSeq s d = some xs) : ∃ a vs, v = .ref a ∧ (SqL K H a vs ∨ SqT K H a vs) ∧ Rvs K H α xs vs := by
  unfold asSeq at e
  split at e
  · cases e
    obtain ⟨a, vs, e1, q, rr⟩ := asT_ok h
    exact ⟨a, vs, e1, .inr q, rr⟩
  · obtain ⟨a, vs, e1, q, rr⟩ := asL_ok r h e
    exact ⟨a, vs, e1, .inl q, rr⟩
/-- a new list is locked at once -/
theorem gh_list {p : Addr} {xs : List D} {vs : List V} {Q : VK} (r : Rel K H0 α0 H α σ s) (h : H p = none) (rr : Rvs K H α xs vs)
    (q : ∀ v H' α', Rel K H0 α0 H' α' σ s → Stay H α H' α' → Rx K H' α' σ (.lst xs) v → Q v H') : Gh (upd H p (.lst vs)) (Q (.ref p)) := by
  refine .inr ⟨p, .lst vs, upd_same, trivial, fun o => ?_⟩
  rw [upd_upd]
  have t : Stay H α (upd H p (.frz o (.lst vs))) α := Stay.upd_new h
  refine q _ _ α (r.new h) t (Rv.x ?_)
  simp only [Rv]
  exact ⟨p, vs, rfl, .inl ⟨o, upd_same⟩, Rvs.stay t _ _ rr⟩
theorem new_tup {p : Addr} {xs : List D} {vs : List V} {Q : VK} (r : Rel K H0 α0 H α σ s) (h : H p = none) (rr : Rvs K H α xs vs)
    (q : ∀ v H' α', Rel K H0 α0 H' α' σ s → Stay H α H' α' → Rx K H' α' σ (.tup xs) v → Q v H') : Q (.ref p) (upd H p (.tup vs)) := by
  have t : Stay H α (upd H p (.tup vs)) α := Stay.upd_new h
  refine q _ _ α (r.new h) t (Rv.x ?_)
  simp only [Rv]
  exact ⟨p, vs, rfl, .inl (.inl upd_same), Rvs.stay t _ _ rr⟩
end

/-! ### 9. Names, constants -/
def dVar (i : Nat) : FE := fun s => match s.δ[i]? with
  | some (.val d) => .ok d s
  | some (.own _) => .ok (.own i) s
  | _ => .bad
def dC (d : D) : FE := fun s => .ok d s
section
variable {X : Cx}
theorem pd_var (i : Nat) {e : Expr} (h : PE X e (tVar i)) : PED X e (dVar i) := ⟨fun W _ => ⟨_, h, fun H0 α0 σ H α s Q r q => by
  unfold dVar at q
  cases e : s.δ[i]? with
  | none => rw [e] at q; exact q.elim
  | some sl =>
    rw [e] at q
    cases sl with
    | no => exact q.elim
    | val d =>
      obtain ⟨v, h1, h2⟩ := r.slots.val i d e
      exact ⟨v, h1, q v H α r (Stay.refl _ _) (Rv.x h2)⟩
    | own c =>
      obtain ⟨a, h1, _⟩ := r.slots.own i c e
      exact ⟨_, h1, q _ H α r (Stay.refl _ _) h1⟩⟩⟩
theorem pd_c {e : Expr} {d : D} {v : V} (h : PE X e (tC v)) (hv : ∀ H α, Rv X.K H α d v) : PED X e (dC d) := ⟨fun W _ => ⟨_, h, fun H0 α0 σ H α s Q r q => q v H α r (Stay.refl _ _) (Rv.x (hv H α))⟩⟩
theorem pd_int {i j pos} : PED X (.Constant (.int i) j pos) (dC (.int i)) := pd_c pe_int fun _ _ => by simp only [Rv]
theorem pd_bl {b j pos} : PED X (.Constant (.bool b) j pos) (dC (.bl b)) := pd_c pe_bl fun _ _ => by simp only [Rv]
theorem pd_non {j pos} : PED X (.Constant .none j pos) (dC .non) := pd_c pe_non fun _ _ => by simp only [Rv]
theorem pd_str {x j pos} : PED X (.Constant (.str x) j pos) (dC (.str x)) := pd_c pe_str fun _ _ => by simp only [Rv]
/-- a global that holds a written thing, an int, a text -/
theorem pd_globA {x : Str} {a : Addr} {pos : Pos} (hg : Gl X x) (hm : X.mg x = some (.ref a)) (hd : (x == ("__debug__" : Str)) = false := by decide) : PED X (.Name x pos) (dC (.adr a)) :=
  pd_c (pe_glob (v := .ref a) hg hm rfl hd) fun _ _ => by simp only [Rv]
theorem pd_globI {x : Str} {i : Int} {t : Tok} {pos : Pos} (hg : Gl X x) (hm : X.mg x = some (.int i t)) (hd : (x == ("__debug__" : Str)) = false := by decide) : PED X (.Name x pos) (dC (.int i)) :=
  pd_c (pe_glob (v := .int i) hg hm ⟨t, rfl⟩ hd) fun _ _ => by simp only [Rv]
theorem pd_globS {x y : Str} {t : Tok} {pos : Pos} (hg : Gl X x) (hm : X.mg x = some (.str y t)) (hd : (x == ("__debug__" : Str)) = false := by decide) : PED X (.Name x pos) (dC (.str y)) :=
  pd_c (pe_glob (v := .str y) hg hm ⟨t, rfl⟩ hd) fun _ _ => by simp only [Rv]
theorem pd_bltT {x : Str} {n : String} {pos : Pos} (hg : Gl X x) (hm : X.mg x = none) (hv : bootBuiltins x = some (.type n)) (hn : x ≠ "__name__" := by decide) (hd : (x == ("__debug__" : Str)) = false := by decide) : PED X (.Name x pos) (dC (.ty n)) :=
  pd_c (pe_bltn (v := .ty n) hg hm hv rfl hn hd) fun _ _ => by simp only [Rv]
end

/-! ### 10. Operators -/
def dOp (g : S → D → D → Option D) (fa fb : FE) : FE := fun s => (fa s).bind fun a s1 => (fb s1).bind fun b s2 => match g s2 a b with | some d => .ok d s2 | none => .bad
def OpS (X : Cx) (r : R2) (g : S → D → D → Option D) : Prop :=
  ∀ (H0 : Hp) (α0 : List Addr) (σ : Sg) (H : Hp) (α : List Addr) (s : S) (x y : V) (a b d : D) (Q : VK), Rel X.K H0 α0 H α σ s → Rx X.K H α σ a x → Rx X.K H α σ b y → g s a b = some d →
    (∀ v H' α', Rel X.K H0 α0 H' α' σ s → Stay H α H' α' → Rx X.K H' α' σ d v → Q v H') → r x y H fun v H1 => Gh H1 (Q v)
section
variable {X : Cx}
/-- two expressions, then k -/
theorem two_run {a b : Expr} {fa fb : FE} {W : WX} {ta tb : TE} (ha : ∀ H0 α0 σ H α s Q, Rel X.K H0 α0 H α σ s → PostE X.K H0 α0 σ W H α Q (fa s) → ta σ H Q)
    (hb : ∀ H0 α0 σ H α s Q, Rel X.K H0 α0 H α σ s → PostE X.K H0 α0 σ W H α Q (fb s) → tb σ H Q) {H0 : Hp} {α0 : List Addr} {σ : Sg} {H : Hp} {α : List Addr} {s : S} {Q : VK} {k : D → D → S → Res D} {R : V → V → Hp → Prop} (r : Rel X.K H0 α0 H α σ s)
    (q : PostE X.K H0 α0 σ W H α Q ((fa s).bind fun a s1 => (fb s1).bind fun b s2 => k a b s2))
    (hk : ∀ a b x y s2 H2 α2, Rel X.K H0 α0 H2 α2 σ s2 → Stay H α H2 α2 → Rx X.K H2 α2 σ a x → Rx X.K H2 α2 σ b y → PostE X.K H0 α0 σ W H α Q (k a b s2) → R x y H2) : ta σ H fun x H1 => tb σ H1 fun y H2 => R x y H2 := by
  refine ha H0 α0 σ H α s _ r ?_
  cases ea : fa s with
  | bad => rw [ea] at q; exact q.elim
  | exc e s1 => rw [ea] at q; exact q
  | ok a s1 =>
    rw [ea] at q
    intro x H1 α1 r1 t1 rx
    refine hb H0 α0 σ H1 α1 s1 _ r1 ?_
    have q' : PostE X.K H0 α0 σ W H α Q ((fb s1).bind fun b s2 => k a b s2) := q
    cases eb : fb s1 with
    | bad => rw [eb] at q'; exact q'.elim
    | exc e s2 => rw [eb] at q'; exact q'
    | ok b s2 =>
      rw [eb] at q'
      intro y H2 α2 r2 t2 ry
      exact hk a b x y s2 H2 α2 r2 (t1.trans t2) (rx.stay t2) ry q'
theorem PostE.mono {K : PySem.W.Frag} {H0 : Hp} {α0 : List Addr} {σ : Sg} {W : WX} {H H1 : Hp} {α α1 : List Addr} {Q : VK} (t : Stay H α H1 α1) {x : Res D} (q : PostE K H0 α0 σ W H α Q x) : PostE K H0 α0 σ W H1 α1 Q x := by
  cases x with
  | ok d s' => exact fun v H' α' r t' rx => q v H' α' r (t.trans t') rx
  | exc e s' => exact q
  | bad => exact q
theorem pd_opG {e a b : Expr} {r : R2} {g : S → D → D → Option D} {fa fb : FE} (hp : ∀ ta tb, PE X a ta → PE X b tb → PE X e (tOp (fun x y H Q => r x y H fun v H1 => Gh H1 (Q v)) ta tb)) (hs : OpS X r g) (ha : PED X a fa) (hb : PED X b fb) : PED X e (dOp g fa fb) := by
  refine ⟨fun W tk => ?_⟩
  obtain ⟨ta, pa, qa⟩ := ha.run W tk
  obtain ⟨tb, pb, qb⟩ := hb.run W tk
  refine ⟨_, hp ta tb pa pb, fun H0 α0 σ H α s Q rl q => ?_⟩
  refine two_run (a := a) (b := b) (W := W) qa qb rl q fun u w x y s2 H2 α2 r2 t2 rx ry q2 => ?_
  cases eg : g s2 u w with
  | none => rw [eg] at q2; exact q2.elim
  | some d =>
    rw [eg] at q2
    exact hs H0 α0 σ H2 α2 s2 x y u w d Q r2 rx ry eg fun v H' α' r' t' rv => q2 v H' α' r' (t2.trans t') rv
theorem pd_op {op : Operator} {a b : Expr} {pos : Pos} {r : R2} {g : S → D → D → Option D} {fa fb : FE} (ho : OpR X (binaryOp op) r) (hs : OpS X r g) (ha : PED X a fa) (hb : PED X b fb) : PED X (.BinOp a op b pos) (dOp g fa fb) :=
  pd_opG (fun _ _ pa pb => pe_op (opGh ho) pa pb) hs ha hb
theorem pd_cmp {op : CmpOp} {a b : Expr} {pos : Pos} {r : R2} {g : S → D → D → Option D} {fa fb : FE} (ho : OpR X (compareOp op) r) (hs : OpS X r g) (ha : PED X a fa) (hb : PED X b fb) (hm : behindInMarks op b = false) : PED X (.Compare a [op] [b] pos) (dOp g fa fb) :=
  pd_opG (fun _ _ pa pb => pe_cmpR (opGh ho) pa pb hm) hs ha hb
theorem OpS.or {r r' : R2} {g g' : S → D → D → Option D} (h : OpS X r g) (h' : OpS X r' g') : OpS X (fun x y H Q => r x y H Q ∨ r' x y H Q) (fun s a b => (g s a b).or (g' s a b)) := fun H0 α0 σ H α s x y a b d Q rl rx ry e q => by
  dsimp only at e
  cases eg : g s a b with
  | some d' =>
    rw [eg] at e
    obtain rfl : d' = d := Option.some.inj e
    exact .inl (h H0 α0 σ H α s x y a b d' Q rl rx ry eg q)
  | none =>
    rw [eg] at e
    have e : g' s a b = some d := e
    exact .inr (h' H0 α0 σ H α s x y a b d Q rl rx ry e q)
end
end DL

namespace DL
open PySem PySem.Spec PyProof.Rows L2
variable [DLX]
/-! ### 11. Ints -/
def gI (c : Int → Int → Bool) (f : Int → Int → D) : S → D → D → Option D := fun _ a b => match a, b with | .int i, .int j => if c i j then some (f i j) else none | _, _ => none
section
variable {X : Cx}
theorem rx_int {K : PySem.W.Frag} {H : Hp} {α : List Addr} {σ : Sg} {i : Int} {x : V} (h : Rx K H α σ (.int i) x) : x = .int i := by
  have h' : Rv K H α (.int i) x := h
  simpa only [Rv] using h'
theorem rx_str {K : PySem.W.Frag} {H : Hp} {α : List Addr} {σ : Sg} {i : Str} {x : V} (h : Rx K H α σ (.str i) x) : x = .str i := by
  have h' : Rv K H α (.str i) x := h
  simpa only [Rv] using h'
theorem rx_bl {K : PySem.W.Frag} {H : Hp} {α : List Addr} {σ : Sg} {i : Bool} {x : V} (h : Rx K H α σ (.bl i) x) : x = .bl i := by
  have h' : Rv K H α (.bl i) x := h
  simpa only [Rv] using h'
theorem rx_non {K : PySem.W.Frag} {H : Hp} {α : List Addr} {σ : Sg} {x : V} (h : Rx K H α σ .non x) : x = .non := by
  have h' : Rv K H α .non x := h
  simpa only [Rv] using h'
theorem ox_int {K : PySem.W.Frag} {H : Hp} {α : List Addr} {σ : Sg} {i : Int} : Rx K H α σ (.int i) (.int i) := by
  show Rv K H α (.int i) _
  simp only [Rv]
theorem ox_bl {K : PySem.W.Frag} {H : Hp} {α : List Addr} {σ : Sg} {i : Bool} : Rx K H α σ (.bl i) (.bl i) := by
  show Rv K H α (.bl i) _
  simp only [Rv]
theorem ox_str {K : PySem.W.Frag} {H : Hp} {α : List Addr} {σ : Sg} {i : Str} : Rx K H α σ (.str i) (.str i) := by
  show Rv K H α (.str i) _
  simp only [Rv]
theorem ox_non {K : PySem.W.Frag} {H : Hp} {α : List Addr} {σ : Sg} : Rx K H α σ .non .non := by
  show Rv K H α .non _
  simp only [Rv]
theorem os_I {C : Int → Int → Prop} {c : Int → Int → Bool} {f : Int → Int → Int} (h : ∀ i j, c i j = true → C i j) : OpS X (rI C fun i j => .int (f i j)) (gI c fun i j => .int (f i j)) := fun H0 α0 σ H α s x y a b d Q r rx ry e q => by
  unfold gI at e
  split at e
  · rename_i i j
    split at e
    · rename_i hc
      cases e
      rw [rx_int rx, rx_int ry]
      exact ⟨i, j, rfl, rfl, h i j hc, .inl (q _ _ _ r (Stay.refl _ _) ox_int)⟩
    · cases e
  · cases e
theorem os_I0 {f : Int → Int → Int} : OpS X (rI0 fun i j => .int (f i j)) (gI (fun _ _ => true) fun i j => .int (f i j)) := fun H0 α0 σ H α s x y a b d Q r rx ry e q => by
  unfold gI at e
  split at e
  · rename_i i j
    simp only [if_true, Option.some.injEq] at e
    subst e
    rw [rx_int rx, rx_int ry]
    exact ⟨i, j, rfl, rfl, .inl (q _ _ _ r (Stay.refl _ _) ox_int)⟩
  · cases e
theorem os_B0 {f : Int → Int → Bool} : OpS X (rI0 fun i j => .bl (f i j)) (gI (fun _ _ => true) fun i j => .bl (f i j)) := fun H0 α0 σ H α s x y a b d Q r rx ry e q => by
  unfold gI at e
  split at e
  · rename_i i j
    simp only [if_true, Option.some.injEq] at e
    subst e
    rw [rx_int rx, rx_int ry]
    exact ⟨i, j, rfl, rfl, .inl (q _ _ _ r (Stay.refl _ _) ox_bl)⟩
  · cases e
/-! the sizes that the machine takes -/
def fdivOk (i j : Int) : Bool := j != 0 && !Builtin.divisionGoesByPylong i j
def powOk (i j : Int) : Bool := decide (0 ≤ j) && !Builtin.Int.intTooBig (((Builtin.Int.intBits i : Nat) : Int) * j)
def mulOk (i j : Int) : Bool := decide (i.natAbs.log2 + j.natAbs.log2 < 100000000)
theorem mulOk_ok {i j : Int} (h : mulOk i j = true) : IntMulOk i j := by
  have h := of_decide_eq_true h
  have b : ∀ x : Int, Builtin.Int.intBits x ≤ x.natAbs.log2 + 1 := fun x => by
    unfold Builtin.Int.intBits
    split <;> omega
  have h1 := b i
  have h2 := b j
  have e : bitsLine = 134217728 := by decide
  unfold IntMulOk
  intro z
  rw [Bool.and_eq_true] at z
  have z2 := z.2
  unfold Builtin.Int.intTooBig at z2
  have z3 := of_decide_eq_true z2
  rw [e] at z3
  omega
theorem op_fdivX : OpR X (binaryOp .FloorDiv) (rI (fun i j => fdivOk i j = true) fun i j => .int (i.fdiv j)) := opI fun i j _ _ _ _ _ hc q => by
  unfold fdivOk at hc
  rw [Bool.and_eq_true] at hc
  exact floordiv_int (by simpa using hc.1) q (.inl (by simpa using hc.2))
theorem op_mulY : OpR X (binaryOp .Mult) (rI (fun i j => mulOk i j = true) fun i j => .int (i * j)) := opI fun _ _ _ _ _ _ _ hc q => mul_int q (mulOk_ok hc)
theorem op_powX : OpR X (binaryOp .Pow) (rI (fun i j => powOk i j = true) fun i j => .int (i ^ j.toNat)) := opI fun i j _ _ s Q E hc q => by
  unfold powOk at hc
  rw [Bool.and_eq_true] at hc
  have h0 : 0 ≤ j := of_decide_eq_true hc.1
  have hb : Builtin.Int.intTooBig (((Builtin.Int.intBits i : Nat) : Int) * j) = false := by simpa using hc.2
  refine AutoIntOpsIf.pow ?_
  rw [if_pos h0]
  by_cases e0 : (j == 0) = true
  · rw [if_pos e0]
    have e : j = 0 := by simpa using e0
    subst e
    simpa [Made.post] using q
  · rw [if_neg e0]
    by_cases e1 : (i == 0 || i == 1) = true
    · rw [if_pos e1]
      have hj : j.toNat ≠ 0 := by
        have : j ≠ 0 := by simpa using e0
        omega
      have e : i ^ j.toNat = i := by
        rcases (by simpa using e1 : i = 0 ∨ i = 1) with rfl | rfl
        · exact Int.zero_pow hj
        · exact Int.one_pow
      rw [e] at q
      simpa [Made.post] using q
    · rw [if_neg e1]
      by_cases e2 : (i == -1) = true
      · rw [if_pos e2]
        have ei : i = -1 := by simpa using e2
        subst ei
        have e : (-1 : Int) ^ j.toNat = if (j % 2 == 0) = true then 1 else -1 := by
          have key : ∀ n : Nat, (-1 : Int) ^ n = if n % 2 = 0 then 1 else -1 := by
            intro n
            induction n with
            | zero => rfl
            | succ n ih =>
              rw [Int.pow_succ, ih]
              split <;> split <;> omega
          rw [key]
          by_cases hj : j % 2 = 0
          · rw [if_pos (by omega), if_pos (by simp [hj])]
          · rw [if_neg (by omega), if_neg (by simp [hj])]
        rw [e] at q
        simpa [Made.post] using q
      · rw [if_neg e2, if_neg (by rw [hb]; decide)]
        simpa [Made.post] using q
end
/-! ### 12. Texts, tuples, lists put together -/
def gAdd : S → D → D → Option D := fun s a b => match a, b with
  | .int i, .int j => some (.int (i + j))
  | .str x, .str y => if x.length + y.length ≤ 16777216 then some (.str (x ++ y)) else none
  | .tup x, .tup y => if x.length + y.length ≤ 16777216 then some (.tup (x ++ y)) else none
  | a, b => match asL s a, asL s b with
    | some x, some y => if x.length + y.length ≤ 16777216 then some (.lst (x ++ y)) else none
    | _, _ => none
def rCatS (K : PySem.W.Frag) : R2 := fun x y H Q => ∃ l b xs zs, x = .ref l ∧ y = .ref b ∧ SqL K H l xs ∧ SqL K H b zs ∧ xs.length + zs.length ≤ sizeLine ∧ ∀ p, H p = none → Q (.ref p) (upd H p (.lst (xs ++ zs)))
def rAddS : R2 := fun x y H Q => ∃ i j, x = .str i ∧ y = .str j ∧ i.length + j.length ≤ sizeLine ∧ Q (.str (i ++ j)) H
section
variable {X : Cx}
theorem op_catS : OpR X (binaryOp .Add) (rCatS X.K) := by
  intro pins s σ H x y v u Q I rx ry h
  obtain ⟨l, b, xs, zs, rfl, rfl, hH, hB, hz, q⟩ := h
  cases rx
  cases ry
  obtain ⟨its, r, hl, _⟩ := I.list hH
  obtain ⟨its2, r2, hl2, _⟩ := I.list hB
  obtain ⟨⟨cls, dd, data, sl⟩, ho, hc, n, hd⟩ := hl.isList
  obtain ⟨⟨cls2, dd2, data2, sl2⟩, ho2, hc2, n2, hd2⟩ := hl2.isList
  simp only at hc hd hc2 hd2
  subst hc hd hc2 hd2
  have e : its.toArray ++ its2.toArray = (its ++ its2).toArray := by simp
  have e1 := r.length
  have e2 := r2.length
  refine concat_meets ⟨_, ho, rfl⟩ ⟨_, ho2, rfl⟩ noFill_list_add seq_list_add PySem.F.slot_list_add PySem.F.entry_list_add (PySem.F.args_list_add_2 _ _) (list_addW l b its.toArray its2.toArray n n2 dd dd2 sl sl2 (by simp only [List.size_toArray]; omega)) ⟨ho, ho2, ?_⟩
  rw [e]
  exact ⟨.ref _, _, I.lnew (t' := s.toks) (r.append r2) (by rw [List.length_append]; omega), rfl, q _ I.fresh⟩
def rAdd4 (K : PySem.W.Frag) : R2 := fun x y H Q => rI0 (fun i j => .int (i + j)) x y H Q ∨ rAddS x y H Q ∨ rCatA K x y H Q ∨ rCatS K x y H Q
theorem op_add4 : OpR X (binaryOp .Add) (rAdd4 X.K) := op_add.or (OpR.or (r := rAddS) op_add_str (op_catA.or op_catS))
theorem Rvs.nil_iff {K : PySem.W.Frag} {H : Hp} {α : List Addr} {ds : List D} {vs : List V} (h : Rvs K H α ds vs) : vs = [] ↔ ds = [] := by
  have e := h.length
  constructor
  · intro q; rw [q] at e; exact List.eq_nil_of_length_eq_zero e.symm
  · intro q; rw [q] at e; exact List.eq_nil_of_length_eq_zero e
theorem os_add : OpS X (rAdd4 X.K) gAdd := fun H0 α0 σ H α s x y a b d Q r rx ry e q => by
  unfold gAdd at e
  split at e
  · cases e
    rw [rx_int rx, rx_int ry]
    exact .inl ⟨_, _, rfl, rfl, .inl (q _ _ _ r (Stay.refl _ _) ox_int)⟩
  · split at e
    · rename_i hz
      cases e
      rw [← sizeLine_eq] at hz
      rw [rx_str rx, rx_str ry]
      exact .inr (.inl ⟨_, _, rfl, rfl, hz, .inl (q _ _ _ r (Stay.refl _ _) ox_str)⟩)
    · cases e
  · split at e
    · rename_i u w hz
      cases e
      rw [← sizeLine_eq] at hz
      obtain ⟨p, vs, rfl, h1, r1⟩ := asT_ok rx
      obtain ⟨p2, vs2, rfl, h2, r2⟩ := asT_ok ry
      refine .inr (.inr (.inl ⟨p, p2, vs, vs2, rfl, rfl, h1, h2, by rw [r1.length, r2.length]; exact hz, fun e => ?_, fun _ e => ?_, fun n1 n2 l hl => ?_⟩))
      · have e' := r1.nil_iff.mp e
        subst e'
        exact .inl (q _ _ _ r (Stay.refl _ _) ry)
      · have e' := r2.nil_iff.mp e
        subst e'
        rw [List.append_nil] at q
        exact .inl (q _ _ _ r (Stay.refl _ _) rx)
      · exact .inl (new_tup r hl (r1.append r2) q)
    · cases e
  · split at e
    · rename_i u w e1 e2
      split at e
      · rename_i hz
        cases e
        rw [← sizeLine_eq] at hz
        obtain ⟨p, vs, rfl, h1, r1⟩ := asL_ok r rx e1
        obtain ⟨p2, vs2, rfl, h2, r2⟩ := asL_ok r ry e2
        exact .inr (.inr (.inr ⟨p, p2, vs, vs2, rfl, rfl, h1, h2, by rw [r1.length, r2.length]; exact hz, fun l hl => gh_list r hl (r1.append r2) q⟩))
      · cases e
    · cases e
theorem pd_add {a b : Expr} {pos : Pos} {fa fb : FE} (ha : PED X a fa) (hb : PED X b fb) : PED X (.BinOp a .Add b pos) (dOp gAdd fa fb) := pd_op op_add4 os_add ha hb
abbrev gSub := gI (fun _ _ => true) fun i j => .int (i - j)
abbrev gFdiv := gI fdivOk fun i j => .int (i.fdiv j)
abbrev gMod := gI (fun _ j => j != 0) fun i j => .int (i.fmod j)
abbrev gPow := gI powOk fun i j => .int (i ^ j.toNat)
theorem pd_sub {a b : Expr} {pos : Pos} {fa fb : FE} (ha : PED X a fa) (hb : PED X b fb) : PED X (.BinOp a .Sub b pos) (dOp gSub fa fb) := pd_op op_sub os_I0 ha hb
theorem pd_fdiv {a b : Expr} {pos : Pos} {fa fb : FE} (ha : PED X a fa) (hb : PED X b fb) : PED X (.BinOp a .FloorDiv b pos) (dOp gFdiv fa fb) := pd_op op_fdivX (os_I fun _ _ h => h) ha hb
theorem pd_mod {a b : Expr} {pos : Pos} {fa fb : FE} (ha : PED X a fa) (hb : PED X b fb) : PED X (.BinOp a .Mod b pos) (dOp gMod fa fb) := pd_op op_modN (os_I fun _ _ h => by simpa using h) ha hb
theorem pd_pow {a b : Expr} {pos : Pos} {fa fb : FE} (ha : PED X a fa) (hb : PED X b fb) : PED X (.BinOp a .Pow b pos) (dOp gPow fa fb) := pd_op op_powX (os_I fun _ _ h => h) ha hb
end
end DL

namespace DL
open PySem PySem.Spec PyProof.Rows L2
variable [DLX]
/-! ### 13. Data as the library has it -/
mutual
def toPy : D → Option PyData
  | .non => some .none
  | .bl b => some (.bool b)
  | .int i => some (.int i)
  | .str x => some (.str x)
  | .tup xs => (toPyL xs).map .tuple
  | .lst xs => (toPyL xs).map .list
  | .dct kvs => (toPyK kvs).map .dict
  | _ => none
def toPyL : List D → Option (List PyData)
  | [] => some []
  | x :: xs => match toPy x, toPyL xs with | some y, some ys => some (y :: ys) | _, _ => none
def toPyK : List (D × D) → Option (List (PyData × PyData))
  | [] => some []
  | (k, x) :: xs => match toPy k, toPy x, toPyK xs with | some q, some y, some ys => some ((q, y) :: ys) | _, _, _ => none
end
/-- through a slot or a shared cell -/
def toPyS (s : S) (d : D) : Option PyData := match d with
  | .own _ | .ref _ => (asL s d).bind fun xs => (toPyL xs).map .list
  | d => toPy d
section
variable {X : Cx} {pins : List (Addr × Obj)} {σ : Sg} {H : Hp} {α : List Addr} {s : Shared}
/-- no list within -/
def keyPy : Key → PyData | .inl i => .int i | .inr x => .str x
theorem readsAll_keys {h : Heap} : ∀ {ks : List Key} {us : List Value}, Paired (fun k u => keyIs k u = true) ks us → ReadsAll h us (ks.map keyPy) []
  | [], _, .nil => .nil
  | k :: ks, u :: us, .cons r t => by
    have q := readsAll_keys (h := h) t
    rcases keyIs_shape r with ⟨i, tk, rfl, rfl⟩ | ⟨x, tk, rfl, rfl⟩
    · exact .cons (.int i tk) q
    · exact .cons (.str x tk) q
theorem toPy_key {k : D} {q : Key} {p : PyData} (h : keyD k = some q) (e : toPy k = some p) : p = keyPy q := by
  cases k <;> simp only [keyD, Option.some.injEq, reduceCtorEq] at h
  · subst h; simp only [toPy, Option.some.injEq] at e; exact e.symm
  · subst h; simp only [toPy, Option.some.injEq] at e; exact e.symm
theorem pairs_keys {P : Program} {w : World} : ∀ {es : List DictEntry} {kvs : List (Key × Value)}, Pairs (mixKind P w) es kvs → Paired (fun k u => keyIs k u = true) (kvs.map (·.1)) (es.map (·.key)) ∧ es.map (·.val) = kvs.map (·.2)
  | [], _, .nil => ⟨.nil, rfl⟩
  | en :: es, _, .cons a b c => by
    obtain ⟨q1, q2⟩ := pairs_keys c
    refine ⟨.cons a q1, ?_⟩
    simp only [List.map_cons, q2, b]
mutual
def noL : D → Bool
  | .tup xs => noLs xs
  | .lst _ => false
  | .dct kvs => noLk kvs
  | _ => true
def noLs : List D → Bool
  | [] => true
  | x :: xs => noL x && noLs xs
def noLk : List (D × D) → Bool
  | [] => true
  | (_, x) :: xs => noL x && noLk xs
end
mutual
theorem reads_ok (I : Inv X pins σ H s) : ∀ (d : D) (v : V) (u : Value) (p : PyData), Rv X.K H α d v → RelV v u → toPy d = some p → ∃ as, Reads s.heap u p as ∧ (noL d = true → sysModules ∉ as)
  | .non, v, u, p, h, r, e => by
    simp only [Rv] at h
    subst h
    cases r
    simp only [toPy, Option.some.injEq] at e
    subst e
    exact ⟨_, .none, fun _ z => nomatch z⟩
  | .bl b, v, u, p, h, r, e => by
    simp only [Rv] at h
    subst h
    cases r
    simp only [toPy, Option.some.injEq] at e
    subst e
    exact ⟨_, .bool b, fun _ z => nomatch z⟩
  | .int i, v, u, p, h, r, e => by
    simp only [Rv] at h
    subst h
    obtain ⟨t, rfl⟩ := r
    simp only [toPy, Option.some.injEq] at e
    subst e
    exact ⟨_, .int i t, fun _ z => nomatch z⟩
  | .str i, v, u, p, h, r, e => by
    simp only [Rv] at h
    subst h
    obtain ⟨t, rfl⟩ := r
    simp only [toPy, Option.some.injEq] at e
    subst e
    exact ⟨_, .str i t, fun _ z => nomatch z⟩
  | .tup xs, v, u, p, h, r, e => by
    simp only [Rv] at h
    obtain ⟨a, vs, rfl, hs, rr⟩ := h
    cases r
    simp only [toPy, Option.map_eq_some_iff] at e
    obtain ⟨ps, e, rfl⟩ := e
    obtain ⟨its, rv, ⟨o, ho, hc, n, hd⟩, _⟩ := I.tuple hs
    obtain ⟨as, q, nl⟩ := readsL_ok I xs vs its ps rr rv e
    exact ⟨as, .tuple ho hc hd (by simpa using q), fun z => nl (by simpa only [noL] using z)⟩
  | .lst xs, v, u, p, h, r, e => by
    simp only [Rv] at h
    obtain ⟨a, vs, rfl, hs, rr⟩ := h
    cases r
    simp only [toPy, Option.map_eq_some_iff] at e
    obtain ⟨ps, e, rfl⟩ := e
    obtain ⟨its, rv, hl, _⟩ := I.list hs.sq
    obtain ⟨o, ho, hc, n, hd⟩ := hl.isList
    obtain ⟨as, q, nl⟩ := readsL_ok I xs vs its ps rr rv e
    exact ⟨_, .list ho hc hd (by simpa using q), fun z => by simp only [noL] at z; cases z⟩
  | .dct kvs, v, u, p, h, r, e => by
    simp only [Rv] at h
    obtain ⟨a, o, rfl, h⟩ := h
    cases r
    simp only [toPy, Option.map_eq_some_iff] at e
    obtain ⟨ps, e, rfl⟩ := e
    rcases h with ⟨kv, hf, rr⟩ | ⟨kv, _, hf, rr⟩
    · obtain ⟨ns, ho, hx, es, ep, vs, hdt, hsz, hkv, o2, es2, ho2, hx2, hd2, hk2, hp2, nd2⟩ := I.frzK hf
      rw [ho] at ho2
      cases ho2
      rw [hdt] at hd2
      cases hd2
      obtain ⟨pk, pe⟩ := pairs_keys hp2
      obtain ⟨bs, q1, q2, nl⟩ := readsK_ok I kvs kv vs ps rr hkv e
      refine ⟨_, .dict (as := []) (bs := bs) ho hx.1 hdt ?_ ?_, fun z hm => ?_⟩
      · rw [q1]
        exact readsAll_keys pk
      · rw [pe]
        exact q2
      · rcases List.mem_cons.mp hm with z1 | z1
        · rw [← z1] at ns
          simp at ns
        · exact nl (by simpa only [noL] using z) (by simpa using z1)
    · obtain ⟨hd, z0, ns, xs, pr, o2, es, ep, ho, hx, hdt, he, _⟩ := I.hok a _ hf
      rw [hd] at ho
      cases ho
      obtain ⟨as, bs, q1, q2, nl⟩ := readsT_ok I kvs kv xs ps rr pr e
      refine ⟨_, .dict hd hx.1 hdt (as := as) (bs := bs) ?_ ?_, fun z hm => ?_⟩
      · rw [he, List.map_map]
        exact q1
      · rw [he, List.map_map]
        exact q2
      · rcases List.mem_cons.mp hm with z1 | z1
        · rw [← z1] at ns
          simp at ns
        · exact nl (by simpa only [noL] using z) z1
  | .adr _, _, _, _, _, _, e => by simp only [toPy, reduceCtorEq] at e
  | .fn _, _, _, _, _, _, e => by simp only [toPy, reduceCtorEq] at e
  | .ty _, _, _, _, _, _, e => by simp only [toPy, reduceCtorEq] at e
  | .ref _, _, _, _, _, _, e => by simp only [toPy, reduceCtorEq] at e
  | .own _, _, _, _, _, _, e => by simp only [toPy, reduceCtorEq] at e
  | .obj _ _, _, _, _, _, _, e => by simp only [toPy, reduceCtorEq] at e
theorem readsL_ok (I : Inv X pins σ H s) : ∀ (ds : List D) (vs : List V) (us : List Value) (ps : List PyData), Rvs X.K H α ds vs → Vals vs us → toPyL ds = some ps → ∃ as, ReadsAll s.heap us ps as ∧ (noLs ds = true → sysModules ∉ as)
  | [], vs, us, ps, h, r, e => by
    simp only [Rvs] at h
    subst h
    cases r
    simp only [toPyL, Option.some.injEq] at e
    subst e
    exact ⟨_, .nil, fun _ z => nomatch z⟩
  | d :: ds, l, us, ps, h, r, e => by
    simp only [Rvs] at h
    obtain ⟨v, vs, rfl, h1, h2⟩ := h
    cases r with
    | cons r1 r2 =>
      simp only [toPyL] at e
      split at e
      · rename_i y ys e1 e2
        cases e
        obtain ⟨as, q1, n1⟩ := reads_ok I d v _ y h1 r1 e1
        obtain ⟨bs, q2, n2⟩ := readsL_ok I ds vs _ ys h2 r2 e2
        refine ⟨_, .cons q1 q2, fun z hm => ?_⟩
        simp only [noLs, Bool.and_eq_true] at z
        rcases List.mem_append.mp hm with z1 | z1
        · exact n1 z.1 z1
        · exact n2 z.2 z1
      · cases e
theorem readsK_ok (I : Inv X pins σ H s) : ∀ (ds : List (D × D)) (kv : List (Key × V)) (vs : List (Key × Value)) (ps : List (PyData × PyData)), Rkv X.K H α ds kv → KV kv vs → toPyK ds = some ps →
    ∃ bs, ps.map (·.1) = (vs.map (·.1)).map keyPy ∧ ReadsAll s.heap (vs.map (·.2)) (ps.map (·.2)) bs ∧ (noLk ds = true → sysModules ∉ bs)
  | [], kv, vs, ps, h, r, e => by
    simp only [Rkv] at h
    subst h
    cases r
    simp only [toPyK, Option.some.injEq] at e
    subst e
    exact ⟨[], rfl, .nil, fun _ z => nomatch z⟩
  | (k, d) :: ds, l, vs, ps, h, r, e => by
    simp only [Rkv] at h
    obtain ⟨q, v, kv, rfl, h0, h1, h2⟩ := h
    cases r with
    | cons r1 r2 =>
      rename_i kv2 vs2
      obtain ⟨k2, u2⟩ := kv2
      simp only [toPyK] at e
      split at e
      · rename_i y0 y ys e0 e1 e2
        cases e
        obtain ⟨as, q1, n1⟩ := reads_ok I d v _ y h1 r1.2 e1
        obtain ⟨bs, qb, q2, n2⟩ := readsK_ok I ds kv vs2 ys h2 r2 e2
        refine ⟨as ++ bs, ?_, .cons q1 q2, fun z hm => ?_⟩
        · simp only [List.map_cons, qb, toPy_key h0 e0]
          rw [show q = k2 from r1.1]
        · simp only [noLk, Bool.and_eq_true] at z
          rcases List.mem_append.mp hm with z1 | z1
          · exact n1 z.1 z1
          · exact n2 z.2 z1
      · cases e
theorem readsT_ok (I : Inv X pins σ H s) : ∀ (ds : List (D × D)) (kv : List (List Key × V)) (xs : List (List Key × Addr × Value)) (ps : List (PyData × PyData)), RkT X.K H α ds kv →
    Paired (fun (p : List Key × V) (q : List Key × Addr × Value) => p.1 = q.1 ∧ H q.2.1 = some (.tup (p.1.map kV)) ∧ RelV p.2 q.2.2) kv xs → toPyK ds = some ps →
    ∃ as bs, ReadsAll s.heap (xs.map ((·.key) ∘ entryOfKey (tupleKind (mixKind X.prog X.w)))) (ps.map (·.1)) as ∧ ReadsAll s.heap (xs.map ((·.val) ∘ entryOfKey (tupleKind (mixKind X.prog X.w)))) (ps.map (·.2)) bs ∧ (noLk ds = true → sysModules ∉ as ++ bs)
  | [], kv, vs, ps, h, r, e => by
    simp only [RkT] at h
    subst h
    cases r
    simp only [toPyK, Option.some.injEq] at e
    subst e
    exact ⟨[], [], .nil, .nil, fun _ z => nomatch z⟩
  | (k, d) :: ds, l, vs, ps, h, r, e => by
    simp only [RkT] at h
    obtain ⟨q, v, kv, rfl, h0, h1, h2⟩ := h
    cases r with
    | cons r1 r2 =>
      rename_i x xs
      obtain ⟨k2, a2, u2⟩ := x
      simp only [toPyK] at e
      split at e
      · rename_i y0 y ys e0 e1 e2
        cases e
        obtain ⟨as, q1, n1⟩ := reads_ok I d v _ y h1 r1.2.2 e1
        obtain ⟨as', bs, qa, qb, n2⟩ := readsT_ok I ds kv xs ys h2 r2 e2
        have kt : Reads s.heap (.ref a2) y0 [] := by
          have hq : H a2 = some (.tup (q.map kV)) := r1.2.1
          obtain ⟨_, its, rv, o, ho, hc, n, hd⟩ := I.hok a2 _ hq
          cases k <;> simp only [keyT, reduceCtorEq] at h0
          rename_i ks
          simp only [toPy, Option.map_eq_some_iff] at e0
          obtain ⟨ps0, e0, rfl⟩ := e0
          refine .tuple ho hc hd ?_
          simp only [List.toList_toArray]
          clear hd
          have gen : ∀ (ks : List D) (q : List Key) (its : List Value) (ps0 : List PyData), ks.mapM keyD = some q → Vals (q.map kV) its → toPyL ks = some ps0 → ReadsAll s.heap its ps0 [] := by
            intro ks
            induction ks with
            | nil =>
              intro q its ps0 h0 rv e0
              simp only [List.mapM_nil, Option.pure_def, Option.some.injEq] at h0
              subst h0
              cases rv
              simp only [toPyL, Option.some.injEq] at e0
              subst e0
              exact .nil
            | cons k ks ih =>
              intro q its ps0 h0 rv e0
              rw [List.mapM_cons] at h0
              cases hk : keyD k with
              | none => rw [hk] at h0; cases h0
              | some k1 =>
                rw [hk] at h0
                cases hks : ks.mapM keyD with
                | none => rw [hks] at h0; cases h0
                | some ks1 =>
                  rw [hks] at h0
                  cases h0
                  simp only [List.map_cons] at rv
                  cases rv with
                  | cons ra rb =>
                    simp only [toPyL] at e0
                    split at e0
                    · rename_i y ys e1 e2
                      cases e0
                      have ey := toPy_key hk e1
                      subst ey
                      have rest := ih ks1 _ ys hks rb e2
                      cases k1 with
                      | inl i =>
                        obtain ⟨t, rfl⟩ := ra
                        exact .cons (.int i t) rest
                      | inr x =>
                        obtain ⟨t, rfl⟩ := ra
                        exact .cons (.str x t) rest
                    · cases e0
          exact gen ks q its ps0 h0 rv e0
        refine ⟨_, _, .cons kt qa, .cons q1 qb, fun z hm => ?_⟩
        simp only [noLk, Bool.and_eq_true] at z
        rcases List.mem_append.mp hm with z1 | z1
        · exact n2 z.2 (List.mem_append_left _ (by simpa using z1))
        · rcases List.mem_append.mp z1 with z2 | z2
          · exact n1 z.1 z2
          · exact n2 z.2 (List.mem_append_right _ z2)
      · cases e
end
theorem rx_reads {H0 : Hp} {α0 : List Addr} {σ1 : Sg} {st : S} (I : Inv X pins σ H s) (rl : Rel X.K H0 α0 H α σ1 st) {d : D} {v : V} {u : Value} {p : PyData} (h : Rx X.K H α σ1 d v) (r : RelV v u) : toPyS st d = some p → ∃ as, Reads s.heap u p as := by
  have viaL : ∀ d, asL st d ≠ none → Rx X.K H α σ1 d v → ((asL st d).bind fun xs => (toPyL xs).map .list) = some p → ∃ as, Reads s.heap u p as := by
    intro d hn h e
    cases ea : asL st d with
    | none => exact absurd ea hn
    | some xs =>
      rw [ea] at e
      simp only [Option.bind_some, Option.map_eq_some_iff] at e
      obtain ⟨ps, e, rfl⟩ := e
      obtain ⟨a, vs, rfl, hs, rr⟩ := asL_ok rl h ea
      cases r
      obtain ⟨its, rv, hl, _⟩ := I.list hs
      obtain ⟨o, ho, hc, n, hd⟩ := hl.isList
      obtain ⟨as, q, _⟩ := readsL_ok I xs vs its ps rr rv e
      exact ⟨_, .list ho hc hd (by simpa using q)⟩
  intro e
  cases d
  case own i =>
    have e' : ((asL st (.own i)).bind fun xs => (toPyL xs).map .list) = some p := e
    exact viaL _ (fun z => by rw [z] at e'; cases e') h e'
  case ref i =>
    have e' : ((asL st (.ref i)).bind fun xs => (toPyL xs).map .list) = some p := e
    exact viaL _ (fun z => by rw [z] at e'; cases e') h e'
  all_goals
    obtain ⟨as, q, _⟩ := reads_ok I _ v u p h r e
    exact ⟨as, q⟩
end
end DL

namespace DL
open PySem PySem.Spec PyProof.Rows L2
variable [DLX]
/-! ### 14. Comparisons of data -/
def rDat (K : PySem.W.Frag) (g : PyData → PyData → Option Bool) : R2 := fun x y H Q => ∃ H0 α0 α σ st a b p q r, Rel K H0 α0 H α σ st ∧ Rx K H α σ a x ∧ Rx K H α σ b y ∧ toPyS st a = some p ∧ toPyS st b = some q ∧ g p q = some r ∧ Q (.bl r) H
def gDat (g : PyData → PyData → Option Bool) : S → D → D → Option D := fun s a b => match toPyS s a, toPyS s b with
  | some p, some q => (g p q).map .bl
  | _, _ => none
def eqG (p q : PyData) : Option Bool := if SeqAt.shaped p && SeqAt.shaped q then some (PyData.eqv p q) else none
def neG (p q : PyData) : Option Bool := if SeqAt.shaped p && SeqAt.shaped q then some (!PyData.eqv p q) else none
def inG (p q : PyData) : Option Bool := match q with
  | .list xs => if SeqAt.shaped p && SeqAt.shaped q then some (xs.any fun y => PyData.eqv y p) else none
  | .tuple xs => if SeqAt.shaped p && SeqAt.shaped q then some (xs.any fun y => PyData.eqv y p) else none
  | .str z => (match p with | .str x => some (!(Builtin.Str.occurrences z x 0 z.length 1).isEmpty) | _ => none)
  | _ => none
def niG (p q : PyData) : Option Bool := (inG p q).map not
def isN (_ : S) (a b : D) : Option D := match b with
  | .non => (match a with | .own _ => none | .non => some (.bl true) | _ => some (.bl false))
  | _ => none
def notN (_ : S) (a b : D) : Option D := match b with
  | .non => (match a with | .own _ => none | .non => some (.bl false) | _ => some (.bl true))
  | _ => none
section
variable {X : Cx}
theorem os_dat {g : PyData → PyData → Option Bool} : OpS X (rDat X.K g) (gDat g) := fun H0 α0 σ H α s x y a b d Q r rx ry e q => by
  unfold gDat at e
  split at e
  · rename_i p w e1 e2
    simp only [Option.map_eq_some_iff] at e
    obtain ⟨k, e3, rfl⟩ := e
    exact ⟨H0, α0, α, σ, s, a, b, p, w, k, r, rx, ry, e1, e2, e3, .inl (q _ _ _ r (Stay.refl _ _) ox_bl)⟩
  · cases e
theorem op_eqX (hu : X.A.units + 65 < cLine) : OpR X (compareOp .Eq) (rDat X.K eqG) := by
  intro pins s σ H x y v u Q I rx ry h
  obtain ⟨H0, α0, α, σ1, st, a, b, p, q, r, rl, ra, rb, ea, eb, eg, k⟩ := h
  obtain ⟨as, r1⟩ := rx_reads I rl ra rx ea
  obtain ⟨bs, r2⟩ := rx_reads I rl rb ry eb
  unfold eqG at eg
  split at eg
  · rename_i hs
    rw [Bool.and_eq_true] at hs
    cases eg
    exact SeqAt.compareEq_shaped r1 r2 hs.1 hs.2 (by omega) ⟨.bl _, H, I, rfl, k⟩
  · cases eg
theorem op_neX (hu : X.A.units + 65 < cLine) : OpR X (compareOp .NotEq) (rDat X.K neG) := by
  intro pins s σ H x y v u Q I rx ry h
  obtain ⟨H0, α0, α, σ1, st, a, b, p, q, r, rl, ra, rb, ea, eb, eg, k⟩ := h
  obtain ⟨as, r1⟩ := rx_reads I rl ra rx ea
  obtain ⟨bs, r2⟩ := rx_reads I rl rb ry eb
  unfold neG at eg
  split at eg
  · rename_i hs
    rw [Bool.and_eq_true] at hs
    cases eg
    exact SeqAt.compareNe_shaped r1 r2 hs.1 hs.2 (by omega) ⟨.bl _, H, I, rfl, k⟩
  · cases eg
theorem op_inX (hu : X.A.units + 65 < cLine) : OpR X (compareOp .In) (rDat X.K inG) := by
  intro pins s σ H x y v u Q I rx ry h
  obtain ⟨H0, α0, α, σ1, st, a, b, p, q, r, rl, ra, rb, ea, eb, eg, k⟩ := h
  obtain ⟨as, r1⟩ := rx_reads I rl ra rx ea
  obtain ⟨bs, r2⟩ := rx_reads I rl rb ry eb
  unfold inG at eg
  split at eg
  · split at eg
    · rename_i hs
      rw [Bool.and_eq_true] at hs
      cases eg
      exact SeqAt.in_list_reads r2 r1 (SeqAt.canLay_of_shaped hs.2) (SeqAt.canLay_of_shaped hs.1) (room_in_shaped hs.1 hu) ⟨.bl _, H, I, rfl, k⟩
    · cases eg
  · split at eg
    · rename_i hs
      rw [Bool.and_eq_true] at hs
      cases eg
      exact SeqAt.in_tuple_reads r2 r1 (SeqAt.canLay_of_shaped hs.2) (SeqAt.canLay_of_shaped hs.1) (room_in_shaped hs.1 hu) ⟨.bl _, H, I, rfl, k⟩
    · cases eg
  · split at eg
    · cases eg
      cases r1
      cases r2
      have sx : x = .str _ := RelV.inj rx ⟨_, rfl⟩
      have sy : y = .str _ := RelV.inj ry ⟨_, rfl⟩
      exact op_in_str pins s σ H x y _ _ Q I rx ry ⟨_, _, sx, sy, k⟩
    · cases eg
  · cases eg
theorem op_niX (hu : X.A.units + 65 < cLine) : OpR X (compareOp .NotIn) (rDat X.K niG) := by
  intro pins s σ H x y v u Q I rx ry h
  obtain ⟨H0, α0, α, σ1, st, a, b, p, q, r, rl, ra, rb, ea, eb, eg, k⟩ := h
  obtain ⟨as, r1⟩ := rx_reads I rl ra rx ea
  obtain ⟨bs, r2⟩ := rx_reads I rl rb ry eb
  unfold niG inG at eg
  simp only [Option.map_eq_some_iff] at eg
  obtain ⟨r', eg, rfl⟩ := eg
  split at eg
  · split at eg
    · rename_i hs
      rw [Bool.and_eq_true] at hs
      cases eg
      exact SeqAt.notIn_list_reads r2 r1 (SeqAt.canLay_of_shaped hs.2) (SeqAt.canLay_of_shaped hs.1) (room_in_shaped hs.1 hu) ⟨.bl _, H, I, rfl, k⟩
    · cases eg
  · split at eg
    · rename_i hs
      rw [Bool.and_eq_true] at hs
      cases eg
      exact SeqAt.notIn_tuple_reads r2 r1 (SeqAt.canLay_of_shaped hs.2) (SeqAt.canLay_of_shaped hs.1) (room_in_shaped hs.1 hu) ⟨.bl _, H, I, rfl, k⟩
    · cases eg
  · split at eg
    · cases eg
      cases r1
      cases r2
      have sx : x = .str _ := RelV.inj rx ⟨_, rfl⟩
      have sy : y = .str _ := RelV.inj ry ⟨_, rfl⟩
      exact op_notin_str pins s σ H x y _ _ Q I rx ry ⟨_, _, sx, sy, k⟩
    · cases eg
  · cases eg
theorem rv_ne_non {K : PySem.W.Frag} {H : Hp} {α : List Addr} {d : D} {v : V} (h : Rv K H α d v) (n : d ≠ .non) : v ≠ .non := by
  intro z
  subst z
  cases d <;> simp only [Rv, reduceCtorEq, false_and, and_false, exists_false, exists_const] at h
  exact n rfl
theorem os_isN : OpS X (fun x y H Q => y = .non ∧ Q (.bl (decide (x = .non))) H) isN := fun H0 α0 σ H α s x y a b d Q r rx ry e q => by
  unfold isN at e
  split at e
  · refine ⟨rx_non ry, .inl ?_⟩
    split at e
    · cases e
    · cases e
      rw [rx_non rx]
      exact q _ _ _ r (Stay.refl _ _) ox_bl
    · rename_i n1 n2
      cases e
      have h := rv_ne_non (rx.rv (fun i z => n1 i z)) n2
      rw [decide_eq_false h]
      exact q _ _ _ r (Stay.refl _ _) ox_bl
  · cases e
theorem os_notN : OpS X (fun x y H Q => y = .non ∧ Q (.bl (!decide (x = .non))) H) notN := fun H0 α0 σ H α s x y a b d Q r rx ry e q => by
  unfold notN at e
  split at e
  · refine ⟨rx_non ry, .inl ?_⟩
    split at e
    · cases e
    · cases e
      rw [rx_non rx]
      exact q _ _ _ r (Stay.refl _ _) ox_bl
    · rename_i n1 n2
      cases e
      have h := rv_ne_non (rx.rv (fun i z => n1 i z)) n2
      rw [decide_eq_false h]
      exact q _ _ _ r (Stay.refl _ _) ox_bl
  · cases e
end
/-- an operator's rule with what it does to data -/
structure Cmp (X : Cx) (op : CmpOp) (g : S → D → D → Option D) : Prop where
  ex : ∃ r, OpR X (compareOp op) r ∧ OpS X r g
section
variable {X : Cx} {hu : X.A.units + 65 < cLine}
abbrev gLt := gI (fun _ _ => true) fun i j => .bl (decide (i < j))
abbrev gLe := gI (fun _ _ => true) fun i j => .bl (decide (i ≤ j))
abbrev gGt := gI (fun _ _ => true) fun i j => .bl (decide (j < i))
abbrev gGe := gI (fun _ _ => true) fun i j => .bl (decide (j ≤ i))
theorem c_lt : Cmp X .Lt gLt := ⟨_, op_lt, os_B0⟩
theorem c_le : Cmp X .LtE gLe := ⟨_, op_le, os_B0⟩
theorem c_gt : Cmp X .Gt gGt := ⟨_, op_gt, os_B0⟩
theorem c_ge : Cmp X .GtE gGe := ⟨_, op_ge, os_B0⟩
theorem c_eq (hu : X.A.units + 65 < cLine) : Cmp X .Eq (gDat eqG) := ⟨_, op_eqX hu, os_dat⟩
theorem c_ne (hu : X.A.units + 65 < cLine) : Cmp X .NotEq (gDat neG) := ⟨_, op_neX hu, os_dat⟩
theorem c_in (hu : X.A.units + 65 < cLine) : Cmp X .In (gDat inG) := ⟨_, op_inX hu, os_dat⟩
theorem c_ni (hu : X.A.units + 65 < cLine) : Cmp X .NotIn (gDat niG) := ⟨_, op_niX hu, os_dat⟩
theorem c_is : Cmp X .Is isN := ⟨_, op_isN, os_isN⟩
theorem c_isnot : Cmp X .IsNot notN := ⟨_, op_notN, os_notN⟩
/-! ### 15. Tests -/
def truthD (s : S) (d : D) : Option Bool := match d with
  | .bl b => some b
  | .int i => some (i != 0)
  | .non => some false
  | .str x => if x.length ≤ 16777216 then some ((x.length : Int) != 0) else none
  | .tup xs => some (!xs.isEmpty)
  | d => (asL s d).map fun xs => !xs.isEmpty
def dTruth (fa : FE) : FT := fun s => (fa s).bind fun d s1 => match truthD s1 d with | some b => .ok b s1 | none => .bad
/-- a comparison, as a test -/
def dCmpT (g : S → D → D → Option D) (fa fb : FE) : FT := fun s => (fa s).bind fun a s1 => (fb s1).bind fun b s2 => match g s2 a b with | some (.bl k) => .ok k s2 | _ => .bad
theorem tru_of {K : PySem.W.Frag} {H0 H : Hp} {α0 α : List Addr} {σ : Sg} {s : S} {d : D} {v : V} {b : Bool} (r : Rel K H0 α0 H α σ s) (h : Rx K H α σ d v) (e : truthD s d = some b) : TruV K v H b := by
  have vl : ∀ d, (asL s d).map (fun xs => !xs.isEmpty) = some b → Rx K H α σ d v → TruV K v H b := by
    intro d e9 h9
    simp only [Option.map_eq_some_iff] at e9
    obtain ⟨xs, e8, e7⟩ := e9
    obtain ⟨a, vs, rfl, hs, rr⟩ := asL_ok r h9 e8
    subst e7
    refine .inl ⟨vs, hs, ?_⟩
    have hl := rr.length
    cases xs <;> cases vs <;> simp_all
  unfold truthD at e
  split at e
  · cases e; rw [rx_bl h]; rfl
  · cases e; rw [rx_int h]; rfl
  · cases e; rw [rx_non h]; rfl
  · split at e
    · rename_i hz
      rw [← sizeLine_eq] at hz
      cases e; rw [rx_str h]; exact ⟨hz, rfl⟩
    · cases e
  · cases e
    obtain ⟨a, vs, rfl, hs, rr⟩ := asT_ok h
    refine .inr (.inl ⟨vs, hs, ?_⟩)
    have hl := rr.length
    rename_i xs
    cases xs <;> cases vs <;> simp_all
  · exact vl _ e h
theorem PostT.mono {K : PySem.W.Frag} {H0 : Hp} {α0 : List Addr} {σ : Sg} {W : WX} {H H1 : Hp} {α α1 : List Addr} {Q : Bool → Hp → Prop} (t : Stay H α H1 α1) {x : Res Bool} (q : PostT K H0 α0 σ W H α Q x) : PostT K H0 α0 σ W H1 α1 Q x := by
  cases x with
  | ok d s' => exact fun H' α' r t' => q H' α' r (t.trans t')
  | exc e s' => exact q
  | bad => exact q
theorem pt_tr {a : Expr} {fa : FE} (ha : PED X a fa) (he : ∀ whole, isTrue a X.env whole = (do let v ← whole; standAt a.pos; holding [v] (truthy v)) := by intro _; rfl) : PTD X a (dTruth fa) := by
  refine ⟨fun W tk => ?_⟩
  obtain ⟨ta, pa, qa⟩ := ha.run W tk
  refine ⟨_, pt_truth pa he, fun H0 α0 σ H α s Q r q => qa H0 α0 σ H α s _ r ?_⟩
  unfold dTruth at q
  cases ea : fa s with
  | bad => rw [ea] at q; exact q.elim
  | exc e s1 => rw [ea] at q; exact q
  | ok d s1 =>
    rw [ea] at q
    simp only [Res.bind] at q
    intro v H1 α1 r1 t1 rv
    cases et : truthD s1 d with
    | none => rw [et] at q; exact q.elim
    | some b =>
      rw [et] at q
      exact ⟨b, tru_of r1 rv et, q H1 α1 r1 t1⟩
theorem pt_cm {op : CmpOp} {a b : Expr} {pos : Pos} {g : S → D → D → Option D} {fa fb : FE} (c : Cmp X op g) (ha : PED X a fa) (hb : PED X b fb) (hm : behindInMarks op b = false := by first | exact nomark _ | rfl) : PTD X (.Compare a [op] [b] pos) (dCmpT g fa fb) := by
  obtain ⟨r, ho, hs⟩ := c.ex
  refine ⟨fun W tk => ?_⟩
  obtain ⟨ta, pa, qa⟩ := ha.run W tk
  obtain ⟨tb, pb, qb⟩ := hb.run W tk
  refine ⟨_, pt_cmpR (opGh ho) pa pb hm, fun H0 α0 σ H α s Q rl q => ?_⟩
  unfold dCmpT at q
  refine qa H0 α0 σ H α s _ rl ?_
  cases ea : fa s with
  | bad => rw [ea] at q; exact q.elim
  | exc e s1 => rw [ea] at q; exact q
  | ok u s1 =>
    rw [ea] at q
    intro x H1 α1 r1 t1 rx
    refine qb H0 α0 σ H1 α1 s1 _ r1 ?_
    simp only [Res.bind] at q
    cases eb : fb s1 with
    | bad => rw [eb] at q; exact q.elim
    | exc e s2 => rw [eb] at q; exact q
    | ok w s2 =>
      rw [eb] at q
      intro y H2 α2 r2 t2 ry
      simp only at q
      split at q
      · rename_i k eg
        refine hs H0 α0 σ H2 α2 s2 x y u w _ _ r2 (rx.stay t2) ry eg fun v H' α' r' t' rv => ?_
        exact ⟨k, rx_bl rv, q H' α' r' ((t1.trans t2).trans t')⟩
      · exact q.elim
theorem pd_cm {op : CmpOp} {a b : Expr} {pos : Pos} {g : S → D → D → Option D} {fa fb : FE} (c : Cmp X op g) (ha : PED X a fa) (hb : PED X b fb) (hm : behindInMarks op b = false := by first | exact nomark _ | rfl) : PED X (.Compare a [op] [b] pos) (dOp g fa fb) := by
  obtain ⟨r, ho, hs⟩ := c.ex
  exact pd_cmp ho hs ha hb hm
def dNotT (fa : FT) : FT := fun s => (fa s).bind fun b s1 => .ok (!b) s1
theorem pt_nt {a : Expr} {pos : Pos} {fa : FT} (ha : PTD X a fa) : PTD X (.UnaryOp .Not a pos) (dNotT fa) := by
  refine ⟨fun W tk => ?_⟩
  obtain ⟨ta, pa, qa⟩ := ha.run W tk
  refine ⟨_, pt_not pa, fun H0 α0 σ H α s Q r q => qa H0 α0 σ H α s _ r ?_⟩
  unfold dNotT at q
  cases ea : fa s with
  | bad => rw [ea] at q; exact q.elim
  | exc e s1 => rw [ea] at q; exact q
  | ok d s1 =>
    rw [ea] at q
    exact fun H1 α1 r1 t1 => q H1 α1 r1 t1
/-- and, or: as a test; the rest is a test whatever its whole is -/
structure PWD (X : Cx) (e : Expr) (f : FT) : Prop where
  run : ∀ W, Takes X W → ∃ t, PW X e t ∧ ∀ H0 α0 σ H α s Q, Rel X.K H0 α0 H α σ s → PostT X.K H0 α0 σ W H α Q (f s) → t σ H Q
theorem PWD.pt {e : Expr} {f : FT} (h : PWD X e f) : PTD X e f := ⟨fun W tk => let ⟨t, p, q⟩ := h.run W tk; ⟨t, p.pt, q⟩⟩
def dAndT (fa fb : FT) : FT := fun s => (fa s).bind fun b s1 => if b then fb s1 else .ok false s1
def dOrT (fa fb : FT) : FT := fun s => (fa s).bind fun b s1 => if b then .ok true s1 else fb s1
variable {a b : Expr} {rest : List Expr} {pos : Pos}
theorem pw_a1 {fa : FT} (ha : PTD X a fa) : PWD X (.BoolOp .And [a] pos) fa := ⟨fun W tk => let ⟨t, p, q⟩ := ha.run W tk; ⟨t, pw_and1 p, q⟩⟩
theorem pw_o1 {fa : FT} (ha : PTD X a fa) : PWD X (.BoolOp .Or [a] pos) fa := ⟨fun W tk => let ⟨t, p, q⟩ := ha.run W tk; ⟨t, pw_or1 p, q⟩⟩
theorem pw_a {fa fb : FT} (ha : PTD X a fa) (hb : PWD X (.BoolOp .And (b :: rest) pos) fb) : PWD X (.BoolOp .And (a :: b :: rest) pos) (dAndT fa fb) := by
  refine ⟨fun W tk => ?_⟩
  obtain ⟨ta, pa, qa⟩ := ha.run W tk
  obtain ⟨tb, pb, qb⟩ := hb.run W tk
  refine ⟨_, pw_and pa pb, fun H0 α0 σ H α s Q r q => qa H0 α0 σ H α s _ r ?_⟩
  unfold dAndT at q
  cases ea : fa s with
  | bad => rw [ea] at q; exact q.elim
  | exc e s1 => rw [ea] at q; exact q
  | ok d s1 =>
    rw [ea] at q
    intro H1 α1 r1 t1
    simp only [Res.bind] at q
    cases d with
    | true => exact qb H0 α0 σ H1 α1 s1 Q r1 (PostT.mono t1 q)
    | false => exact q H1 α1 r1 t1
theorem pw_o {fa fb : FT} (ha : PTD X a fa) (hb : PWD X (.BoolOp .Or (b :: rest) pos) fb) : PWD X (.BoolOp .Or (a :: b :: rest) pos) (dOrT fa fb) := by
  refine ⟨fun W tk => ?_⟩
  obtain ⟨ta, pa, qa⟩ := ha.run W tk
  obtain ⟨tb, pb, qb⟩ := hb.run W tk
  refine ⟨_, pw_or pa pb, fun H0 α0 σ H α s Q r q => qa H0 α0 σ H α s _ r ?_⟩
  unfold dOrT at q
  cases ea : fa s with
  | bad => rw [ea] at q; exact q.elim
  | exc e s1 => rw [ea] at q; exact q
  | ok d s1 =>
    rw [ea] at q
    intro H1 α1 r1 t1
    simp only [Res.bind] at q
    cases d with
    | false => exact qb H0 α0 σ H1 α1 s1 Q r1 (PostT.mono t1 q)
    | true => exact q H1 α1 r1 t1
/-! as values -/
def dAndV (fa fb : FE) : FE := fun s => (fa s).bind fun d s1 => match truthD s1 d with | some true => fb s1 | some false => .ok d s1 | none => .bad
def dOrV (fa fb : FE) : FE := fun s => (fa s).bind fun d s1 => match truthD s1 d with | some true => .ok d s1 | some false => fb s1 | none => .bad
def dNotV (fa : FE) : FE := fun s => (fa s).bind fun d s1 => match truthD s1 d with | some b => .ok (.bl (!b)) s1 | none => .bad
theorem pd_one {op} {fa : FE} (h : PED X a fa) : PED X (.BoolOp op [a] pos) fa := ⟨fun W tk => let ⟨t, p, q⟩ := h.run W tk; ⟨t, pe_one p, q⟩⟩
theorem pd_and {fa fb : FE} (ha : PED X a fa) (hb : PED X (.BoolOp .And (b :: rest) pos) fb) : PED X (.BoolOp .And (a :: b :: rest) pos) (dAndV fa fb) := by
  refine ⟨fun W tk => ?_⟩
  obtain ⟨ta, pa, qa⟩ := ha.run W tk
  obtain ⟨tb, pb, qb⟩ := hb.run W tk
  refine ⟨_, pe_andT pa pb, fun H0 α0 σ H α s Q r q => qa H0 α0 σ H α s _ r ?_⟩
  unfold dAndV at q
  cases ea : fa s with
  | bad => rw [ea] at q; exact q.elim
  | exc e s1 => rw [ea] at q; exact q
  | ok d s1 =>
    rw [ea] at q
    intro v H1 α1 r1 t1 rv
    simp only [Res.bind] at q
    cases et : truthD s1 d with
    | none => rw [et] at q; exact q.elim
    | some k =>
      rw [et] at q
      refine ⟨k, tru_of r1 rv et, ?_⟩
      cases k with
      | true => rw [if_pos rfl]; exact qb H0 α0 σ H1 α1 s1 Q r1 (PostE.mono t1 q)
      | false => rw [if_neg (by decide)]; exact q v H1 α1 r1 t1 rv
theorem pd_or {fa fb : FE} (ha : PED X a fa) (hb : PED X (.BoolOp .Or (b :: rest) pos) fb) : PED X (.BoolOp .Or (a :: b :: rest) pos) (dOrV fa fb) := by
  refine ⟨fun W tk => ?_⟩
  obtain ⟨ta, pa, qa⟩ := ha.run W tk
  obtain ⟨tb, pb, qb⟩ := hb.run W tk
  refine ⟨_, pe_orT pa pb, fun H0 α0 σ H α s Q r q => qa H0 α0 σ H α s _ r ?_⟩
  unfold dOrV at q
  cases ea : fa s with
  | bad => rw [ea] at q; exact q.elim
  | exc e s1 => rw [ea] at q; exact q
  | ok d s1 =>
    rw [ea] at q
    intro v H1 α1 r1 t1 rv
    simp only [Res.bind] at q
    cases et : truthD s1 d with
    | none => rw [et] at q; exact q.elim
    | some k =>
      rw [et] at q
      refine ⟨k, tru_of r1 rv et, ?_⟩
      cases k with
      | true => rw [if_pos rfl]; exact q v H1 α1 r1 t1 rv
      | false => rw [if_neg (by decide)]; exact qb H0 α0 σ H1 α1 s1 Q r1 (PostE.mono t1 q)
theorem pd_not {fa : FE} (ha : PED X a fa) : PED X (.UnaryOp .Not a pos) (dNotV fa) := by
  refine ⟨fun W tk => ?_⟩
  obtain ⟨ta, pa, qa⟩ := ha.run W tk
  refine ⟨_, pe_notT pa, fun H0 α0 σ H α s Q r q => qa H0 α0 σ H α s _ r ?_⟩
  unfold dNotV at q
  cases ea : fa s with
  | bad => rw [ea] at q; exact q.elim
  | exc e s1 => rw [ea] at q; exact q
  | ok d s1 =>
    rw [ea] at q
    intro v H1 α1 r1 t1 rv
    simp only [Res.bind] at q
    cases et : truthD s1 d with
    | none => rw [et] at q; exact q.elim
    | some k =>
      rw [et] at q
      exact ⟨k, tru_of r1 rv et, q _ H1 α1 r1 t1 ox_bl⟩
/-- a if t else b -/
def dIf (ft : FT) (fa fb : FE) : FE := fun s => (ft s).bind fun b s1 => if b then fa s1 else fb s1
theorem pd_if {c : Expr} {ft : FT} {fa fb : FE} (hc : PTD X c ft) (ha : PED X a fa) (hb : PED X b fb) : PED X (.IfExp c a b pos) (dIf ft fa fb) := by
  refine ⟨fun W tk => ?_⟩
  obtain ⟨tc, pc, qc⟩ := hc.run W tk
  obtain ⟨ta, pa, qa⟩ := ha.run W tk
  obtain ⟨tb, pb, qb⟩ := hb.run W tk
  refine ⟨_, pe_ifExp pc pa pb, fun H0 α0 σ H α s Q r q => qc H0 α0 σ H α s _ r ?_⟩
  unfold dIf at q
  cases ec : ft s with
  | bad => rw [ec] at q; exact q.elim
  | exc e s1 => rw [ec] at q; exact q
  | ok k s1 =>
    rw [ec] at q
    intro H1 α1 r1 t1
    simp only [Res.bind] at q
    cases k with
    | true => rw [if_pos rfl]; exact qa H0 α0 σ H1 α1 s1 Q r1 (PostE.mono t1 q)
    | false => rw [if_neg (by decide)]; exact qb H0 α0 σ H1 α1 s1 Q r1 (PostE.mono t1 q)
end
end DL

namespace DL
open PySem PySem.Spec PyProof.Rows L2
variable [DLX]
/-! ### 16. Arguments, displays -/
def noOwn : D → Bool | .own _ => false | _ => true
def dNil : FA := fun s => .ok [] s
def dCons (fa : FE) (fr : FA) : FA := fun s => (fa s).bind fun d s1 => (fr s1).bind fun ds s2 => .ok (d :: ds) s2
section
variable {X : Cx}
theorem PostA.mono {K : PySem.W.Frag} {H0 : Hp} {α0 : List Addr} {σ : Sg} {W : WX} {H H1 : Hp} {α α1 : List Addr} {Q : List V → Hp → Prop} (t : Stay H α H1 α1) {x : Res (List D)} (q : PostA K H0 α0 σ W H α Q x) : PostA K H0 α0 σ W H1 α1 Q x := by
  cases x with
  | ok d s' => exact fun v H' α' r t' rx => q v H' α' r (t.trans t') rx
  | exc e s' => exact q
  | bad => exact q
theorem Rxs.stay {K : PySem.W.Frag} {H H' : Hp} {α α' : List Addr} {σ : Sg} (t : Stay H α H' α') {ds : List D} {vs : List V} (h : Rxs K H α σ ds vs) : Rxs K H' α' σ ds vs := Paired.mapP h fun _ _ q => q.stay t
theorem Rxs.rvs {K : PySem.W.Frag} {H : Hp} {α : List Addr} {σ : Sg} : ∀ {ds : List D} {vs : List V}, Rxs K H α σ ds vs → ds.all noOwn = true → Rvs K H α ds vs
  | [], _, .nil, _ => Rvs.nil
  | d :: ds, _, .cons a b, n => by
    rw [List.all_cons, Bool.and_eq_true] at n
    exact Rvs.cons (a.rv fun i z => by rw [z] at n; simp [noOwn] at n) (Rxs.rvs b n.2)
theorem Rxs.of {K : PySem.W.Frag} {H : Hp} {α : List Addr} {σ : Sg} : ∀ {ds : List D} {vs : List V}, Rvs K H α ds vs → Rxs K H α σ ds vs
  | [], _, h => by simp only [Rvs] at h; subst h; exact .nil
  | d :: ds, _, h => by
    simp only [Rvs] at h
    obtain ⟨v, r, rfl, h1, h2⟩ := h
    exact .cons (Rv.x h1) (Rxs.of h2)
theorem pa_n : PAD X [] dNil := ⟨fun W _ => ⟨_, pa_nil, fun H0 α0 σ H α s Q r q => q [] H α r (Stay.refl _ _) .nil⟩⟩
theorem pa_c {e : Expr} {es : List Expr} {fa : FE} {fr : FA} (ha : PED X e fa) (hr : PAD X es fr) (hs : starEach (e :: es) X.env = (false, eval e X.env) :: starEach es X.env := by rfl) : PAD X (e :: es) (dCons fa fr) := by
  refine ⟨fun W tk => ?_⟩
  obtain ⟨ta, pa, qa⟩ := ha.run W tk
  obtain ⟨tr, pr, qr⟩ := hr.run W tk
  refine ⟨_, pa_cons pa pr hs, fun H0 α0 σ H α s Q r q => qa H0 α0 σ H α s _ r ?_⟩
  unfold dCons at q
  cases ea : fa s with
  | bad => rw [ea] at q; exact q.elim
  | exc e s1 => rw [ea] at q; exact q
  | ok d s1 =>
    rw [ea] at q
    intro x H1 α1 r1 t1 rx
    simp only [Res.bind] at q
    refine qr H0 α0 σ H1 α1 s1 _ r1 ?_
    cases er : fr s1 with
    | bad => rw [er] at q; exact q.elim
    | exc e s2 => rw [er] at q; exact q
    | ok ds s2 =>
      rw [er] at q
      exact fun xs H2 α2 r2 t2 rxs => q (x :: xs) H2 α2 r2 (t1.trans t2) (.cons (rx.stay t2) rxs)
def dTup (fa : FA) : FE := fun s => (fa s).bind fun ds s1 => if ds.all noOwn && decide (ds.length ≤ 16777216) then .ok (.tup ds) s1 else .bad
theorem pd_tup {es : List Expr} {x1} {pos : Pos} {fa : FA} (ha : PAD X es fa) : PED X (.Tuple es x1 pos) (dTup fa) := by
  refine ⟨fun W tk => ?_⟩
  obtain ⟨ta, pa, qa⟩ := ha.run W tk
  refine ⟨_, pe_tup pa, fun H0 α0 σ H α s Q r q => qa H0 α0 σ H α s _ r ?_⟩
  unfold dTup at q
  cases ea : fa s with
  | bad => rw [ea] at q; exact q.elim
  | exc e s1 => rw [ea] at q; exact q
  | ok ds s1 =>
    rw [ea] at q
    intro xs H1 α1 r1 t1 rx
    simp only [Res.bind] at q
    split at q
    · rename_i hc
      rw [Bool.and_eq_true] at hc
      have rr := rx.rvs hc.1
      refine ⟨by rw [rr.length, sizeLine_eq]; exact of_decide_eq_true hc.2, fun p hp => ?_⟩
      exact new_tup r1 hp rr fun v H' α' r' t' rv => q v H' α' r' (t1.trans t') rv
    · exact q.elim
/-- a display of a list: a fresh one -/
def dLst (fa : FA) : FC := fun s => (fa s).bind fun ds s1 => if ds.all noOwn && decide (ds.length ≤ 16777216) then .ok (.lst ds) s1 else .bad
theorem new_lst {K : PySem.W.Frag} {H0 H : Hp} {α0 α : List Addr} {σ : Sg} {s : S} {p : Addr} {xs : List D} {vs : List V} {Q : VK} (r : Rel K H0 α0 H α σ s) (h : H p = none) (rr : Rvs K H α xs vs)
    (q : ∀ a H' α', Rel K H0 α0 H' α' σ s → Stay H α H' α' → RF K H0 H' α' σ s a (.lst xs) → Q (.ref a) H') : Q (.ref p) (upd H p (.lst vs)) := by
  have t : Stay H α (upd H p (.lst vs)) α := Stay.upd_new h
  refine q p _ α (r.new h) t ⟨⟨vs, upd_same, Rvs.stay t _ _ rr⟩, r.nota h, r.free0 h, fun i c' h1 h2 => ?_⟩
  obtain ⟨a, e1, _, _, e2⟩ := r.slots.own i c' h1
  rw [h2] at e1
  cases e1
  obtain ⟨o, e3⟩ := e2.some
  rw [h] at e3
  cases e3
theorem pf_lst {es : List Expr} {pos : Pos} {fa : FA} (ha : PAD X es fa) : PFD X (.List es pos) (dLst fa) := by
  refine ⟨fun W tk => ?_⟩
  obtain ⟨ta, pa, qa⟩ := ha.run W tk
  refine ⟨_, pe_lst pa, fun H0 α0 σ H α s Q r q => qa H0 α0 σ H α s _ r ?_⟩
  unfold dLst at q
  cases ea : fa s with
  | bad => rw [ea] at q; exact q.elim
  | exc e s1 => rw [ea] at q; exact q
  | ok ds s1 =>
    rw [ea] at q
    intro xs H1 α1 r1 t1 rx
    simp only [Res.bind] at q
    split at q
    · rename_i hc
      rw [Bool.and_eq_true] at hc
      have rr := rx.rvs hc.1
      refine ⟨by rw [rr.length, sizeLine_eq]; exact of_decide_eq_true hc.2, fun p hp => ?_⟩
      exact new_lst r1 hp rr fun v H' α' r' t' rv => q v H' α' r' (t1.trans t') rv
    · exact q.elim
/-- a fresh thing that is locked at once -/
def dFrz (f : FC) : FE := fun s => (f s).bind fun c s1 => match c with | .dead => .bad | .tab _ => .bad | c => .ok c.toD s1
theorem pd_f {e : Expr} {f : FC} (h : PFD X e f) : PED X e (dFrz f) := by
  refine ⟨fun W tk => ?_⟩
  obtain ⟨t, pe, qe⟩ := h.run W tk
  refine ⟨_, peGh pe, fun H0 α0 σ H α s Q r q => qe H0 α0 σ H α s _ r ?_⟩
  unfold dFrz at q
  cases ea : f s with
  | bad => rw [ea] at q; exact q.elim
  | exc e s1 => rw [ea] at q; exact q
  | ok c s1 =>
    rw [ea] at q
    intro a H1 α1 r1 t1 ⟨hc, na, n0, no⟩
    -- the step: H1 with a locked
    have stp : ∀ u o, H1 a = some u → ¬ Fixed u → Stay H1 α1 (upd H1 a (.frz o u)) α1 ∧ Rel X.K H0 α0 (upd H1 a (.frz o u)) α1 σ s1 := fun u o hu nf => by
      have t : Stay H1 α1 (upd H1 a (.frz o u)) α1 := ⟨fun b w hb fb => by
        by_cases e : b = a
        · subst e; rw [hu] at hb; cases hb; exact absurd fb nf
        · rw [upd_ne e]; exact hb, List.prefix_rfl, fun b hb => by
        by_cases e : b = a
        · subst e; rw [upd_same] at hb; cases hb
        · rw [upd_ne e] at hb; exact hb⟩
      refine ⟨t, r1.step t (fun b w hb _ hw => ?_) (fun b w hb _ hb1 => ?_)⟩
      · have e : b ≠ a := fun z => by
          subst z
          rcases hw with z | ⟨i, c', z1, z2⟩
          · exact na z
          · exact no i c' z1 z2
        rw [upd_ne e]; exact hb
      · have e : b ≠ a := fun z => by subst z; rw [n0] at hb; cases hb
        rw [upd_ne e]; exact hb1
    cases c with
    | dead => exact q.elim
    | tab n => exact q.elim
    | lst xs =>
      obtain ⟨vs, hv, rr⟩ := hc
      refine .inr ⟨a, .lst vs, hv, trivial, fun o => ?_⟩
      obtain ⟨t, rl⟩ := stp _ o hv (fun z => z)
      refine q _ _ α1 rl (t1.trans t) (Rv.x (d := .lst xs) ?_)
      simp only [Rv]
      exact ⟨a, vs, rfl, .inl ⟨o, upd_same⟩, Rvs.stay t _ _ rr⟩
    | dct kvs =>
      rcases hc with ⟨kv, hv, rr⟩ | ⟨kv, nn, hv, rr⟩
      · refine .inr ⟨a, .dK kv, hv, trivial, fun o => ?_⟩
        obtain ⟨t, rl⟩ := stp _ o hv (fun z => z)
        refine q _ _ α1 rl (t1.trans t) (Rv.x (d := .dct kvs) ?_)
        simp only [Rv]
        exact ⟨a, o, rfl, .inl ⟨kv, upd_same, Rkv.stay t _ _ rr⟩⟩
      · refine .inr ⟨a, .dT kv, hv, trivial, fun o => ?_⟩
        obtain ⟨t, rl⟩ := stp _ o hv (fun z => z)
        refine q _ _ α1 rl (t1.trans t) (Rv.x (d := .dct kvs) ?_)
        simp only [Rv]
        exact ⟨a, o, rfl, .inr ⟨kv, nn, upd_same, RkT.stay t _ _ rr⟩⟩
    | ins C fs =>
      obtain ⟨dx, vs, hv, rr⟩ := hc
      refine .inr ⟨a, .ins C dx vs, hv, trivial, fun o => ?_⟩
      obtain ⟨t, rl⟩ := stp _ o hv (fun z => z)
      refine q _ _ α1 rl (t1.trans t) (Rv.x (d := .obj C fs) ?_)
      simp only [Rv]
      exact ⟨a, o, dx, vs, rfl, upd_same, Rfs.stay t _ _ rr⟩
end
/-! ### 17. Subscripts, slices -/
def strI (z : Str) (i : Int) : Option D := if z.length ≤ 16777216 then (atI z.cps.toList i).map fun c => .str ⟨#[c]⟩ else none
def gIx : S → D → D → Option D := fun s a b => match b with
  | .int i => (match a with
    | .tup xs => atI xs i
    | .str z => strI z i
    | a => (asL s a).bind fun xs => atI xs i)
  | _ => none
section
variable {X : Cx}
theorem ixGh {r : R2} (h : IxR X r) : IxR X (fun x y H Q => r x y H fun v H1 => Gh H1 (Q v)) :=
  fun value slice pins s σ H x y v u Q I rx ry q hs => thn (h value slice pins s σ H x y v u _ I rx ry q hs) fun _ _ e => EP.gh e
theorem Rvs.atI {K : PySem.W.Frag} {H : Hp} {α : List Addr} {ds : List D} {vs : List V} {i : Int} {d : D} (h : Rvs K H α ds vs) (e : atI ds i = some d) : ∃ v, L2.atI vs i = some v ∧ Rv K H α d v := by
  unfold L2.atI at e ⊢
  rw [h.length]
  cases ej : ixN ds.length i with
  | none => rw [ej] at e; cases e
  | some j =>
    rw [ej] at e
    simp only [Option.bind_some] at e ⊢
    exact h.at_ e
theorem os_ix : OpS X (rIx X.K) gIx := fun H0 α0 σ H α s x y a b d Q r rx ry e q => by
  unfold gIx at e
  split at e
  · rename_i i
    rw [rx_int ry]
    split at e
    · obtain ⟨p, vs, rfl, h1, r1⟩ := asT_ok rx
      obtain ⟨v, ev, rv⟩ := r1.atI e
      exact .inr (.inl ⟨p, vs, i, v, rfl, rfl, h1, ev, .inl (q _ _ _ r (Stay.refl _ _) (Rv.x rv))⟩)
    · unfold strI at e
      split at e
      · rename_i hz
        rw [← sizeLine_eq] at hz
        simp only [Option.map_eq_some_iff] at e
        obtain ⟨c, ec, rfl⟩ := e
        rw [rx_str rx]
        exact .inr (.inr ⟨_, i, c, rfl, rfl, hz, ec, .inl (q _ _ _ r (Stay.refl _ _) ox_str)⟩)
      · cases e
    · cases ea : asL s a with
      | none => rw [ea] at e; cases e
      | some xs =>
        rw [ea] at e
        simp only [Option.bind_some] at e
        obtain ⟨p, vs, rfl, h1, r1⟩ := asL_ok r rx ea
        obtain ⟨v, ev, rv⟩ := r1.atI e
        exact .inl ⟨p, vs, i, v, rfl, rfl, h1, ev, .inl (q _ _ _ r (Stay.refl _ _) (Rv.x rv))⟩
  · cases e
theorem pd_ix {a b : Expr} {pos : Pos} {fa fb : FE} (ha : PED X a fa) (hb : PED X b fb) (hs : PlainIx b := by exact fun _ _ => rfl) : PED X (.Subscript a b pos) (dOp gIx fa fb) :=
  pd_opG (fun _ _ pa pb => pe_ix (ixGh ix_seq) pa pb hs) os_ix ha hb
/-- a part of a slice -/
abbrev FO := S → Res (Option Int)
def dNo : FO := fun s => .ok none s
def dPart (f : FE) : FO := fun s => (f s).bind fun d s1 => match d with | .int i => .ok (some i) s1 | _ => .bad
structure POD (X : Cx) (e : Option Expr) (f : FO) : Prop where
  run : ∀ W, Takes X W → ∃ t, PO X e t ∧ ∀ H0 α0 σ H α s (Q : Option Int → Hp → Prop), Rel X.K H0 α0 H α σ s → (match f s with
    | .ok o s' => ∀ H' α', Rel X.K H0 α0 H' α' σ s' → Stay H α H' α' → Q o H'
    | .exc e s' => ∀ cls dd H' α', Rel X.K H0 α0 H' α' σ s' → ExR X.K H' α' e cls dd → W cls dd σ H'
    | .bad => False) → t σ H Q
theorem po_n : POD X none dNo := ⟨fun W _ => ⟨_, po_none, fun H0 α0 σ H α s Q r q => q H α r (Stay.refl _ _)⟩⟩
theorem po_s {e : Expr} {f : FE} (h : PED X e f) : POD X (some e) (dPart f) := by
  refine ⟨fun W tk => ?_⟩
  obtain ⟨t, pe, qe⟩ := h.run W tk
  refine ⟨_, po_some pe, fun H0 α0 σ H α s Q r q => qe H0 α0 σ H α s _ r ?_⟩
  unfold dPart at q
  cases ea : f s with
  | bad => rw [ea] at q; exact q.elim
  | exc e s1 => rw [ea] at q; exact q
  | ok d s1 =>
    rw [ea] at q
    intro v H1 α1 r1 t1 rv
    cases d <;> simp only [Res.bind] at q <;> try exact q.elim
    exact ⟨_, rx_int rv, q H1 α1 r1 t1⟩
def cutD (xs : List D) (lo hi : Option Int) : List D := (xs.drop (HT.sIx xs.length 0 lo)).take (HT.sIx xs.length xs.length hi - HT.sIx xs.length 0 lo)
theorem Rvs.cut {K : PySem.W.Frag} {H : Hp} {α : List Addr} {ds : List D} {vs : List V} (h : Rvs K H α ds vs) (lo hi : Option Int) : Rvs K H α (cutD ds lo hi) (cutV vs lo hi) := by
  unfold cutD cutV
  rw [h.length]
  exact (h.drop _).take _
/-- a[lo:hi] of a tuple or a list -/
def dSl (fa : FE) (fl fh : FO) : FE := fun s => (fa s).bind fun a s1 => (fl s1).bind fun l s2 => (fh s2).bind fun h s3 => match a with
  | .tup xs => .ok (.tup (cutD xs l h)) s3
  | a => (match asL s3 a with | some xs => .ok (.lst (cutD xs l h)) s3 | none => .bad)
theorem slGh {r : V → Option Int → Option Int → Hp → VK → Prop} (h : SlR X r) : SlR X (fun x lo hi H Q => r x lo hi H fun v H1 => Gh H1 (Q v)) :=
  fun pins s σ H x v vl vu lo hi sl Q I rx hs pl pu q => by
    obtain ⟨T, id, e, ty, g⟩ := h pins s σ H x v vl vu lo hi sl _ I rx hs pl pu q
    exact ⟨T, id, e, ty, thn g fun _ _ e => EP.gh e⟩
theorem cutD_whole {xs : List D} {lo hi : Option Int} (h : HT.sIx xs.length 0 lo = 0 ∧ HT.sIx xs.length xs.length hi = xs.length) : cutD xs lo hi = xs := by
  unfold cutD
  rw [h.1, h.2, List.drop_zero, Nat.sub_zero, List.take_length]
theorem pd_sl {e : Expr} {lo hi : Option Expr} {p2 pos : Pos} {fa : FE} {fl fh : FO} (ha : PED X e fa) (hl : POD X lo fl) (hh : POD X hi fh) : PED X (.Subscript e (.Slice lo hi none p2) pos) (dSl fa fl fh) := by
  refine ⟨fun W tk => ?_⟩
  obtain ⟨ta, pa, qa⟩ := ha.run W tk
  obtain ⟨tl, pl, ql⟩ := hl.run W tk
  obtain ⟨th, ph, qh⟩ := hh.run W tk
  refine ⟨_, pe_slice (slGh (sl_tupA.or sl_list)) pa pl ph, fun H0 α0 σ H α s Q r q => qa H0 α0 σ H α s _ r ?_⟩
  unfold dSl at q
  cases ea : fa s with
  | bad => rw [ea] at q; exact q.elim
  | exc e s1 => rw [ea] at q; exact q
  | ok d s1 =>
    rw [ea] at q
    intro x H1 α1 r1 t1 rx
    refine ql H0 α0 σ H1 α1 s1 _ r1 ?_
    simp only [Res.bind] at q
    cases el : fl s1 with
    | bad => rw [el] at q; exact q.elim
    | exc e s2 => rw [el] at q; exact q
    | ok l s2 =>
      rw [el] at q
      intro H2 α2 r2 t2
      refine qh H0 α0 σ H2 α2 s2 _ r2 ?_
      simp only at q
      cases eh : fh s2 with
      | bad => rw [eh] at q; exact q.elim
      | exc e s3 => rw [eh] at q; exact q
      | ok h s3 =>
        rw [eh] at q
        intro H3 α3 r3 t3
        have rx3 := rx.stay (t2.trans t3)
        have t13 := t1.trans (t2.trans t3)
        simp only at q
        split at q
        · obtain ⟨p, vs, rfl, h1, rr⟩ := asT_ok rx3
          refine .inl ⟨p, vs, rfl, h1, fun hw => ?_, fun _ p2 hp => ?_⟩
          · rw [rr.length] at hw
            rw [cutD_whole hw] at q
            exact .inl (q _ H3 α3 r3 t13 rx3)
          · exact .inl (new_tup r3 hp (rr.cut l h) fun v H' α' r' t' rv => q v H' α' r' (t13.trans t') rv)
        · split at q
          · rename_i xs eL
            obtain ⟨p, vs, rfl, h1, rr⟩ := asL_ok r3 rx3 eL
            exact .inr ⟨p, vs, rfl, h1, fun p2 hp => gh_list r3 hp (rr.cut l h) fun v H' α' r' t' rv => q v H' α' r' (t13.trans t') rv⟩
          · exact q.elim
end
end DL

namespace DL
open PySem PySem.Spec PyProof.Rows L2
variable [DLX]
/-! ### 18. Statements -/
section
variable {X : Cx}
theorem PostS.mono {K : PySem.W.Frag} {H0 : Hp} {α0 : List Addr} {W : WX} {H H1 : Hp} {α α1 : List Addr} {D : Ends} (t : Stay H α H1 α1) {x : SR} (q : PostS K H0 α0 W H α D x) : PostS K H0 α0 W H1 α1 D x := by
  cases x with
  | nx s' => exact fun σ' H' α' r t' => q σ' H' α' r (t.trans t')
  | bk s' => exact fun σ' H' α' r t' => q σ' H' α' r (t.trans t')
  | ct s' => exact fun σ' H' α' r t' => q σ' H' α' r (t.trans t')
  | rt d s' => exact q
  | rtc d s' => exact q
  | exc e s' => exact q
  | bad => exact q
def dSkip : FS := fun s => .nx s
def dSeq (f g : FS) : FS := fun s => match f s with
  | .nx s1 => g s1
  | .rt d s1 => .rt d s1
  | .rtc c s1 => .rtc c s1
  | .bk s1 => .bk s1
  | .ct s1 => .ct s1
  | .exc e s1 => .exc e s1
  | .bad => .bad
theorem sd_pass {pos : Pos} : PSD X (.Pass pos) dSkip := ⟨fun W _ => ⟨_, ps_pass, fun H0 α0 σ H α s D r q => q σ H α r (Stay.refl _ _)⟩⟩
theorem sd_nil : PSsD X [] dSkip := ⟨fun W _ => ⟨_, pss_nil, fun H0 α0 σ H α s D r q => q σ H α r (Stay.refl _ _)⟩⟩
theorem sd_one {st : Stmt} {f : FS} (h : PSD X st f) : PSsD X [st] f := ⟨fun W tk => let ⟨t, p, q⟩ := h.run W tk; ⟨t, pss_one p, q⟩⟩
theorem sd_cons {st : Stmt} {rest : List Stmt} {f g : FS} (h : PSD X st f) (hr : PSsD X rest g) : PSsD X (st :: rest) (dSeq f g) := by
  refine ⟨fun W tk => ?_⟩
  obtain ⟨t, p, q⟩ := h.run W tk
  obtain ⟨u, pu, qu⟩ := hr.run W tk
  refine ⟨_, pss_cons p pu, fun H0 α0 σ H α s D r k => q H0 α0 σ H α s { D with nx := u D } r ?_⟩
  unfold dSeq at k
  cases e : f s <;> rw [e] at k <;> try exact k
  exact fun σ' H' α' r' t' => qu H0 α0 σ' H' α' _ D r' (PostS.mono t' k)
def dBreak : FS := fun s => .bk s
def dCont : FS := fun s => .ct s
theorem sd_break {pos : Pos} : PSD X (.Break pos) dBreak := ⟨fun W _ => ⟨_, ps_break, fun H0 α0 σ H α s D r q => q σ H α r (Stay.refl _ _)⟩⟩
theorem sd_cont {pos : Pos} : PSD X (.Continue pos) dCont := ⟨fun W _ => ⟨_, ps_continue, fun H0 α0 σ H α s D r q => q σ H α r (Stay.refl _ _)⟩⟩
/-! stores to a slot -/
theorem get_set {α : Type} {l : List α} {i j : Nat} {x y : α} (h : (l.set i x)[j]? = some y) : (i = j ∧ y = x ∧ i < l.length) ∨ (i ≠ j ∧ l[j]? = some y) := by
  by_cases e : i = j
  · subst e
    by_cases hi : i < l.length
    · rw [List.getElem?_set_self hi] at h
      exact .inl ⟨rfl, (Option.some.inj h).symm, hi⟩
    · rw [List.getElem?_eq_none (by simpa using hi)] at h
      cases h
  · rw [List.getElem?_set_ne e] at h
    exact .inr ⟨e, h⟩
theorem Rel.setV {K : PySem.W.Frag} {H0 H : Hp} {α0 α : List Addr} {σ : Sg} {s : S} {i : Nat} {d : D} {v : V} (r : Rel K H0 α0 H α σ s) (h : Rv K H α d v) : Rel K H0 α0 H α (σ.set i (some v)) { s with δ := s.δ.set i (.val d) } := by
  refine ⟨r.cells, ⟨by simpa using r.slots.len, fun j x e => ?_, fun j c e => ?_, fun j k c c' a e1 e2 e3 e4 => ?_⟩, r.ot, r.nw, r.st⟩
  · rcases get_set e with ⟨rfl, e, hi⟩ | ⟨ne, e⟩
    · cases e
      exact ⟨v, by rw [List.getElem?_set_self (by rw [r.slots.len]; exact hi)], h⟩
    · obtain ⟨w, e1, e2⟩ := r.slots.val j x e
      exact ⟨w, by rw [List.getElem?_set_ne ne]; exact e1, e2⟩
  · rcases get_set e with ⟨rfl, e, hi⟩ | ⟨ne, e⟩
    · cases e
    · obtain ⟨a, e1, e2⟩ := r.slots.own j c e
      exact ⟨a, by rw [List.getElem?_set_ne ne]; exact e1, e2⟩
  · rcases get_set e1 with ⟨rfl, e, hi⟩ | ⟨ne1, e1⟩
    · cases e
    · rcases get_set e2 with ⟨rfl, e, hi⟩ | ⟨ne2, e2⟩
      · cases e
      · rw [List.getElem?_set_ne ne1] at e3
        rw [List.getElem?_set_ne ne2] at e4
        exact r.slots.inj j k c c' a e1 e2 e3 e4
theorem Rel.setO {K : PySem.W.Frag} {H0 H : Hp} {α0 α : List Addr} {σ : Sg} {s : S} {i : Nat} {c : Cell} {a : Addr} (r : Rel K H0 α0 H α σ s) (h : RF K H0 H α σ s a c) : Rel K H0 α0 H α (σ.set i (some (.ref a))) { s with δ := s.δ.set i (.own c) } := by
  obtain ⟨h1, h2, h3, h4⟩ := h
  refine ⟨r.cells, ⟨by simpa using r.slots.len, fun j x e => ?_, fun j c e => ?_, fun j k c c' b e1 e2 e3 e4 => ?_⟩, r.ot, r.nw, r.st⟩
  · rcases get_set e with ⟨rfl, e, hi⟩ | ⟨ne, e⟩
    · cases e
    · obtain ⟨w, e1, e2⟩ := r.slots.val j x e
      exact ⟨w, by rw [List.getElem?_set_ne ne]; exact e1, e2⟩
  · rcases get_set e with ⟨rfl, e, hi⟩ | ⟨ne, e⟩
    · cases e
      exact ⟨a, by rw [List.getElem?_set_self (by rw [r.slots.len]; exact hi)], h2, h3, h1⟩
    · obtain ⟨a, e1, e2⟩ := r.slots.own j c e
      exact ⟨a, by rw [List.getElem?_set_ne ne]; exact e1, e2⟩
  · rcases get_set e1 with ⟨rfl, e, hi⟩ | ⟨ne1, e1⟩
    · rcases get_set e2 with ⟨rfl, e', hi'⟩ | ⟨ne2, e2⟩
      · rfl
      · rw [List.getElem?_set_self (by rw [r.slots.len]; exact hi)] at e3
        cases e3
        rw [List.getElem?_set_ne ne2] at e4
        exact absurd e4 (h4 k c' e2)
    · rcases get_set e2 with ⟨rfl, e', hi'⟩ | ⟨ne2, e2⟩
      · rw [List.getElem?_set_self (by rw [r.slots.len]; exact hi')] at e4
        cases e4
        rw [List.getElem?_set_ne ne1] at e3
        exact absurd e3 (h4 j c e1)
      · rw [List.getElem?_set_ne ne1] at e3
        rw [List.getElem?_set_ne ne2] at e4
        exact r.slots.inj j k c c' b e1 e2 e3 e4
/-- a fresh thing becomes a shared cell -/
theorem Rel.share {K : PySem.W.Frag} {H0 H : Hp} {α0 α : List Addr} {σ : Sg} {s : S} {c : Cell} {a : Addr} (r : Rel K H0 α0 H α σ s) (h : RF K H0 H α σ s a c) :
    Rel K H0 α0 H (α ++ [a]) σ { s with μ := s.μ ++ [c] } ∧ Stay H α H (α ++ [a]) ∧ Rv K H (α ++ [a]) (.ref s.μ.length) (.ref a) := by
  obtain ⟨h1, h2, h3, h4⟩ := h
  have t : Stay H α H (α ++ [a]) := ⟨fun _ _ e _ => e, ⟨[a], rfl⟩, fun _ e => e⟩
  refine ⟨⟨⟨by simp [r.cells.len], ?_, fun n b x e1 e2 => ?_⟩, ⟨r.slots.len, fun i d e => ?_, fun i c' e => ?_, r.slots.inj⟩, r.ot, fun b hb => ?_, r.st.trans t⟩, t, ?_⟩
  · rw [List.nodup_append]
    exact ⟨r.cells.nd, by simp, fun x hx y hy => by simp at hy; subst hy; rintro rfl; exact h2 hx⟩
  · by_cases hn : n < α.length
    · rw [List.getElem?_append_left hn] at e1
      rw [List.getElem?_append_left (by show n < s.μ.length; rw [← r.cells.len]; exact hn)] at e2
      exact (r.cells.at_ n b x e1 e2).stay t (fun _ e _ => e)
    · have hl := (List.getElem?_eq_some_iff.mp e1).1
      have en : n = α.length := by simp at hl; omega
      subst en
      rw [List.getElem?_append_right (Nat.le_refl _)] at e1
      rw [r.cells.len, List.getElem?_append_right (Nat.le_refl _)] at e2
      simp at e1 e2
      subst e1 e2
      exact h1.stay t (fun _ e _ => e)
  · obtain ⟨v, e1, e2⟩ := r.slots.val i d e
    exact ⟨v, e1, Rv.stay t _ _ e2⟩
  · obtain ⟨b, e1, e2, e3, e4⟩ := r.slots.own i c' e
    refine ⟨b, e1, ?_, e3, e4.stay t (fun _ e _ => e)⟩
    rw [List.mem_append]
    rintro (z | z)
    · exact e2 z
    · simp at z
      subst z
      exact h4 i c' e e1
  · rcases List.mem_append.mp hb with z | z
    · exact r.nw b z
    · simp at z
      subst z
      exact .inr h3
  · simp only [Rv]
    exact ⟨a, by rw [← r.cells.len, List.getElem?_append_right (Nat.le_refl _)]; simp, rfl⟩
/-- name = e -/
def dAsg (i : Nat) (fa : FE) : FS := fun s => match fa s with
  | .ok d s1 => if noOwn d then .nx { s1 with δ := s1.δ.set i (.val d) } else .bad
  | .exc e s1 => .exc e s1
  | .bad => .bad
/-- name = a fresh thing, which the slot owns; which is shared from then on -/
def dAsgO (i : Nat) (fa : FC) : FS := fun s => match fa s with
  | .ok c s1 => .nx { s1 with δ := s1.δ.set i (.own c) }
  | .exc e s1 => .exc e s1
  | .bad => .bad
def dAsgR (i : Nat) (fa : FC) : FS := fun s => match fa s with
  | .ok c s1 => .nx { δ := s1.δ.set i (.val (.ref s1.μ.length)), μ := s1.μ ++ [c] }
  | .exc e s1 => .exc e s1
  | .bad => .bad
theorem noOwn_rv {K : PySem.W.Frag} {H : Hp} {α : List Addr} {σ : Sg} {d : D} {v : V} (h : Rx K H α σ d v) (n : noOwn d = true) : Rv K H α d v := h.rv fun i z => by rw [z] at n; simp [noOwn] at n
theorem sd_asg {e : Expr} {st : Stmt} {i : Nat} {fa : FE} (hp : ∀ te, PE X e te → PS X st (tAsg te (gName i))) (ha : PED X e fa) : PSD X st (dAsg i fa) := by
  refine ⟨fun W tk => ?_⟩
  obtain ⟨t, p, q⟩ := ha.run W tk
  refine ⟨_, hp t p, fun H0 α0 σ H α s D r k => q H0 α0 σ H α s _ r ?_⟩
  unfold dAsg at k
  cases ea : fa s with
  | bad => rw [ea] at k; exact k.elim
  | exc e s1 => rw [ea] at k; exact fun cls dd H' α' r' x => k cls dd σ H' α' r' x
  | ok d s1 =>
    rw [ea] at k
    simp only at k
    split at k
    · rename_i hn
      intro v H1 α1 r1 t1 rv
      exact k _ H1 α1 (r1.setV (noOwn_rv rv hn)) t1
    · exact k.elim
theorem sd_asgO {e : Expr} {st : Stmt} {i : Nat} {fa : FC} (hp : ∀ te, PE X e te → PS X st (tAsg te (gName i))) (ha : PFD X e fa) : PSD X st (dAsgO i fa) := by
  refine ⟨fun W tk => ?_⟩
  obtain ⟨t, p, q⟩ := ha.run W tk
  refine ⟨_, hp t p, fun H0 α0 σ H α s D r k => q H0 α0 σ H α s _ r ?_⟩
  unfold dAsgO at k
  cases ea : fa s with
  | bad => rw [ea] at k; exact k.elim
  | exc e s1 => rw [ea] at k; exact fun cls dd H' α' r' x => k cls dd σ H' α' r' x
  | ok c s1 =>
    rw [ea] at k
    intro a H1 α1 r1 t1 rf
    exact k _ H1 α1 (r1.setO rf) t1
theorem sd_asgR {e : Expr} {st : Stmt} {i : Nat} {fa : FC} (hp : ∀ te, PE X e te → PS X st (tAsg te (gName i))) (ha : PFD X e fa) : PSD X st (dAsgR i fa) := by
  refine ⟨fun W tk => ?_⟩
  obtain ⟨t, p, q⟩ := ha.run W tk
  refine ⟨_, hp t p, fun H0 α0 σ H α s D r k => q H0 α0 σ H α s _ r ?_⟩
  unfold dAsgR at k
  cases ea : fa s with
  | bad => rw [ea] at k; exact k.elim
  | exc e s1 => rw [ea] at k; exact fun cls dd H' α' r' x => k cls dd σ H' α' r' x
  | ok c s1 =>
    rw [ea] at k
    intro a H1 α1 r1 t1 rf
    obtain ⟨r2, t2, rv⟩ := r1.share rf
    exact k _ H1 _ (r2.setV rv) (t1.trans t2)
/-- return -/
def dRet (fa : FE) : FS := fun s => match fa s with
  | .ok d s1 => if noOwn d then .rt d s1 else .bad
  | .exc e s1 => .exc e s1
  | .bad => .bad
def dRetF (fa : FC) : FS := fun s => match fa s with
  | .ok c s1 => .rtc c s1
  | .exc e s1 => .exc e s1
  | .bad => .bad
theorem sd_ret {e : Expr} {pos : Pos} {fa : FE} (ha : PED X e fa) : PSD X (.Return (some e) pos) (dRet fa) := by
  refine ⟨fun W tk => ?_⟩
  obtain ⟨t, p, q⟩ := ha.run W tk
  refine ⟨_, ps_ret p, fun H0 α0 σ H α s D r k => q H0 α0 σ H α s _ r ?_⟩
  unfold dRet at k
  cases ea : fa s with
  | bad => rw [ea] at k; exact k.elim
  | exc e s1 => rw [ea] at k; exact fun cls dd H' α' r' x => k cls dd σ H' α' r' x
  | ok d s1 =>
    rw [ea] at k
    simp only at k
    split at k
    · rename_i hn
      exact fun v H1 α1 r1 t1 rv => k v σ H1 α1 r1 (noOwn_rv rv hn)
    · exact k.elim
theorem sd_retF {e : Expr} {pos : Pos} {fa : FC} (ha : PFD X e fa) : PSD X (.Return (some e) pos) (dRetF fa) := by
  refine ⟨fun W tk => ?_⟩
  obtain ⟨t, p, q⟩ := ha.run W tk
  refine ⟨_, ps_ret p, fun H0 α0 σ H α s D r k => q H0 α0 σ H α s _ r ?_⟩
  unfold dRetF at k
  cases ea : fa s with
  | bad => rw [ea] at k; exact k.elim
  | exc e s1 => rw [ea] at k; exact fun cls dd H' α' r' x => k cls dd σ H' α' r' x
  | ok c s1 =>
    rw [ea] at k
    exact fun a H1 α1 r1 t1 rf => k a σ H1 α1 r1 rf
def dRetN : FS := fun s => .rt .non s
theorem sd_retN {pos : Pos} : PSD X (.Return none pos) dRetN := ⟨fun W _ => ⟨_, ps_retN, fun H0 α0 σ H α s D r q => q .non σ H α r (by simp only [Rv])⟩⟩
/-- if -/
def dIfS (ft : FT) (f g : FS) : FS := fun s => match ft s with
  | .ok true s1 => f s1
  | .ok false s1 => g s1
  | .exc e s1 => .exc e s1
  | .bad => .bad
theorem sd_if {c : Expr} {a b : List Stmt} {pos : Pos} {ft : FT} {f g : FS} (hc : PTD X c ft) (ha : PSsD X a f) (hb : PSsD X b g) : PSD X (.If c a b pos) (dIfS ft f g) := by
  refine ⟨fun W tk => ?_⟩
  obtain ⟨tc, pc, qc⟩ := hc.run W tk
  obtain ⟨ta, pa, qa⟩ := ha.run W tk
  obtain ⟨tb, pb, qb⟩ := hb.run W tk
  refine ⟨_, ps_if pc pa pb, fun H0 α0 σ H α s D r k => qc H0 α0 σ H α s _ r ?_⟩
  unfold dIfS at k
  cases ec : ft s with
  | bad => rw [ec] at k; exact k.elim
  | exc e s1 => rw [ec] at k; exact fun cls dd H' α' r' x => k cls dd σ H' α' r' x
  | ok u s1 =>
    rw [ec] at k
    intro H1 α1 r1 t1
    cases u with
    | true => rw [if_pos rfl]; exact qa H0 α0 σ H1 α1 s1 D r1 (PostS.mono t1 k)
    | false => rw [if_neg (by decide)]; exact qb H0 α0 σ H1 α1 s1 D r1 (PostS.mono t1 k)
/-- an expression whose value is dropped -/
def dDrop (fa : FE) : FS := fun s => match fa s with
  | .ok _ s1 => .nx s1
  | .exc e s1 => .exc e s1
  | .bad => .bad
theorem sd_drop {e : Expr} {pos : Pos} {fa : FE} (ha : PED X e fa) (hs : swapsWith e none pos.line X.env = pure false := by rfl) : PSD X (.Expr e pos) (dDrop fa) := by
  refine ⟨fun W tk => ?_⟩
  obtain ⟨t, p, q⟩ := ha.run W tk
  refine ⟨_, ps_expr p hs, fun H0 α0 σ H α s D r k => q H0 α0 σ H α s _ r ?_⟩
  unfold dDrop at k
  cases ea : fa s with
  | bad => rw [ea] at k; exact k.elim
  | exc e s1 => rw [ea] at k; exact fun cls dd H' α' r' x => k cls dd σ H' α' r' x
  | ok d s1 =>
    rw [ea] at k
    exact fun v H1 α1 r1 t1 rv => k σ H1 α1 r1 t1
/-- while: n turns at most -/
def dWhile (ft : FT) (f : FS) : Nat → FS
  | 0, _ => .bad
  | n + 1, s => match ft s with
    | .ok true s1 => (match f s1 with
      | .nx s2 => dWhile ft f n s2
      | .ct s2 => dWhile ft f n s2
      | .bk s2 => .nx s2
      | .rt d s2 => .rt d s2
      | .rtc c s2 => .rtc c s2
      | .exc e s2 => .exc e s2
      | .bad => .bad)
    | .ok false s1 => .nx s1
    | .exc e s1 => .exc e s1
    | .bad => .bad
theorem sd_while (n : Nat) {c : Expr} {body : List Stmt} {pos : Pos} {ft : FT} {f : FS} (hp : PassesOwn (model X.prog X.w) X.A X.env X.xe) (hc : PTD X c ft) (hb : PSsD X body f) : PSD X (.While c body [] pos) (dWhile ft f n) := by
  refine ⟨fun W tk => ?_⟩
  obtain ⟨tc, pc, qc⟩ := hc.run W tk
  obtain ⟨tb, pb, qb⟩ := hb.run W tk
  refine ⟨_, ps_while hp pc pb, fun H0 α0 σ H α s D r k => ?_⟩
  refine ⟨fun m σ1 H1 => ∃ s1 α1, Rel X.K H0 α0 H1 α1 σ1 s1 ∧ PostS X.K H0 α0 W H1 α1 D (dWhile ft f m s1), ⟨n, s, α, r, k⟩, ?_⟩
  rintro m σ1 H1 ⟨s1, α1, r1, k1⟩
  refine qc H0 α0 σ1 H1 α1 s1 _ r1 ?_
  cases m with
  | zero => exact k1.elim
  | succ m =>
    unfold dWhile at k1
    cases ec : ft s1 with
    | bad => rw [ec] at k1; exact k1.elim
    | exc e s2 => rw [ec] at k1; exact fun cls dd H' α' r' x => k1 cls dd σ1 H' α' r' x
    | ok u s2 =>
      rw [ec] at k1
      intro H2 α2 r2 t2
      cases u with
      | false => rw [if_neg (by decide)]; exact k1 σ1 H2 α2 r2 t2
      | true =>
        rw [if_pos rfl]
        refine ⟨fun σ3 H3 => ∃ m', m' < m + 1 ∧ ∃ s3 α3, Rel X.K H0 α0 H3 α3 σ3 s3 ∧ PostS X.K H0 α0 W H3 α3 D (dWhile ft f m' s3), fun _ _ z => z, ?_⟩
        refine qb H0 α0 σ1 H2 α2 s2 _ r2 ?_
        simp only at k1
        cases eb : f s2 <;> rw [eb] at k1 <;> simp only at k1
        · exact fun σ3 H3 α3 r3 t3 => ⟨m, Nat.lt_succ_self m, _, α3, r3, PostS.mono (t2.trans t3) k1⟩
        · exact k1
        · exact k1
        · exact fun σ3 H3 α3 r3 t3 => k1 σ3 H3 α3 r3 (t2.trans t3)
        · exact fun σ3 H3 α3 r3 t3 => ⟨m, Nat.lt_succ_self m, _, α3, r3, PostS.mono (t2.trans t3) k1⟩
        · exact k1
        · exact k1
end
end DL

namespace DL
open PySem PySem.Spec PyProof.Rows L2
variable [DLX]
/-! ### 19. Targets, walks, for -/
abbrev FG := D → S → Option S
/-- σ' is σ but at vs -/
structure But (vs : List Nat) (σ σ' : Sg) : Prop where
  len : σ'.length = σ.length
  at_ : ∀ j, j ∉ vs → σ'[j]? = σ[j]?
theorem But.refl (vs : List Nat) (σ : Sg) : But vs σ σ := ⟨rfl, fun _ _ => rfl⟩
theorem But.trans {vs ws : List Nat} {σ σ1 σ2 : Sg} (a : But vs σ σ1) (b : But ws σ1 σ2) : But (vs ++ ws) σ σ2 := ⟨b.len.trans a.len, fun j h => by
  rw [List.mem_append, not_or] at h
  rw [b.at_ j h.2, a.at_ j h.1]⟩
theorem But.set (i : Nat) (x : Option V) (σ : Sg) : But [i] σ (σ.set i x) := ⟨List.length_set, fun j h => List.getElem?_set_ne (fun z => h (by simp [z]))⟩
structure PGD (X : Cx) (tg : Expr) (vs : List Nat) (f : FG) : Prop where
  ex : ∃ t : TG, PG X tg t ∧ ∀ H0 α0 σ H α s d v s' (Q : Sg → Hp → Prop), Rel X.K H0 α0 H α σ s → Rv X.K H α d v → f d s = some s' → (∀ σ' H', Rel X.K H0 α0 H' α σ' s' → Stay H α H' α → But vs σ σ' → Q σ' H') → t v σ H Q
/-- J gives the data ds, one a turn, as long as what is locked stays so -/
structure WalkD (K : PySem.W.Frag) (J : It) (ds : List D) (H1 : Hp) (α1 : List Addr) : Prop where
  stop : ∀ H α, Stay H1 α1 H α → J.stop ds.length H
  go : ∀ H α i d, Stay H1 α1 H α → ds[i]? = some d → J.go i H
  yld : ∀ H0 α0 H α σ s i d x H', Stay H1 α1 H α → Rel K H0 α0 H α σ s → ds[i]? = some d → J.yld i H x H' → Rel K H0 α0 H' α σ s ∧ Stay H α H' α ∧ Rv K H' α d x
def PostI (K : PySem.W.Frag) (H0 : Hp) (α0 : List Addr) (σ : Sg) (W : WX) (H : Hp) (α : List Addr) (R : It → Hp → Prop) : Res (List D) → Prop
  | .ok ds s' => ∀ J H' α', Rel K H0 α0 H' α' σ s' → Stay H α H' α' → WalkD K J ds H' α' → R J H'
  | .exc e s' => ∀ cls dd H' α', Rel K H0 α0 H' α' σ s' → ExR K H' α' e cls dd → W cls dd σ H'
  | .bad => False
structure PID (X : Cx) (tg iter : Expr) (f : FA) : Prop where
  run : ∀ W, Takes X W → ∃ t, PI X tg iter t ∧ ∀ H0 α0 σ H α s R, Rel X.K H0 α0 H α σ s → PostI X.K H0 α0 σ W H α R (f s) → t σ H R
def dFor (g : FG) (f : FS) : List D → FS
  | [], s => .nx s
  | d :: ds, s => match g d s with
    | none => .bad
    | some s1 => match f s1 with
      | .nx s2 => dFor g f ds s2
      | .ct s2 => dFor g f ds s2
      | .bk s2 => .nx s2
      | .rt d s2 => .rt d s2
      | .rtc c s2 => .rtc c s2
      | .exc e s2 => .exc e s2
      | .bad => .bad
def dForI (fi : FA) (g : FG) (f : FS) : FS := fun s => match fi s with
  | .ok ds s1 => dFor g f ds s1
  | .exc e s1 => .exc e s1
  | .bad => .bad
section
variable {X : Cx}
theorem sd_for {tg iter : Expr} {body : List Stmt} {pos : Pos} {fi : FA} {g : FG} {f : FS} {ws : List Nat} (hp : PassesOwn (model X.prog X.w) X.A X.env X.xe) (hc : X.calm = true) (hi : PID X tg iter fi) (hg : PGD X tg ws g) (hb : PSsD X body f)
    (hs : ∀ x, foldedSetIterable iter X.env x = pure x := by intro _; rfl) : PSD X (.For tg iter body [] pos) (dForI fi g f) := by
  refine ⟨fun W tk => ?_⟩
  obtain ⟨ti, pi, qi⟩ := hi.run W tk
  obtain ⟨t, pg, qg⟩ := hg.ex
  obtain ⟨tb, pb, qb⟩ := hb.run W tk
  refine ⟨_, ps_for hp hc pi pg pb hs, fun H0 α0 σ H α s D r k => qi H0 α0 σ H α s _ r ?_⟩
  unfold dForI at k
  cases ei : fi s with
  | bad => rw [ei] at k; exact k.elim
  | exc e s1 => rw [ei] at k; exact fun cls dd H' α' r' x => k cls dd σ H' α' r' x
  | ok ds s1 =>
    rw [ei] at k
    intro J H1 α1 r1 t1 w
    refine ⟨fun i m σ' H' => i + m = ds.length ∧ ∃ s' α', Rel X.K H0 α0 H' α' σ' s' ∧ Stay H1 α1 H' α' ∧ PostS X.K H0 α0 W H' α' D (dFor g f (ds.drop i) s'), ⟨ds.length, Nat.zero_add _, s1, α1, r1, Stay.refl _ _, PostS.mono t1 k⟩, ?_⟩
    rintro i m σ' H' ⟨hm, s', α', r', t', k'⟩
    cases m with
    | zero =>
      have e : i = ds.length := by omega
      subst e
      rw [List.drop_length] at k'
      exact .inl ⟨w.stop H' α' t', k' σ' H' α' r' (Stay.refl _ _)⟩
    | succ m =>
      have hi : i < ds.length := by omega
      have ed := List.getElem?_eq_getElem hi
      rw [List.drop_eq_getElem_cons hi] at k'
      refine .inr ⟨w.go H' α' i _ t' ed, fun σ2 H2 => ∃ m', m' < m + 1 ∧ (i + 1) + m' = ds.length ∧ ∃ s2 α2, Rel X.K H0 α0 H2 α2 σ2 s2 ∧ Stay H1 α1 H2 α2 ∧ PostS X.K H0 α0 W H2 α2 D (dFor g f (ds.drop (i + 1)) s2), fun _ _ z => z, fun x H2 hy => ?_⟩
      obtain ⟨r2, t2, rv⟩ := w.yld H0 α0 H' α' σ' s' i _ x H2 t' r' ed hy
      unfold dFor at k'
      cases eg : g ds[i] s' with
      | none => rw [eg] at k'; exact k'.elim
      | some s3 =>
        rw [eg] at k'
        refine qg H0 α0 σ' H2 α' s' _ x s3 _ r2 rv eg fun σ3 H3 r3 t3 _ => ?_
        refine qb H0 α0 σ3 H3 α' s3 _ r3 ?_
        simp only at k'
        have t23 := t2.trans t3
        cases eb : f s3 <;> rw [eb] at k' <;> simp only at k'
        · exact fun σ4 H4 α4 r4 t4 => ⟨m, Nat.lt_succ_self m, by omega, _, α4, r4, (t'.trans t23).trans t4, PostS.mono (t23.trans t4) k'⟩
        · exact k'
        · exact k'
        · exact fun σ4 H4 α4 r4 t4 => k' σ4 H4 α4 r4 (t23.trans t4)
        · exact fun σ4 H4 α4 r4 t4 => ⟨m, Nat.lt_succ_self m, by omega, _, α4, r4, (t'.trans t23).trans t4, PostS.mono (t23.trans t4) k'⟩
        · exact k'
        · exact k'
/-! targets -/
def gNm (i : Nat) : FG := fun d s => some { s with δ := s.δ.set i (.val d) }
theorem gd_name {i : Nat} {tg : Expr} (h : PG X tg (gName i)) : PGD X tg [i] (gNm i) := ⟨_, h, fun H0 α0 σ H α s d v s' Q r rv e k => by
  cases e
  exact k _ H (r.setV rv) (Stay.refl _ _) (But.set _ _ _)⟩
abbrev FGs := List D → S → Option S
structure PGsD (X : Cx) (tgs : List Expr) (ws : List Nat) (f : FGs) : Prop where
  ex : ∃ t : TGs, PGs X tgs t ∧ ∀ H0 α0 σ H α s ds vs s' (Q : Sg → Hp → Prop), Rel X.K H0 α0 H α σ s → Rvs X.K H α ds vs → f ds s = some s' → (∀ σ' H', Rel X.K H0 α0 H' α σ' s' → Stay H α H' α → But ws σ σ' → Q σ' H') → t vs σ H Q
def gN : FGs := fun ds s => match ds with | [] => some s | _ => none
def gC (g : FG) (r : FGs) : FGs := fun ds s => match ds with | [] => none | d :: ds => (g d s).bind fun s1 => r ds s1
def gT (r : FGs) : FG := fun d s => match d with | .tup ds => r ds s | _ => none
theorem gd_nil : PGsD X [] [] gN := ⟨_, pgs_nil, fun H0 α0 σ H α s ds vs s' Q r rv e k => by
  unfold gN at e
  split at e
  · cases e
    simp only [Rvs] at rv
    exact ⟨rv, k σ H r (Stay.refl _ _) (But.refl _ _)⟩
  · cases e⟩
theorem gd_cons {e : Expr} {es : List Expr} {g : FG} {r : FGs} {ws ws' : List Nat} (h1 : PGD X e ws g) (h2 : PGsD X es ws' r) (hs : (assignEach (e :: es) X.env).map (·.2) = assign e X.env :: (assignEach es X.env).map (·.2) := by rfl) : PGsD X (e :: es) (ws ++ ws') (gC g r) := by
  obtain ⟨t1, p1, q1⟩ := h1.ex
  obtain ⟨t2, p2, q2⟩ := h2.ex
  refine ⟨_, pgs_cons p1 p2 hs, fun H0 α0 σ H α s ds vs s' Q rl rv e k => ?_⟩
  unfold gC at e
  split at e
  · cases e
  · rename_i d ds
    simp only [Rvs] at rv
    obtain ⟨v, vs, rfl, h1, h2⟩ := rv
    cases eg : g d s with
    | none => rw [eg] at e; cases e
    | some s1 =>
      rw [eg] at e
      refine ⟨v, vs, rfl, q1 H0 α0 σ H α s d v s1 _ rl h1 eg fun σ1 H1 r1 t1 b1 => ?_⟩
      exact q2 H0 α0 σ1 H1 α s1 ds vs s' Q r1 (Rvs.stay t1 _ _ h2) e fun σ2 H2 r2 t2 b2 => k σ2 H2 r2 (t1.trans t2) (b1.trans b2)
theorem gd_tup {es : List Expr} {k : Nat} {pos : Pos} {r : FGs} {n : Nat} {ws : List Nat} (hc : X.calm = true) (h : PGsD X es ws r) (hn : (assignEach es X.env).length = n := by rfl) (hst : (assignEach es X.env).findIdx? (·.1) = none := by rfl) (hl : es.length = n := by rfl)
    (hr : ∀ ds s s', r ds s = some s' → ds.length = n := by intro ds s s' e; simp only [gC, gN] at e; repeat (first | (split at e; first | cases e | skip) | (simp only [Option.bind_eq_some_iff] at e; obtain ⟨_, _, e⟩ := e)); all_goals first | rfl | (cases e) | simp_all) : PGD X (.Tuple es k pos) ws (gT r) := by
  obtain ⟨t, p, q⟩ := h.ex
  refine ⟨_, pg_tup hc p hn hst, fun H0 α0 σ H α s d v s' Q rl rv e k => ?_⟩
  unfold gT at e
  split at e
  · rename_i ds
    simp only [Rv] at rv
    obtain ⟨a, vs, rfl, hs, rr⟩ := rv
    exact ⟨a, vs, rfl, hs, by rw [rr.length]; exact hr _ _ _ e, q H0 α0 σ H α s ds vs s' Q rl rr e k⟩
  · cases e
/-- target = e -/
def dAsgG (fa : FE) (g : FG) : FS := fun s => match fa s with
  | .ok d s1 => if noOwn d then (match g d s1 with | some s2 => .nx s2 | none => .bad) else .bad
  | .exc e s1 => .exc e s1
  | .bad => .bad
theorem sd_asgG {tg e : Expr} {st : Stmt} {fa : FE} {g : FG} {ws : List Nat} (hp : ∀ te t, PE X e te → PG X tg t → PS X st (tAsg te t)) (ha : PED X e fa) (hg : PGD X tg ws g) : PSD X st (dAsgG fa g) := by
  refine ⟨fun W tk => ?_⟩
  obtain ⟨t, p, q⟩ := ha.run W tk
  obtain ⟨u, pu, qu⟩ := hg.ex
  refine ⟨_, hp t u p pu, fun H0 α0 σ H α s D r k => q H0 α0 σ H α s _ r ?_⟩
  unfold dAsgG at k
  cases ea : fa s with
  | bad => rw [ea] at k; exact k.elim
  | exc e s1 => rw [ea] at k; exact fun cls dd H' α' r' x => k cls dd σ H' α' r' x
  | ok d s1 =>
    rw [ea] at k
    simp only at k
    split at k
    · rename_i hn
      intro v H1 α1 r1 t1 rv
      split at k
      · rename_i s2 eg
        exact qu H0 α0 σ H1 α1 s1 d v s2 _ r1 (noOwn_rv rv hn) eg fun σ' H' r' t' _ => k σ' H' α1 r' (t1.trans t')
      · exact k.elim
    · exact k.elim
/-- a, b = x, y -/
def dPar (i j : Nat) (fa : FA) : FS := fun s => match fa s with
  | .ok [a, b] s1 => if noOwn a && noOwn b then .nx { s1 with δ := (s1.δ.set i (.val a)).set j (.val b) } else .bad
  | .exc e s1 => .exc e s1
  | _ => .bad
theorem sd_par {es : List Expr} {st : Stmt} {i j : Nat} {fa : FA} (hp : ∀ ta, PA X es ta → PS X st (tPar i j ta)) (ha : PAD X es fa) : PSD X st (dPar i j fa) := by
  refine ⟨fun W tk => ?_⟩
  obtain ⟨t, p, q⟩ := ha.run W tk
  refine ⟨_, hp t p, fun H0 α0 σ H α s D r k => q H0 α0 σ H α s _ r ?_⟩
  unfold dPar at k
  cases ea : fa s with
  | bad => rw [ea] at k; exact k.elim
  | exc e s1 => rw [ea] at k; exact fun cls dd H' α' r' x => k cls dd σ H' α' r' x
  | ok ds s1 =>
    rw [ea] at k
    intro vs H1 α1 r1 t1 rv
    match ds, vs, rv with
    | [], _, _ => exact k.elim
    | [_], _, _ => exact k.elim
    | [a, b], [v, w], .cons ra (.cons rb .nil) =>
      simp only at k
      split at k
      · rename_i hn
        rw [Bool.and_eq_true] at hn
        exact ⟨v, w, rfl, k _ H1 α1 ((r1.setV (noOwn_rv ra hn.1)).setV (noOwn_rv rb hn.2)) t1⟩
      · exact k.elim
    | _ :: _ :: _ :: _, _, _ => exact k.elim
/-! walks -/
def fixSeq : D → Option (List D) | .tup xs => some xs | .lst xs => some xs | _ => none
def dIter (fa : FE) : FA := fun s => (fa s).bind fun d s1 => match fixSeq d with | some xs => .ok xs s1 | none => .bad
theorem walk_fixT {K : PySem.W.Frag} {H : Hp} {α : List Addr} {a : Addr} {xs : List D} {vs : List V} (h : SqT K H a vs) (rr : Rvs K H α xs vs) : WalkD K (Itt K a) xs H α := by
  refine ⟨fun H' α' t => ⟨vs, t.sqT h, by rw [rr.length]; exact Nat.le_refl _⟩, fun H' α' i d t e => ?_, fun H0 α0 H' α' σ s i d x H2 t r e y => ?_⟩
  · obtain ⟨v, ev, _⟩ := rr.at_ e
    exact ⟨vs, v, t.sqT h, ev⟩
  · obtain ⟨rfl, y⟩ := y
    obtain ⟨v, ev, rv⟩ := rr.at_ e
    have := y vs (t.sqT h)
    rw [ev] at this
    cases this
    exact ⟨r, Stay.refl _ _, Rv.stay t _ _ rv⟩
theorem walk_fixL {K : PySem.W.Frag} {H : Hp} {α : List Addr} {a : Addr} {xs : List D} {vs : List V} (h : SqF K H a vs) (rr : Rvs K H α xs vs) : WalkD K (Itl K a) xs H α := by
  refine ⟨fun H' α' t => ⟨vs, (t.sqF h).sq, by rw [rr.length]; exact Nat.le_refl _⟩, fun H' α' i d t e => ?_, fun H0 α0 H' α' σ s i d x H2 t r e y => ?_⟩
  · obtain ⟨v, ev, _⟩ := rr.at_ e
    exact ⟨vs, v, (t.sqF h).sq, ev⟩
  · obtain ⟨rfl, y⟩ := y
    obtain ⟨v, ev, rv⟩ := rr.at_ e
    have := y vs (t.sqF h).sq
    rw [ev] at this
    cases this
    exact ⟨r, Stay.refl _ _, Rv.stay t _ _ rv⟩
/-- over a list or a tuple, whichever comes -/
def iSeq (K : PySem.W.Frag) (tl : TE) : TI := fun σ H R => tl σ H fun x H1 => (∃ a, x = .ref a ∧ (∃ xs, SqL K H1 a xs) ∧ R (Itl K a) H1) ∨ ∃ a, x = .ref a ∧ (∃ xs, SqT K H1 a xs) ∧ R (Itt K a) H1
theorem PIorT {tg e : Expr} {tl : TE} (h : PE X e tl) : PI X tg e (iSeq X.K tl) := by
  refine ⟨fun pins s σ H R I q => thn (h.run pins s σ H _ I q) fun u s1 ⟨x, H1, I1, rx, q1⟩ => ?_⟩
  rcases q1 with ⟨a, rfl, ⟨xs, hl⟩, qR⟩ | ⟨a, rfl, ⟨xs, hl⟩, qR⟩
  · cases rx
    have one : PE X e (fun σ' H' Q => Q (.ref a) H1 ∧ σ' = σ ∧ H' = H) → True := fun _ => trivial
    obtain ⟨its, rv, pl, _⟩ := I1.list hl
    refine wpAny_pyIter_list pl.isList ?_
    exact pi_one (tk := s1.toks) I1 { cls := .type "list_iterator", data := .fields #[.ref a, .int 0 0] } (turn_list a _) ⟨_, Heap.get?_push_size _ rfl, rfl, rfl⟩ qR
  · cases rx
    obtain ⟨its, rv, ⟨o, ho, hc, n, hd⟩, _⟩ := I1.tuple hl
    refine wpAny_pyIter_tuple ⟨o, ho, hc, n, hd⟩ ?_
    exact pi_one (tk := s1.toks) I1 { cls := .type "tuple_iterator", data := .fields #[.ref a, .int 0 0] } (turn_tuple a _) ⟨_, Heap.get?_push_size _ rfl, rfl, rfl⟩ qR
theorem id_seq {tg e : Expr} {fa : FE} (ha : PED X e fa) : PID X tg e (dIter fa) := by
  refine ⟨fun W tk => ?_⟩
  obtain ⟨t, p, q⟩ := ha.run W tk
  refine ⟨_, PIorT p, fun H0 α0 σ H α s R r k => q H0 α0 σ H α s _ r ?_⟩
  unfold dIter at k
  cases ea : fa s with
  | bad => rw [ea] at k; exact k.elim
  | exc e s1 => rw [ea] at k; exact k
  | ok d s1 =>
    rw [ea] at k
    intro v H1 α1 r1 t1 rv
    simp only [Res.bind] at k
    cases d <;> simp only [fixSeq] at k <;> try exact k.elim
    · obtain ⟨a, vs, rfl, h1, rr⟩ := asT_ok rv
      exact .inr ⟨a, rfl, ⟨vs, h1⟩, k _ H1 α1 r1 t1 (walk_fixT h1 rr)⟩
    · have rv' : Rv X.K H1 α1 (.lst _) v := rv
      simp only [Rv] at rv'
      obtain ⟨a, vs, rfl, h1, rr⟩ := rv'
      exact .inl ⟨a, rfl, ⟨vs, h1.sq⟩, k _ H1 α1 r1 t1 (walk_fixL h1 rr)⟩
/-- range(n), range(a, b) -/
def rngD (lo : Int) (n : Nat) : List D := (List.range n).map fun i => .int (lo + (i : Nat))
theorem walk_rng {K : PySem.W.Frag} {H : Hp} {α : List Addr} {lo : Int} {n : Nat} : WalkD K (Itr lo n) (rngD lo n) H α := by
  have hl : (rngD lo n).length = n := by simp [rngD]
  refine ⟨fun H' α' t => by rw [hl]; exact Nat.le_refl n, fun H' α' i d t e => ?_, fun H0 α0 H' α' σ s i d x H2 t r e y => ?_⟩
  · have := (List.getElem?_eq_some_iff.mp e).1
    rw [hl] at this
    exact this
  · obtain ⟨rfl, rfl⟩ := y
    refine ⟨r, Stay.refl _ _, ?_⟩
    unfold rngD at e
    rw [List.getElem?_map] at e
    cases er : (List.range n)[i]? with
    | none => rw [er] at e; cases e
    | some j =>
      rw [er] at e
      have hj := List.getElem?_range (n := n) (i := i) (by
        have := (List.getElem?_eq_some_iff.mp er).1
        simpa using this)
      rw [hj] at er
      cases er
      cases e
      simp only [Rv]
def smallI (i : Int) : Bool := decide (-(2 ^ 62) ≤ i) && decide (i < 2 ^ 62)
def dRng1 (fa : FA) : FA := fun s => (fa s).bind fun ds s1 => match ds with | [.int j] => if smallI j then .ok (rngD 0 j.toNat) s1 else .bad | _ => .bad
def dRng2 (fa : FA) : FA := fun s => (fa s).bind fun ds s1 => match ds with | [.int i, .int j] => if smallI i && smallI j then .ok (rngD i (j - i).toNat) s1 else .bad | _ => .bad
theorem id_rng1 {tg a : Expr} {p pos : Pos} {fa : FA} (hg : Gl X "range") (hm : X.mg "range" = none) (ha : PAD X [a] fa) (hs : starEach [a] X.env = [(false, eval a X.env)] := by rfl) : PID X tg (.Call (.Name "range" p) [a] [] pos) (dRng1 fa) := by
  refine ⟨fun W tk => ?_⟩
  obtain ⟨t, pa, q⟩ := ha.run W tk
  refine ⟨_, pi_range1 hg hm pa hs, fun H0 α0 σ H α s R r k => q H0 α0 σ H α s _ r ?_⟩
  unfold dRng1 at k
  cases ea : fa s with
  | bad => rw [ea] at k; exact k.elim
  | exc e s1 => rw [ea] at k; exact k
  | ok ds s1 =>
    rw [ea] at k
    intro vs H1 α1 r1 t1 rv
    simp only [Res.bind] at k
    split at k
    · split at k
      · rename_i j hj
        unfold smallI at hj
        rw [Bool.and_eq_true] at hj
        cases rv with
        | cons ra rb =>
          cases rb
          exact ⟨j, by rw [rx_int ra], of_decide_eq_true hj.1, of_decide_eq_true hj.2, k _ H1 α1 r1 t1 walk_rng⟩
      · exact k.elim
    · exact k.elim
theorem id_rng2 {tg a b : Expr} {p pos : Pos} {fa : FA} (hg : Gl X "range") (hm : X.mg "range" = none) (ha : PAD X [a, b] fa) (hs : starEach [a, b] X.env = [(false, eval a X.env), (false, eval b X.env)] := by rfl) (hs2 : starEach [b] X.env = [(false, eval b X.env)] := by rfl) : PID X tg (.Call (.Name "range" p) [a, b] [] pos) (dRng2 fa) := by
  refine ⟨fun W tk => ?_⟩
  obtain ⟨t, pa, q⟩ := ha.run W tk
  refine ⟨_, pi_range2 hg hm pa hs hs2, fun H0 α0 σ H α s R r k => q H0 α0 σ H α s _ r ?_⟩
  unfold dRng2 at k
  cases ea : fa s with
  | bad => rw [ea] at k; exact k.elim
  | exc e s1 => rw [ea] at k; exact k
  | ok ds s1 =>
    rw [ea] at k
    intro vs H1 α1 r1 t1 rv
    simp only [Res.bind] at k
    split at k
    · split at k
      · rename_i i j hj
        unfold smallI at hj
        simp only [Bool.and_eq_true, decide_eq_true_eq] at hj
        cases rv with
        | cons ra rb =>
          cases rb with
          | cons rb rc =>
            cases rc
            exact ⟨i, j, by rw [rx_int ra, rx_int rb], ⟨hj.1.1, hj.1.2, hj.2.1, hj.2.2⟩, k _ H1 α1 r1 t1 walk_rng⟩
      · exact k.elim
    · exact k.elim
end
end DL

namespace DL
open PySem PySem.Spec PyProof.Rows L2
variable [DLX]
/-! ### 20. Defs: what one promises, its body, its call -/
structure StayC (H : Hp) (α : List Addr) (H' : Hp) (α' : List Addr) : Prop where
  st : Stay H α H' α'
  ot : ∀ a o, H a = some o → a ∉ α → H' a = some o
  nw : ∀ a ∈ α', a ∈ α ∨ H a = none
def PostC (K : PySem.W.Frag) (H : Hp) (α : List Addr) (Q : VK) (E : XK) : CR → Prop
  | .ok d μ' => ∀ v H' α', StayC H α H' α' → RelC K H' α' μ' → Rv K H' α' d v → Q v H'
  | .okc c μ' => ∀ a H' α', StayC H α H' α' → RelC K H' α' μ' → CellOk K H' α' a c → a ∉ α' → H a = none → Q (.ref a) H'
  | .exc e μ' => ∀ cls dd H' α', StayC H α H' α' → RelC K H' α' μ' → ExR K H' α' e cls dd → E cls dd H'
  | .bad => False
/-- the promise of a def of n parameters that does what F does -/
def spD (K : PySem.W.Frag) (n : Nat) (F : FF) : Sp := fun vs H Q E => vs.length = n ∧ ∃ α ds μ, RelC K H α μ ∧ Rvs K H α ds vs ∧ PostC K H α Q E (F ds μ)
/-- the body's run: N slots, the arguments first -/
def runF (f : FS) (N : Nat) : FF := fun ds μ => match f ⟨ds.map .val ++ List.replicate (N - ds.length) .no, μ⟩ with
  | .nx s => .ok .non s.μ
  | .rt d s => .ok d s.μ
  | .rtc c s => .okc c s.μ
  | .exc e s => .exc e s.μ
  | _ => .bad
section
variable {K : PySem.W.Frag}
theorem Rel.start {H : Hp} {α : List Addr} {μ : List Cell} {ds : List D} {vs : List V} {N : List Str} (rc : RelC K H α μ) (rr : Rvs K H α ds vs) : Rel K H α H α (start N vs) ⟨ds.map .val ++ List.replicate (N.length - ds.length) .no, μ⟩ := by
  have hl := rr.length
  refine ⟨rc, ⟨by simp [L2.start, hl], fun i d e => ?_, fun i c e => ?_, fun i j c c' a e => ?_⟩, fun _ _ h _ => h, fun _ h => .inl h, Stay.refl _ _⟩
  · unfold L2.start
    by_cases hi : i < ds.length
    · rw [List.getElem?_append_left (by simpa using hi), List.getElem?_map] at e
      cases ed : ds[i]? with
      | none => rw [ed] at e; cases e
      | some x =>
        rw [ed] at e
        cases e
        obtain ⟨v, ev, rv⟩ := rr.at_ ed
        exact ⟨v, by rw [List.getElem?_append_left (by simpa [hl] using hi), List.getElem?_map, ev]; rfl, rv⟩
    · rw [List.getElem?_append_right (by simpa using hi), List.getElem?_replicate] at e
      split at e <;> cases e
  all_goals
    by_cases hi : i < ds.length
    · rw [List.getElem?_append_left (by simpa using hi), List.getElem?_map] at e
      cases ed : ds[i]? with
      | none => rw [ed] at e; cases e
      | some x => rw [ed] at e; cases e
    · rw [List.getElem?_append_right (by simpa using hi), List.getElem?_replicate] at e
      split at e <;> cases e
theorem Rel.stayC {H0 H : Hp} {α0 α : List Addr} {σ : Sg} {s : S} (r : Rel K H0 α0 H α σ s) : StayC H0 α0 H α := ⟨r.st, r.ot, r.nw⟩
/-- behind a call -/
theorem Rel.after {H0 H H' : Hp} {α0 α α' : List Addr} {σ : Sg} {s : S} {μ' : List Cell} (r : Rel K H0 α0 H α σ s) (t : StayC H α H' α') (c : RelC K H' α' μ') : Rel K H0 α0 H' α' σ { s with μ := μ' } := by
  refine ⟨c, ⟨r.slots.len, fun i d e => ?_, fun i x e => ?_, r.slots.inj⟩, fun a o h n => ?_, fun a h => ?_, r.st.trans t.st⟩
  · obtain ⟨v, e1, e2⟩ := r.slots.val i d e
    exact ⟨v, e1, Rv.stay t.st _ _ e2⟩
  · obtain ⟨a, e1, e2, e3, e4⟩ := r.slots.own i x e
    refine ⟨a, e1, fun z => ?_, e3, e4.stay t.st (fun o h _ => t.ot a o h e2)⟩
    rcases t.nw a z with z | z
    · exact e2 z
    · obtain ⟨o, h⟩ := e4.some
      rw [z] at h
      cases h
  · refine t.ot a o (r.ot a o h n) fun z => ?_
    rcases r.nw a z with z | z
    · exact n z
    · rw [z] at h; cases h
  · rcases t.nw a h with z | z
    · exact r.nw a z
    · exact .inr (r.st.dom a z)
end
/-- a def's promise kept wherever no guard stands on the stack (so that what is shown of data can be told) -/
structure FnG (P : Program) (w : World) (K : PySem.W.Frag) (mg : Str → Option Value) (base : Heap) (k : Nat) (f : Addr) (fd : FuncData) (ps : List Str) (sp : Sp) : Prop where
  len : ∀ vs H Q E, sp vs H Q E → vs.length = ps.length
  run : ∀ (A : Around) (out : List Env) (s : Shared) (H : Hp) (args : Args) (us : List Value) (vs : List V) (Q : VK) (E : XK), Room k A → A.guards = some [] → Env0 P w K mg base A out s H → BindsTo s fd args (ps.zip us) → Vals vs us → sp vs H Q E →
    codeAny (model P w) A (.call (.ref f) args) (L2.CR (L2.CX P w) out P w H s Q E) s
theorem FnG.imp {P : Program} {w : World} {K : PySem.W.Frag} {mg : Str → Option Value} {base : Heap} {k : Nat} {f : Addr} {fd : FuncData} {ps : List Str} {sp sp' : Sp} (F : FnG P w K mg base k f fd ps sp) (h : ∀ vs H Q E, sp' vs H Q E → sp vs H Q E) : FnG P w K mg base k f fd ps sp' :=
  ⟨fun vs H Q E q => F.len vs H Q E (h vs H Q E q), fun A out s H args us vs Q E hr hg e0 hb hv q => F.run A out s H args us vs Q E hr hg e0 hb hv (h vs H Q E q)⟩
theorem FnG.mono {P : Program} {w : World} {K : PySem.W.Frag} {mg : Str → Option Value} {base : Heap} {j k : Nat} {f : Addr} {fd : FuncData} {ps : List Str} {sp : Sp} (F : FnG P w K mg base j f fd ps sp) (h : j ≤ k) : FnG P w K mg base k f fd ps sp :=
  ⟨F.len, fun A out s H args us vs Q E hr hg e0 hb hv q => F.run A out s H args us vs Q E (hr.mono h) hg e0 hb hv q⟩
theorem fng_of {P : Program} {w : World} {K : PySem.W.Frag} {mg : Str → Option Value} {base : Heap} {k : Nat} {x qual : Str} {st : Stmt} {f : Addr} {fd : FuncData} {N ps : List Str} {sp : Sp} (F : Fun K x qual st f fd) (S : FnScope N ps (defScope st)) (len : ∀ vs H Q E, sp vs H Q E → vs.length = ps.length)
    (hbody : ∀ (cdv : Value) (A : Around) (out : List Env) (s : Shared) (H : Hp) (vs : List V) (Q : VK) (E : XK), Room k (A.deeper (envOfC qual (defScope st) s.heap.objs.size f cdv)) → A.guards = some [] → sp vs H Q E →
      ∃ t, PSs (cxOf (L2.CX P w) P w K mg base N qual (defScope st) f cdv A out s H E) (defBody st) t ∧ t { nx := fun _ H' => Q .non H', rt := Q } (L2.start N vs) H) : FnG P w K mg base (k + 1) f fd ps sp := by
  obtain ⟨oc, od, kV, doc, pm, an, cdv, ct, osl, efd, lk, hcd⟩ := F.ex
  subst efd
  refine ⟨len, ?_⟩
  intro A out s H args us vs Q E hr hg e0 hb rv hsp
  have inK : K.In s.heap := e0.mod.kin.keeps (fun b o e => (e0.bs b o e).1)
  have nolim : s.heap.NoLimit := e0.mod.nolimit.keeps (fun b o e => (e0.bs b o e).1)
  have kinds : ∀ y ∈ ps.zip us, (defScope st).names.lookup y.1 = some .local ∨ ((defScope st).names.lookup y.1 = some .cell ∧ ((cellsFrom (s.heap.objs.size + 1) (defScope st).names []).lookup y.1).isSome = true) := by
    rintro ⟨n, v⟩ hy
    rcases S.par n (List.of_mem_zip hy).1 with z | z
    · exact .inl z
    · exact .inr ⟨z, PySem.W.cellsFrom_some _ _ _ (.inl z)⟩
  refine codeAny_call_function hr.depth (inK _ _ lk) rfl S.co S.gen rfl (PySem.W.codeRec_of inK hcd) (hb _ _ _ _ ?_)
  refine wpAny_newFunctionEnv_cells S.kind kinds ?_
  intro fenv env s1 ic
  subst env
  refine ⟨nolim.keeps ic.toInCall.keep, codeAny_func ?_⟩
  obtain ⟨t, pt, qt⟩ := hbody cdv A out s H vs Q E (hr.deeper _) hg hsp
  have I := inv_start (CX := L2.CX P w) (E := E) (cd := cdv) (f := f) (qual := qual) S hr.hd e0 (len _ _ _ _ hsp) rv ic
  have ends : ∀ {σ' : Sg} {H' : Hp} {s' : Shared} {v : V} {u : Value}, Inv (cxOf (L2.CX P w) P w K mg base N qual (defScope st) f cdv A out s H E) [] σ' H' s' → RelV v u → Q v H' → CE out P w H s Q u s' := by
    intro σ' H' s' v u J r q
    exact ⟨v, H', J.os, J.bare, J.base, J.hok, r, q⟩
  refine wpAny_mono (pt.run [] s1 (L2.start N vs) H _ I qt) ?_ (fun e s' z => z)
  intro fl s' z
  cases fl with
  | next =>
    obtain ⟨σ', H', J, q⟩ := z
    exact ends (v := .non) (u := .none) J rfl q
  | brk =>
    obtain ⟨_, _, _, q⟩ := z
    exact q.elim
  | cont =>
    obtain ⟨_, _, _, q⟩ := z
    exact q.elim
  | ret u =>
    obtain ⟨v, σ', H', J, r, q⟩ := z
    exact ends J r q
section
variable {X : Cx} {k : Nat} {f : Addr} {fd : FuncData} {ps : List Str} {sp : Sp} {E : Sg → XK} {x : Str} {p pos : Pos} {e : Expr} {es : List Expr} {t : TA}
theorem run_fnG {pins : List (Addr × Obj)} {σ : Sg} {H : Hp} {s : Shared} {Q : VK} {us : List Value} {vs : List V} (F : FnG X.prog X.w X.K X.mg X.base k f fd ps sp) (hr : Room k X.A) (hg : X.A.guards = some []) (hb : Binds X.K fd ps []) (hx : PassesAt (L2.CX X.prog X.w) X σ (E σ))
    (I : Inv X pins σ H s) (r : Vals vs us) (h : sp vs H Q (E σ)) : wpAny (model X.prog X.w) X.A (call (.ref f) us) (EP X pins σ Q) X.xe s := by
  have nl : (us ++ ([] : List Value)).length = ps.length := by
    rw [List.append_nil, ← r.length]
    exact F.len vs H Q (E σ) h
  have bt := hb s us I.kIn nl
  rw [List.append_nil] at bt
  refine wpAny_call (codeAny_mono (F.run X.A X.stack s H ⟨us, []⟩ us vs Q (E σ) hr hg I.env0 bt r h) ?_)
  rintro (er | fl) s' z
  · exact hx pins H s er s' I z
  · cases fl with
    | ret u => exact I.after z
    | next => exact z.elim
    | brk => exact z.elim
    | cont => exact z.elim
theorem pe_callG (F : FnG X.prog X.w X.K X.mg X.base k f fd ps sp) (hr : Room k X.A) (hgu : X.A.guards = some []) (hg : Gl X x) (hm : X.mg x = some (.ref f)) (hk : PySem.W.keepIn X.K (.ref f) = true) (hb : Binds X.K fd ps []) (hx : ∀ σ, PassesAt (L2.CX X.prog X.w) X σ (E σ))
    (ha : PA X (e :: es) t) (hdb : (x == ("__debug__" : Str)) = false := by decide) (he : starEach (e :: es) X.env = (false, eval e X.env) :: starEach es X.env := by rfl) (hpl : (backTo pos (starEach es X.env)).any (·.1) = false := by rfl) :
    PE X (.Call (.Name x p) (e :: es) [] pos) (tCallS sp E t) := by
  constructor
  intro pins s σ H Q I h
  refine wpAny_Call_Name_kw (ld_glob I hg hm (PySem.W.callWith_K (h₀ := X.base) I.ok.mod.kin hk (thn (ha.run pos pins s σ H _ I h) ?_) he hpl) hdb)
  rintro us s1 ⟨vs, H1, I1, r, q⟩
  exact ⟨I1.kIn, run_fnG F hr hgu hb (hx σ) I1 r q⟩
end
/-- what a written def is: at f, with its data, the level k -/
structure FnD (P : Program) (w : World) (K : PySem.W.Frag) (mg : Str → Option Value) (base : Heap) (x : Str) (k : Nat) (n : Nat) (F : FF) : Prop where
  ex : ∃ f fd ps, mg x = some (.ref f) ∧ PySem.W.keepIn K (.ref f) = true ∧ FnG P w K mg base k f fd ps (spD K n F) ∧ Binds K fd ps []
/-- a promise that says less -/
theorem spD.imp {K : PySem.W.Frag} {n : Nat} {F G : FF} (h : ∀ ds μ, ds.length = n → G ds μ ≠ .bad → F ds μ = G ds μ) : ∀ vs H Q E, spD K n G vs H Q E → spD K n F vs H Q E := fun vs H Q E ⟨hl, α, ds, μ, rc, rr, q⟩ => by
  refine ⟨hl, α, ds, μ, rc, rr, ?_⟩
  rw [h ds μ (by rw [← rr.length]; exact hl) (fun z => by rw [z] at q; exact q)]
  exact q
theorem FnD.imp {P : Program} {w : World} {K : PySem.W.Frag} {mg : Str → Option Value} {base : Heap} {x : Str} {k n : Nat} {F G : FF} (f : FnD P w K mg base x k n F) (h : ∀ ds μ, ds.length = n → G ds μ ≠ .bad → F ds μ = G ds μ) : FnD P w K mg base x k n G := by
  obtain ⟨a, fd, ps, h1, h2, h3, h4⟩ := f.ex
  exact ⟨a, fd, ps, h1, h2, h3.imp (spD.imp h), h4⟩
theorem FnD.mono {P : Program} {w : World} {K : PySem.W.Frag} {mg : Str → Option Value} {base : Heap} {x : Str} {j k n : Nat} {F : FF} (f : FnD P w K mg base x j n F) (h : j ≤ k) : FnD P w K mg base x k n F := by
  obtain ⟨a, fd, ps, h1, h2, h3, h4⟩ := f.ex
  exact ⟨a, fd, ps, h1, h2, h3.mono h, h4⟩
/-- the context of a def's body -/
structure BodyX (P : Program) (w : World) (K : PySem.W.Frag) (mg : Str → Option Value) (base : Heap) (N : List Str) (sc : Scope) (k : Nat) (X : Cx) : Prop where
  prog : X.prog = P
  w : X.w = w
  K : X.K = K
  mg : X.mg = mg
  base : X.base = base
  room : Room k X.A
  gu : X.A.guards = some []
/-- THE RULE for a def: its body does what g does, in whatever context -/
theorem fnD {P : Program} {w : World} {K : PySem.W.Frag} {mg : Str → Option Value} {base : Heap} {x qual : Str} {st : Stmt} {f : Addr} {fd : FuncData} {N ps : List Str} {k : Nat} (F : Fun K x qual st f fd) (hm : mg x = some (.ref f)) (hb : Binds K fd ps []) (S : FnScope N ps (defScope st))
    (G : FF) (hbody : ∀ (cdv : Value) (A : Around) (outer : List Env) (s : Shared) (H : Hp) (E : XK), Room k (A.deeper (envOfC qual (defScope st) s.heap.objs.size f cdv)) → A.guards = some [] →
      ∀ ds μ, ds.length = ps.length → G ds μ ≠ .bad → ∃ g, PSsD (cxOf (L2.CX P w) P w K mg base N qual (defScope st) f cdv A outer s H E) (defBody st) g ∧ runF g N.length ds μ = G ds μ) : FnD P w K mg base x (k + 1) ps.length G := by
  refine ⟨f, fd, ps, hm, F.kp, fng_of F S (fun vs H Q E h => h.1) (fun cdv A outer s H vs Q E hr hgu h => ?_), hb⟩
  obtain ⟨hl, α, ds, μ, rc, rr, q⟩ := h
  have hld : ds.length = ps.length := by rw [← rr.length]; exact hl
  obtain ⟨g, hg, eg⟩ := hbody cdv A outer s H E hr hgu ds μ hld (fun z => by rw [z] at q; exact q)
  have tk : Takes (cxOf (L2.CX P w) P w K mg base N qual (defScope st) f cdv A outer s H E) (fun cls d _ H' => E cls d H') := takes_of (E := E) (E₁ := fun e' s'' => L2.CX P w outer H s E e' s'') rfl rfl rfl rfl
  obtain ⟨t, pt, qt⟩ := hg.run _ tk
  refine ⟨t, pt, qt H α (start N vs) H α _ _ (Rel.start rc rr) ?_⟩
  rw [← eg] at q
  unfold runF at q
  cases e : g ⟨ds.map .val ++ List.replicate (N.length - ds.length) .no, μ⟩ <;> rw [e] at q <;> simp only at q
  · exact fun σ' H' α' r' _ => q .non H' α' r'.stayC r'.cells (by simp only [Rv])
  · exact fun v σ' H' α' r' rv => q v H' α' r'.stayC r'.cells rv
  · exact fun a σ' H' α' r' rf => q a H' α' r'.stayC r'.cells rf.1 rf.2.1 rf.2.2.1
  · exact q.elim
  · exact q.elim
  · exact fun cls dd σ' H' α' r' x => q cls dd H' α' r'.stayC r'.cells x
  · exact q.elim
/-! calls -/
def dCall (F : FF) (fa : FA) : FE := fun s => (fa s).bind fun ds s1 => if ds.all noOwn then (match F ds s1.μ with
  | .ok d μ' => .ok d { s1 with μ := μ' }
  | .exc e μ' => .exc e { s1 with μ := μ' }
  | _ => .bad) else .bad
def dCallF (F : FF) (fa : FA) : FC := fun s => (fa s).bind fun ds s1 => if ds.all noOwn then (match F ds s1.μ with
  | .okc c μ' => .ok c { s1 with μ := μ' }
  | .exc e μ' => .exc e { s1 with μ := μ' }
  | _ => .bad) else .bad
section
variable {X : Cx} {x : Str} {k n : Nat} {F : FF} {p pos : Pos}
theorem call_core {es : List Expr} {fa : FA} {W : WX} {t : TA} {α0 : List Addr} {H0 : Hp} (qa : ∀ H0 α0 σ H α s Q, Rel X.K H0 α0 H α σ s → PostA X.K H0 α0 σ W H α Q (fa s) → t σ H Q) (hn : n = es.length) (hlen : ∀ s ds s1, fa s = .ok ds s1 → ds.length = es.length)
    {σ : Sg} {H : Hp} {α : List Addr} {s : S} {Q : VK} (r : Rel X.K H0 α0 H α σ s) (q : PostE X.K H0 α0 σ W H α Q (dCall F fa s)) : tCallS (spD X.K n F) (WE W) t σ H Q := by
  refine qa H0 α0 σ H α s _ r ?_
  unfold dCall at q
  cases ea : fa s with
  | bad => rw [ea] at q; exact q.elim
  | exc e s1 => rw [ea] at q; exact q
  | ok ds s1 =>
    rw [ea] at q
    intro vs H1 α1 r1 t1 rv
    simp only [Res.bind] at q
    split at q
    · rename_i hno
      have rr := rv.rvs hno
      refine ⟨by rw [rr.length, hlen _ _ _ ea, hn], α1, ds, s1.μ, r1.cells, rr, ?_⟩
      cases eF : F ds s1.μ <;> rw [eF] at q <;> simp only at q
      · exact fun v H' α' tc c rv => q v H' α' (r1.after tc c) (t1.trans tc.st) (Rv.x rv)
      · exact q.elim
      · exact fun cls dd H' α' tc c x => q cls dd H' α' (r1.after tc c) x
      · exact q.elim
    · exact q.elim
theorem call_coreF {es : List Expr} {fa : FA} {W : WX} {t : TA} {α0 : List Addr} {H0 : Hp} (qa : ∀ H0 α0 σ H α s Q, Rel X.K H0 α0 H α σ s → PostA X.K H0 α0 σ W H α Q (fa s) → t σ H Q) (hn : n = es.length) (hlen : ∀ s ds s1, fa s = .ok ds s1 → ds.length = es.length)
    {σ : Sg} {H : Hp} {α : List Addr} {s : S} {Q : VK} (r : Rel X.K H0 α0 H α σ s) (q : PostF X.K H0 α0 σ W H α Q (dCallF F fa s)) : tCallS (spD X.K n F) (WE W) t σ H Q := by
  refine qa H0 α0 σ H α s _ r ?_
  unfold dCallF at q
  cases ea : fa s with
  | bad => rw [ea] at q; exact q.elim
  | exc e s1 => rw [ea] at q; exact q
  | ok ds s1 =>
    rw [ea] at q
    intro vs H1 α1 r1 t1 rv
    simp only [Res.bind] at q
    split at q
    · rename_i hno
      have rr := rv.rvs hno
      refine ⟨by rw [rr.length, hlen _ _ _ ea, hn], α1, ds, s1.μ, r1.cells, rr, ?_⟩
      cases eF : F ds s1.μ <;> rw [eF] at q <;> simp only at q
      · exact q.elim
      · rename_i c μ'
        intro a H' α' tc cc hc na hn
        refine q a H' α' (r1.after tc cc) (t1.trans tc.st) ⟨hc, na, r1.free0 hn, fun i c' e1 e2 => ?_⟩
        obtain ⟨b, e3, e4, e5, e6⟩ := r1.slots.own i c' e1
        rw [e2] at e3
        cases e3
        obtain ⟨o, h⟩ := e6.some
        rw [hn] at h
        cases h
      · exact fun cls dd H' α' tc c x => q cls dd H' α' (r1.after tc c) x
      · exact q.elim
    · exact q.elim
/-- a list of arguments has their number -/
structure PALen (es : List Expr) (fa : FA) : Prop where
  len : ∀ s ds s1, fa s = .ok ds s1 → ds.length = es.length
theorem al_n : PALen [] dNil := ⟨fun s ds s1 h => by cases h; rfl⟩
theorem al_c {e : Expr} {es : List Expr} {fa : FE} {fr : FA} (h : PALen es fr) : PALen (e :: es) (dCons fa fr) := ⟨fun s ds s1 q => by
  unfold dCons at q
  cases ea : fa s with
  | bad => rw [ea] at q; cases q
  | exc e s1 => rw [ea] at q; cases q
  | ok d s2 =>
    rw [ea] at q
    simp only [Res.bind] at q
    cases er : fr s2 with
    | bad => rw [er] at q; cases q
    | exc e s1 => rw [er] at q; cases q
    | ok ds2 s3 =>
      rw [er] at q
      cases q
      simp [h.len _ _ _ er]⟩
theorem pd_call {e : Expr} {es : List Expr} {fa : FA} (f : FnD X.prog X.w X.K X.mg X.base x k n F) (hr : Room k X.A) (hgu : X.A.guards = some []) (hg : Gl X x) (ha : PAD X (e :: es) fa) (hl : PALen (e :: es) fa) (hn : n = (e :: es).length := by rfl) (hdb : (x == ("__debug__" : Str)) = false := by decide)
    (he : starEach (e :: es) X.env = (false, eval e X.env) :: starEach es X.env := by rfl) (hpl : (backTo pos (starEach es X.env)).any (·.1) = false := by rfl) : PED X (.Call (.Name x p) (e :: es) [] pos) (dCall F fa) := by
  obtain ⟨a, fd, ps, h1, h2, h3, h4⟩ := f.ex
  refine ⟨fun W tk => ?_⟩
  obtain ⟨t, pa, qa⟩ := ha.run W tk
  exact ⟨_, pe_callG h3 hr hgu hg h1 h2 h4 (fun σ => passAt tk σ) pa hdb he hpl, fun H0 α0 σ H α s Q r q => call_core qa hn hl.len r q⟩
theorem pf_call {e : Expr} {es : List Expr} {fa : FA} (f : FnD X.prog X.w X.K X.mg X.base x k n F) (hr : Room k X.A) (hgu : X.A.guards = some []) (hg : Gl X x) (ha : PAD X (e :: es) fa) (hl : PALen (e :: es) fa) (hn : n = (e :: es).length := by rfl) (hdb : (x == ("__debug__" : Str)) = false := by decide)
    (he : starEach (e :: es) X.env = (false, eval e X.env) :: starEach es X.env := by rfl) (hpl : (backTo pos (starEach es X.env)).any (·.1) = false := by rfl) : PFD X (.Call (.Name x p) (e :: es) [] pos) (dCallF F fa) := by
  obtain ⟨a, fd, ps, h1, h2, h3, h4⟩ := f.ex
  refine ⟨fun W tk => ?_⟩
  obtain ⟨t, pa, qa⟩ := ha.run W tk
  exact ⟨_, pe_callG h3 hr hgu hg h1 h2 h4 (fun σ => passAt tk σ) pa hdb he hpl, fun H0 α0 σ H α s Q r q => call_coreF qa hn hl.len r q⟩
end
/-! ### 21. Calls of built-ins -/
/-- the built-in f does g: over the machine -/
def BI (X : Cx) (f : Value) (g : S → List D → Option D) : Prop :=
  ∀ (pins : List (Addr × Obj)) (s : Shared) (σ0 : Sg) (H : Hp) (xs : List V) (us : List Value) (Q : VK) (H0 : Hp) (σ : Sg) (α0 α : List Addr) (st : S) (ds : List D) (d : D), Inv X pins σ0 H s → Rel X.K H0 α0 H α σ st → Rxs X.K H α σ ds xs → Vals xs us → g st ds = some d →
    (∀ v H' α', Rel X.K H0 α0 H' α' σ st → Stay H α H' α' → Rx X.K H' α' σ d v → Q v H') → wpAny (model X.prog X.w) X.A (call f us) (EP X pins σ0 Q) X.xe s
def rBI (K : PySem.W.Frag) (g : S → List D → Option D) : List V → Hp → VK → Prop := fun xs H Q => ∃ H0 σ α0 α st ds d, Rel K H0 α0 H α σ st ∧ Rxs K H α σ ds xs ∧ g st ds = some d ∧ ∀ v H' α', Rel K H0 α0 H' α' σ st → Stay H α H' α' → Rx K H' α' σ d v → Q v H'
theorem BI.call {X : Cx} {f : Value} {g : S → List D → Option D} (h : BI X f g) : CallR X f (rBI X.K g) := fun pins s σ0 H xs us Q I rv ⟨H0, σ, α0, α, st, ds, d, rl, rx, eg, q⟩ => h pins s σ0 H xs us Q H0 σ α0 α st ds d I rl rx rv eg q
/-- from a rule by values -/
theorem BI.of {X : Cx} {f : Value} {r : List V → Hp → VK → Prop} {g : S → List D → Option D} (hc : CallR X f r)
    (h : ∀ (H0 : Hp) (α0 : List Addr) (σ : Sg) (H : Hp) (α : List Addr) (s : S) (xs : List V) (ds : List D) (d : D) (Q : VK), Rel X.K H0 α0 H α σ s → Rxs X.K H α σ ds xs → g s ds = some d →
      (∀ v H' α', Rel X.K H0 α0 H' α' σ s → Stay H α H' α' → Rx X.K H' α' σ d v → Q v H') → r xs H fun v H1 => Gh H1 (Q v)) : BI X f g :=
  fun pins s σ0 H xs us Q H0 σ α0 α st ds d I rl rx rv eg q => callGh hc pins s σ0 H xs us Q I rv (h H0 α0 σ H α st xs ds d Q rl rx eg q)
theorem BI.or {X : Cx} {f : Value} {g g' : S → List D → Option D} (h : BI X f g) (h' : BI X f g') : BI X f (fun s ds => (g s ds).or (g' s ds)) := fun pins s σ0 H xs us Q H0 σ α0 α st ds d I rl rx rv eg q => by
  dsimp only at eg
  cases e : g st ds with
  | some d' =>
    rw [e] at eg
    obtain rfl : d' = d := Option.some.inj eg
    exact h pins s σ0 H xs us Q H0 σ α0 α st ds d' I rl rx rv e q
  | none =>
    rw [e] at eg
    have eg : g' st ds = some d := eg
    exact h' pins s σ0 H xs us Q H0 σ α0 α st ds d I rl rx rv eg q
def dB (g : S → List D → Option D) (fa : FA) : FE := fun s => (fa s).bind fun ds s1 => match g s1 ds with | some d => .ok d s1 | none => .bad
section
variable {X : Cx} {x : Str} {p pos : Pos} {e : Expr} {es : List Expr} {fa : FA} {g : S → List D → Option D} {id T : String}
theorem bi_core {t : TA} {W : WX} {H0 : Hp} {α0 : List Addr} (qa : ∀ H0 α0 σ H α s Q, Rel X.K H0 α0 H α σ s → PostA X.K H0 α0 σ W H α Q (fa s) → t σ H Q) {σ : Sg} {H : Hp} {α : List Addr} {s : S} {Q : VK} (r : Rel X.K H0 α0 H α σ s) (q : PostE X.K H0 α0 σ W H α Q (dB g fa s)) : tCB (rBI X.K g) t σ H Q := by
  refine qa H0 α0 σ H α s _ r ?_
  unfold dB at q
  cases ea : fa s with
  | bad => rw [ea] at q; exact q.elim
  | exc e s1 => rw [ea] at q; exact q
  | ok ds s1 =>
    rw [ea] at q
    intro vs H1 α1 r1 t1 rv
    simp only [Res.bind] at q
    split at q
    · rename_i d eg
      exact ⟨H0, σ, α0, α1, s1, ds, d, r1, rv, eg, fun v H' α' r' t' rx => q v H' α' r' (t1.trans t') rx⟩
    · exact q.elim
theorem pd_b (hc : BI X (.builtin id) g) (hg : Gl X x) (hm : X.mg x = none) (hv : bootBuiltins x = some (.builtin id)) (ha : PAD X (e :: es) fa) (hn : x ≠ "__name__" := by decide) (hdb : (x == ("__debug__" : Str)) = false := by decide)
    (he : starEach (e :: es) X.env = (false, eval e X.env) :: starEach es X.env := by rfl) (hpl : (backTo pos (starEach es X.env)).any (·.1) = false := by rfl) : PED X (.Call (.Name x p) (e :: es) [] pos) (dB g fa) := by
  refine ⟨fun W tk => ?_⟩
  obtain ⟨t, pa, qa⟩ := ha.run W tk
  exact ⟨_, pe_callB hc.call hg hm hv pa hn hdb he hpl, fun H0 α0 σ H α s Q r q => bi_core qa r q⟩
theorem pd_ty (hc : BI X (.type T) g) (hg : Gl X x) (hm : X.mg x = none) (hv : bootBuiltins x = some (.type T)) (ha : PAD X (e :: es) fa) (hn : x ≠ "__name__" := by decide) (hdb : (x == ("__debug__" : Str)) = false := by decide)
    (he : starEach (e :: es) X.env = (false, eval e X.env) :: starEach es X.env := by rfl) (hpl : (backTo pos (starEach es X.env)).any (·.1) = false := by rfl) : PED X (.Call (.Name x p) (e :: es) [] pos) (dB g fa) := by
  refine ⟨fun W tk => ?_⟩
  obtain ⟨t, pa, qa⟩ := ha.run W tk
  exact ⟨_, pe_callTy hc.call hg hm hv pa hn hdb he hpl, fun H0 α0 σ H α s Q r q => bi_core qa r q⟩
end
end DL

namespace DL
open PySem PySem.Spec PyProof.Rows L2
variable [DLX]
/-! ### 22. The built-ins -/
def gLen : S → List D → Option D := fun s ds => match ds with
  | [.str z] => if z.length ≤ 16777216 then some (.int z.length) else none
  | [d] => (asSeq s d).map fun xs => .int xs.length
  | _ => none
def gAbs : S → List D → Option D := fun _ ds => match ds with | [.int i] => some (.int (if i < 0 then -i else i)) | _ => none
def gMax2 : S → List D → Option D := fun _ ds => match ds with | [.int i, .int j] => some (.int (if j > i then j else i)) | _ => none
def gMin2 : S → List D → Option D := fun _ ds => match ds with | [.int i, .int j] => some (.int (if j < i then j else i)) | _ => none
def gInt : S → List D → Option D := fun _ ds => match ds with | [.int i] => some (.int i) | [.bl b] => some (.int (if b then 1 else 0)) | _ => none
def gTuple : S → List D → Option D := fun s ds => match ds with | [d] => (asSeq s d).map .tup | _ => none
def intD : D → Option Int | .int i => some i | _ => none
def intsD (xs : List D) : Option (List Int) := xs.mapM intD
def gSum : S → List D → Option D := fun s ds => match ds with | [d] => (asL s d).bind fun xs => (intsD xs).map fun ns => .int ns.sum | _ => none
/-- what is shown of data -/
def viaOwn : D → Bool | .own _ | .ref _ => true | _ => false
def shownD (s : S) (d : D) : Option Str := (toPyS s d).bind fun p => if p.showable && ((!viaOwn d && noL d) || !p.hasDict) && decide (p.depth ≤ 60) && decide (p.shown.length ≤ 16777216) then some p.shown else none
def gRepr : S → List D → Option D := fun s ds => match ds with | [d] => (shownD s d).map .str | _ => none
def gStr : S → List D → Option D := fun s ds => match ds with | [.str x] => some (.str x) | [d] => (shownD s d).map .str | _ => none
def tyD (s : S) : D → Option String
  | .non => some "NoneType"
  | .bl _ => some "bool"
  | .int _ => some "int"
  | .str _ => some "str"
  | .tup _ => some "tuple"
  | .lst _ => some "list"
  | .dct _ => some "dict"
  | .own i => (match cellAt s (.own i) with | some (.lst _) => some "list" | some (.dct _) => some "dict" | _ => none)
  | .ref i => (match cellAt s (.ref i) with | some (.lst _) => some "list" | some (.dct _) => some "dict" | _ => none)
  | _ => none
def gIsi : S → List D → Option D := fun s ds => match ds with | [d, .ty n] => (tyD s d).bind fun t => (kitB t n).map .bl | _ => none
def truthP (s : S) (xs : List D) : Option (List PyData) := (toPyL xs).bind fun ps => if PyData.plainAll ps && ps.all (fun p => match p with | .str x => decide (x.length ≤ 16777216) | .list l => decide (l.length ≤ 16777216) | .tuple l => decide (l.length ≤ 16777216) | _ => true) then some ps else none
def gAll : S → List D → Option D := fun s ds => match ds with | [d] => (asL s d).bind fun xs => (truthP s xs).map fun ps => .bl (ps.all PyData.truthy) | _ => none
def gAny : S → List D → Option D := fun s ds => match ds with | [d] => (asL s d).bind fun xs => (truthP s xs).map fun ps => .bl (ps.any PyData.truthy) | _ => none
section
variable {X : Cx}
theorem Rxs.one {K : PySem.W.Frag} {H : Hp} {α : List Addr} {σ : Sg} {d : D} {vs : List V} (h : Rxs K H α σ [d] vs) : ∃ v, vs = [v] ∧ Rx K H α σ d v := by
  cases h with
  | cons a b => cases b; exact ⟨_, rfl, a⟩
theorem Rxs.two {K : PySem.W.Frag} {H : Hp} {α : List Addr} {σ : Sg} {d e : D} {vs : List V} (h : Rxs K H α σ [d, e] vs) : ∃ v w, vs = [v, w] ∧ Rx K H α σ d v ∧ Rx K H α σ e w := by
  cases h with
  | cons a b =>
    obtain ⟨w, rfl, q⟩ := Rxs.one b
    exact ⟨_, w, rfl, a, q⟩
theorem bi_len : BI X (.builtin "len") gLen := .of L2.call_len fun H0 α0 σ H α s xs ds d Q r rx e q => by
  unfold gLen at e
  split at e
  · obtain ⟨v, rfl, rv⟩ := rx.one
    split at e
    · rename_i hz
      rw [← sizeLine_eq] at hz
      cases e
      rw [rx_str rv]
      exact ⟨_, _, rfl, ⟨hz, rfl⟩, .inl (q _ _ _ r (Stay.refl _ _) ox_int)⟩
    · cases e
  · obtain ⟨v, rfl, rv⟩ := rx.one
    simp only [Option.map_eq_some_iff] at e
    obtain ⟨ys, e, rfl⟩ := e
    obtain ⟨a, vs, rfl, hs, rr⟩ := asSeq_ok r rv e
    refine ⟨_, ys.length, rfl, ?_, .inl (q _ _ _ r (Stay.refl _ _) ox_int)⟩
    rcases hs with hs | hs
    · exact .inl ⟨vs, hs, rr.length.symm⟩
    · exact .inr ⟨vs, hs, rr.length.symm⟩
  · cases e
theorem bi_abs : BI X (.builtin "abs") gAbs := .of L2.call_abs fun H0 α0 σ H α s xs ds d Q r rx e q => by
  unfold gAbs at e
  split at e
  · obtain ⟨v, rfl, rv⟩ := rx.one
    cases e
    rw [rx_int rv]
    exact ⟨_, rfl, .inl (q _ _ _ r (Stay.refl _ _) ox_int)⟩
  · cases e
theorem bi_max2 (hc : X.calm = true) : BI X (.builtin "max") gMax2 := .of (L2.call_max2 hc) fun H0 α0 σ H α s xs ds d Q r rx e q => by
  unfold gMax2 at e
  split at e
  · obtain ⟨v, w, rfl, rv, rw⟩ := rx.two
    cases e
    rw [rx_int rv, rx_int rw]
    exact ⟨_, _, rfl, .inl (q _ _ _ r (Stay.refl _ _) ox_int)⟩
  · cases e
theorem bi_min2 (hc : X.calm = true) : BI X (.builtin "min") gMin2 := .of (L2.call_min2 hc) fun H0 α0 σ H α s xs ds d Q r rx e q => by
  unfold gMin2 at e
  split at e
  · obtain ⟨v, w, rfl, rv, rw⟩ := rx.two
    cases e
    rw [rx_int rv, rx_int rw]
    exact ⟨_, _, rfl, .inl (q _ _ _ r (Stay.refl _ _) ox_int)⟩
  · cases e
theorem bi_int : BI X (.type "int") gInt := .of L2.call_int1 fun H0 α0 σ H α s xs ds d Q r rx e q => by
  unfold gInt at e
  split at e
  · obtain ⟨v, rfl, rv⟩ := rx.one
    cases e
    rw [rx_int rv]
    exact .inl ⟨_, rfl, .inl (q _ _ _ r (Stay.refl _ _) ox_int)⟩
  · obtain ⟨v, rfl, rv⟩ := rx.one
    cases e
    rw [rx_bl rv]
    exact .inr ⟨_, rfl, .inl (q _ _ _ r (Stay.refl _ _) ox_int)⟩
  · cases e
theorem bi_tuple : BI X (.type "tuple") gTuple := .of L2.call_tuple_of fun H0 α0 σ H α s xs ds d Q r rx e q => by
  unfold gTuple at e
  split at e
  · rename_i dd
    obtain ⟨v, rfl, rv⟩ := rx.one
    simp only [Option.map_eq_some_iff] at e
    obtain ⟨ys, e, rfl⟩ := e
    have key : ∀ d, asL s d = some ys → Rx X.K H α σ d v → ∃ p ys', [v] = [V.ref p] ∧ ((SqL X.K H p ys' ∧ ∀ l, H l = none → Gh (upd H l (.tup ys')) (Q (.ref l))) ∨ (SqT X.K H p ys' ∧ Gh H (Q (.ref p)))) := fun d e rv => by
      obtain ⟨a, vs, rfl, hs, rr⟩ := asL_ok r rv e
      exact ⟨a, vs, rfl, .inl ⟨hs, fun l hl => .inl (new_tup r hl rr q)⟩⟩
    unfold asSeq at e
    split at e
    · cases e
      obtain ⟨a, vs, rfl, hs, rr⟩ := asT_ok rv
      exact ⟨a, vs, rfl, .inr ⟨hs, .inl (q _ _ _ r (Stay.refl _ _) rv)⟩⟩
    · exact key _ e rv
  · cases e
theorem rvs_ints {K : PySem.W.Frag} {H : Hp} {α : List Addr} : ∀ (ys : List D) {ns : List Int} {vs : List V}, intsD ys = some ns → Rvs K H α ys vs → vs = ns.map V.int
  | [], ns, vs, e, r => by
    unfold intsD at e
    simp only [List.mapM_nil, Option.pure_def, Option.some.injEq] at e
    subst e
    show vs = []
    simpa only [Rvs] using r
  | y :: ys, ns, vs, e, r => by
    unfold intsD at e
    rw [List.mapM_cons] at e
    simp only [Option.bind_eq_bind, Option.bind_eq_some_iff, Option.pure_def, Option.some.injEq] at e
    obtain ⟨i, ei, ns2, e3, rfl⟩ := e
    simp only [Rvs] at r
    obtain ⟨v, r2, rfl, h1, h2⟩ := r
    have := rvs_ints ys (ns := ns2) e3 h2
    subst this
    unfold intD at ei
    split at ei
    · cases ei
      simp only [Rv] at h1
      subst h1
      rfl
    · cases ei
theorem bi_sum (hc : X.calm = true) : BI X (.builtin "sum") gSum := .of (L2.cr_sum hc) fun H0 α0 σ H α s xs ds d Q r rx e q => by
  unfold gSum at e
  split at e
  · obtain ⟨v, rfl, rv⟩ := rx.one
    simp only [Option.bind_eq_some_iff, Option.map_eq_some_iff] at e
    obtain ⟨ys, e1, ns, e2, rfl⟩ := e
    obtain ⟨a, vs, rfl, hs, rr⟩ := asL_ok r rv e1
    obtain rfl := rvs_ints ys e2 rr
    exact ⟨a, ns, rfl, hs, .inl (q _ _ _ r (Stay.refl _ _) ox_int)⟩
  · cases e
theorem hreads {pins : List (Addr × Obj)} {s : Shared} {σ0 σ : Sg} {H H0 : Hp} {α0 α : List Addr} {st : S} {d : D} {v : V} {u : Value} {p : PyData} (I : Inv X pins σ0 H s) (rl : Rel X.K H0 α0 H α σ st) (h : Rx X.K H α σ d v) (r : RelV v u) (e : toPyS st d = some p)
    (n : ((!viaOwn d && noL d) || !p.hasDict) = true) : ∃ as, Reads s.heap u p as ∧ (p.hasDict = true → sysModules ∉ as) := by
  cases hd : p.hasDict with
  | false =>
    obtain ⟨as, q⟩ := rx_reads I rl h r e
    exact ⟨as, q, fun z => nomatch z⟩
  | true =>
    rw [hd] at n
    simp only [Bool.not_true, Bool.or_false, Bool.and_eq_true, Bool.not_eq_true'] at n
    cases d <;> simp only [viaOwn, Bool.false_eq_true, false_and, reduceCtorEq] at n
    all_goals
      obtain ⟨as, q, k⟩ := reads_ok I _ v u p h r e
      exact ⟨as, q, fun _ => k n.2⟩
theorem bi_repr (hgu : X.A.guards = some []) (hu : X.A.units + 65 < cLine) : BI X (.builtin "repr") gRepr := by
  intro pins s σ0 H xs us Q H0 σ α0 α st ds d I rl rx rv eg q
  unfold gRepr at eg
  split at eg
  · rename_i dd
    simp only [Option.map_eq_some_iff] at eg
    obtain ⟨z, eg, rfl⟩ := eg
    unfold shownD at eg
    simp only [Option.bind_eq_some_iff] at eg
    obtain ⟨p, ep, eg⟩ := eg
    split at eg
    · rename_i hc
      cases eg
      simp only [Bool.and_eq_true, decide_eq_true_eq] at hc
      obtain ⟨⟨⟨h1, h2⟩, h3⟩, h4⟩ := hc
      rw [← sizeLine_eq] at h4
      obtain ⟨v, rfl, rx1⟩ := rx.one
      obtain ⟨u, rfl, rv1⟩ := vals1 rv
      obtain ⟨as, rd, hs⟩ := hreads I rl rx1 rv1 ep h2
      have fin : ∀ t, EP X pins σ0 Q (.str p.shown t) { s with toks := s.toks + 1 } := fun t => ⟨.str p.shown, H, I.tok _, ⟨t, rfl⟩, q _ H α rl (Stay.refl _ _) ox_str⟩
      cases rd with
      | none => exact PySem.P.repr_of_none (fin _)
      | bool b => exact PySem.P.repr_of_bool (by simpa only [PyData.shown] using fin _)
      | int i t => exact PySem.P.repr_of_int (by simpa [PyData.showable] using h1) (by simpa only [PyData.shown] using fin _)
      | str y t => exact PySem.P.repr_of_str (by simpa only [PyData.shown] using fin _) (by simpa only [PyData.shown] using h4)
      | list a1 a2 a3 a4 =>
        refine repr_of_reads' (.list a1 a2 a3 a4) h1 hs hgu (by omega) (fun _ _ e => e) (fun h' tk u hk => ?_) h4
        exact ⟨.str _, H, I.kept hk, ⟨_, rfl⟩, q _ H α rl (Stay.refl _ _) ox_str⟩
      | tuple a1 a2 a3 a4 =>
        refine repr_of_reads' (.tuple a1 a2 a3 a4) h1 hs hgu (by omega) (fun _ _ e => e) (fun h' tk u hk => ?_) h4
        exact ⟨.str _, H, I.kept hk, ⟨_, rfl⟩, q _ H α rl (Stay.refl _ _) ox_str⟩
      | dict a1 a2 a3 a4 a5 =>
        refine repr_of_reads' (.dict a1 a2 a3 a4 a5) h1 hs hgu (by omega) (fun _ _ e => e) (fun h' tk u hk => ?_) h4
        exact ⟨.str _, H, I.kept hk, ⟨_, rfl⟩, q _ H α rl (Stay.refl _ _) ox_str⟩
    · cases eg
  · cases eg
/-- the type of a value -/
theorem kit_d {pins : List (Addr × Obj)} {s : Shared} {σ0 σ : Sg} {H H0 : Hp} {α0 α : List Addr} {st : S} {d : D} {v : V} {u : Value} {T : String} (I : Inv X pins σ0 H s) (rl : Rel X.K H0 α0 H α σ st) (h : Rx X.K H α σ d v) (r : RelV v u) (e : tyD st d = some T) :
    ∃ P : Heap → Prop, PySem.W.KitX X.K u (.type T) P ∧ P s.heap ∧ u ≠ .builtin "__main__.__loader__#opaque" := by
  have viaC : ∀ (a : Addr) (c : Cell), CellOk X.K H α a c → (match c with | .lst _ => some "list" | .dct _ => some "dict" | _ => none) = some T → ∃ P : Heap → Prop, PySem.W.KitX X.K (.ref a) (.type T) P ∧ P s.heap ∧ (Value.ref a) ≠ .builtin "__main__.__loader__#opaque" := by
    intro a c hc e
    cases c <;> simp only [Option.some.injEq, reduceCtorEq] at e
    · subst e
      obtain ⟨vs, ha, _⟩ := hc
      exact kit_of I (x := .ref a) rfl (.base (.lst ha))
    · subst e
      rcases hc with ⟨kv, ha, _⟩ | ⟨kv, _, ha, _⟩
      · exact kit_of I (x := .ref a) rfl (.base (.dK ha))
      · exact kit_of I (x := .ref a) rfl (.base (.dT ha))
  cases d <;> simp only [tyD, Option.some.injEq, reduceCtorEq] at e
  case non => subst e; rw [rx_non h] at r; exact kit_of I r (.base .non)
  case bl b => subst e; rw [rx_bl h] at r; exact kit_of I r (.base (.bl b))
  case int i => subst e; rw [rx_int h] at r; exact kit_of I r (.base (.int i))
  case str i => subst e; rw [rx_str h] at r; exact kit_of I r (.base (.str i))
  case ref n =>
    have h' : Rv X.K H α (.ref n) v := h
    simp only [Rv] at h'
    obtain ⟨a, ha, rfl⟩ := h'
    cases r
    simp only [cellAt] at e
    cases hc : st.μ[n]? with
    | none => rw [hc] at e; cases e
    | some c =>
      rw [hc] at e
      exact viaC a c (rl.cells.at_ n a c ha hc) (by cases c <;> simpa using e)
  case own n =>
    have h' : σ[n]? = some (some v) := h
    simp only [cellAt] at e
    cases hc : st.δ[n]? with
    | none => rw [hc] at e; simp at e
    | some c =>
      rw [hc] at e
      cases c with
      | no => simp at e
      | val _ => simp at e
      | own c =>
        obtain ⟨a, ha, _, _, q⟩ := rl.slots.own n c hc
        rw [h'] at ha
        cases ha
        cases r
        exact viaC a c q (by cases c <;> simpa using e)
  case tup xs =>
    subst e
    obtain ⟨a, vs, rfl, hs, _⟩ := asT_ok h
    rcases hs with (hs | ⟨o, hs⟩) | ⟨o, its, n, hk, hc, _⟩
    · exact kit_of I r (.base (.tup hs))
    · exact kit_of I r (.fTuple hs)
    · exact kit_of I r (.kTuple hk hc)
  case lst xs =>
    subst e
    have h' : Rv X.K H α (.lst xs) v := h
    simp only [Rv] at h'
    obtain ⟨a, vs, rfl, hs, _⟩ := h'
    rcases hs with ⟨o, hs⟩ | ⟨o, its, n, hk, hc, _⟩
    · exact kit_of I r (.base (.frz hs))
    · exact kit_of I r (.kList hk hc)
  case dct kvs =>
    subst e
    have h' : Rv X.K H α (.dct kvs) v := h
    simp only [Rv] at h'
    obtain ⟨a, o, rfl, ⟨kv, hf, _⟩ | ⟨kv, _, hf, _⟩⟩ := h'
    · exact kit_of I r (.fDict hf)
    · cases (show u = Value.ref a from r)
      obtain ⟨_, _, _, _, _, o2, es, ep, h1, h2, _⟩ := (show ObjOk X.prog X.w H s.heap a (.frz o (.dT kv)) from I.hok a _ hf)
      exact ⟨_, PySem.W.kitx_dict, ⟨o2, h1, h2.1⟩, fun z => nomatch z⟩
theorem bi_isi : BI X (.builtin "isinstance") gIsi := by
  intro pins s σ0 H xs us Q H0 σ α0 α st ds d I rl rx rv eg q
  unfold gIsi at eg
  split at eg
  · simp only [Option.bind_eq_some_iff, Option.map_eq_some_iff] at eg
    obtain ⟨T, et, b, eb, rfl⟩ := eg
    obtain ⟨v, w, rfl, rx1, rx2⟩ := rx.two
    obtain ⟨u1, u2, rfl, rv1, rv2⟩ := vals2 rv
    have h2 : Rv X.K H α (.ty _) w := rx2
    simp only [Rv] at h2
    subst h2
    cases (show u2 = Value.type _ from rv2)
    obtain ⟨P, Z, p, hx⟩ := kit_d I rl rx1 rv1 et
    exact PySem.W.kia_one Z I.kIn p (kit_ty eb) hx fun tk => ⟨.bl b, H, I.tok tk, rfl, q _ H α rl (Stay.refl _ _) ox_bl⟩
  · cases eg
theorem fits_of {ps : List PyData} (h : (ps.all fun p => match p with | .str x => decide (x.length ≤ 16777216) | .list l => decide (l.length ≤ 16777216) | .tuple l => decide (l.length ≤ 16777216) | _ => true) = true) : ∀ x ∈ ps, x.fits63 := by
  intro x hx
  have := List.all_eq_true.mp h x hx
  cases x <;> simp only [decide_eq_true_eq] at this <;> simp only [PyData.fits63] <;> first | trivial | omega
theorem bi_all (hc : X.calm = true) : BI X (.builtin "all") gAll := by
  intro pins s σ0 H xs us Q H0 σ α0 α st ds d I rl rx rv eg q
  unfold gAll at eg
  split at eg
  · simp only [Option.bind_eq_some_iff, Option.map_eq_some_iff] at eg
    obtain ⟨ys, e1, ps, e2, rfl⟩ := eg
    unfold truthP at e2
    simp only [Option.bind_eq_some_iff] at e2
    obtain ⟨ps', e2, e3⟩ := e2
    split at e3
    · rename_i hh
      cases e3
      rw [Bool.and_eq_true] at hh
      obtain ⟨v, rfl, rx1⟩ := rx.one
      obtain ⟨u, rfl, rv1⟩ := vals1 rv
      obtain ⟨a, vs, rfl, hs, rr⟩ := asL_ok rl rx1 e1
      cases (show u = Value.ref a from rv1)
      obtain ⟨its, rv2, hl, _⟩ := I.list hs
      obtain ⟨as, rd, _⟩ := readsL_ok I ys vs its ps rr rv2 e2
      exact PySem.W.all_list_data (I.ok.hd hc) hl.isList (by simpa using rd) hh.1 (fits_of hh.2) fun h' tk hk => ⟨.bl _, H, I.kept hk, rfl, q _ H α rl (Stay.refl _ _) ox_bl⟩
    · cases e3
  · cases eg
theorem bi_any (hc : X.calm = true) : BI X (.builtin "any") gAny := by
  intro pins s σ0 H xs us Q H0 σ α0 α st ds d I rl rx rv eg q
  unfold gAny at eg
  split at eg
  · simp only [Option.bind_eq_some_iff, Option.map_eq_some_iff] at eg
    obtain ⟨ys, e1, ps, e2, rfl⟩ := eg
    unfold truthP at e2
    simp only [Option.bind_eq_some_iff] at e2
    obtain ⟨ps', e2, e3⟩ := e2
    split at e3
    · rename_i hh
      cases e3
      rw [Bool.and_eq_true] at hh
      obtain ⟨v, rfl, rx1⟩ := rx.one
      obtain ⟨u, rfl, rv1⟩ := vals1 rv
      obtain ⟨a, vs, rfl, hs, rr⟩ := asL_ok rl rx1 e1
      cases (show u = Value.ref a from rv1)
      obtain ⟨its, rv2, hl, _⟩ := I.list hs
      obtain ⟨as, rd, _⟩ := readsL_ok I ys vs its ps rr rv2 e2
      exact PySem.W.any_list_data (I.ok.hd hc) hl.isList (by simpa using rd) hh.1 (fits_of hh.2) fun h' tk hk => ⟨.bl _, H, I.kept hk, rfl, q _ H α rl (Stay.refl _ _) ox_bl⟩
    · cases e3
  · cases eg
end
end DL

namespace DL
open PySem PySem.Spec PyProof.Rows L2
variable [DLX]
/-! ### 23. Walks over lists and tuples mixed: enumerate, zip -/
def SqB (b : Bool) (K : PySem.W.Frag) (H : Hp) (a : Addr) (xs : List V) : Prop := match b with | true => SqL K H a xs | false => SqT K H a xs
def ItB (b : Bool) (h : Heap) (it a : Addr) (i : Nat) : Prop := match b with | true => h.IsListIter it a i | false => h.IsTupleIter it a i
def IsB (b : Bool) (h : Heap) (a : Addr) (its : Array Value) : Prop := match b with | true => h.IsList a its | false => h.IsTuple a its
def oIt (b : Bool) (a : Addr) : Obj := match b with | true => { cls := .type "list_iterator", data := .fields #[.ref a, .int 0 0] } | false => { cls := .type "tuple_iterator", data := .fields #[.ref a, .int 0 0] }
theorem ItB.keep {b : Bool} {h h' : Heap} {it a : Addr} {i : Nat} (q : ItB b h it a i) (k : ∀ o, h.get? it = some o → h'.get? it = some o) : ItB b h' it a i := by
  cases b <;> obtain ⟨o, ho, r⟩ := q <;> exact ⟨o, k o ho, r⟩
theorem ItB.obj {b : Bool} {h : Heap} {it a : Addr} {i : Nat} (q : ItB b h it a i) : ∃ o, h.get? it = some o ∧ ∀ v, o.data ≠ .cell v := by
  cases b <;> obtain ⟨o, ho, hc, hd⟩ := q <;> exact ⟨o, ho, fun v z => by rw [hd] at z; cases z⟩
theorem ItB.new {b : Bool} {h : Heap} {it a : Addr} (q : h.get? it = some (oIt b a)) : ItB b h it a 0 := by
  cases b <;> exact ⟨_, q, rfl, rfl⟩
theorem IsB.keep {b : Bool} {h h' : Heap} {a : Addr} {its : Array Value} (q : IsB b h a its) (k : ∀ o, h.get? a = some o → h'.get? a = some o) : IsB b h' a its := by
  cases b <;> obtain ⟨o, ho, r⟩ := q <;> exact ⟨o, k o ho, r⟩
theorem IsB.lt {b : Bool} {h : Heap} {a : Addr} {its : Array Value} (q : IsB b h a its) : a < h.objs.size := by
  cases b <;> obtain ⟨o, ho, r⟩ := q <;> exact Heap.lt_size ho
theorem beginsB (b : Bool) (a : Addr) (its : Array Value) : Begins (.ref a) (oIt b a) fun h => IsB b h a its := by
  cases b
  · exact begins_tuple a its
  · exact begins_list a its
theorem nlt {a n : Nat} (k : Nat) (h : a < n) : a ≠ n + k := by omega
theorem nad {n : Nat} (i j : Nat) (h : i ≠ j) : n + i ≠ n + j := by omega
theorem lad {n c : Nat} (k : Nat) (h : c = n + k) : n ≤ c := by omega
theorem nle {a n : Nat} (h : a < n) (h' : n ≤ a) : False := by omega
theorem mem2 {a b c : Addr} (h : c ∈ [a, b]) : c = a ∨ c = b := by simpa using h
theorem drawsB {prog : Program} {w : World} {A : Around} (b : Bool) (hh : A.handled = none) (it a : Addr) (hne : a ≠ it) (its : Array Value) :
    Draws prog w A it [it, a] its.size (fun i v => its[i]? = some v) (fun i h => ItB b h it a i ∧ IsB b h a its) := by
  cases b
  · exact Draws.tuple hh it a hne its
  · exact Draws.list hh it a hne its
section
variable {X : Cx} {pins : List (Addr × Obj)} {σ : Sg} {H : Hp} {s : Shared}
theorem inv_seqB {b : Bool} {a : Addr} {xs : List V} (I : Inv X pins σ H s) (h : SqB b X.K H a xs) : ∃ its : List Value, Vals xs its ∧ IsB b s.heap a its.toArray := by
  cases b
  · obtain ⟨its, r, p, _⟩ := I.tuple h
    exact ⟨its, r, p⟩
  · obtain ⟨its, r, p, _⟩ := I.list h
    exact ⟨its, r, p.isList⟩
theorem SqB.inj {b : Bool} {a : Addr} {xs ys : List V} (I : Inv X pins σ H s) (h : SqB b X.K H a xs) (h' : SqB b X.K H a ys) : xs = ys := by
  cases b
  · exact I.tuple_inj h h'
  · exact I.list_inj h h'
end
/-- each item in a new pair with its place -/
def JEn (b : Bool) (K : PySem.W.Frag) (a : Addr) : It :=
  ⟨fun i H => ∃ (xs : List V) (x : V), SqB b K H a xs ∧ xs[i]? = some x, fun i H v H' => ∃ T x, v = .ref T ∧ H T = none ∧ H' = upd H T (.tup [.int (i : Nat), x]) ∧ ∀ xs, SqB b K H a xs → xs[i]? = some x, fun i H => ∃ xs : List V, SqB b K H a xs ∧ xs.length = i⟩
theorem turn_enB {P : Program} {w : World} {K : PySem.W.Frag} {elts : List Expr} {kk : Nat} {tpos : Pos} (b : Bool) (a e it : Addr) :
    Turn P w K (.Tuple elts kk tpos) (JEn b K a) [e, it] e (fun i h => (∃ old, IsEnum h e it (0 + ((i : Nat) : Int)) old) ∧ ItB b h it a i ∧ e ≠ it ∧ a ≠ e ∧ a ≠ it) where
  mem := by simp
  obj := fun i h st c hc => by
    obtain ⟨⟨old, he⟩, hi, _⟩ := st
    rcases mem2 hc with rfl | rfl
    · exact ⟨_, he, fun v q => nomatch q⟩
    · exact hi.obj
  keep := fun i h h' st k => by
    obtain ⟨⟨old, he⟩, hi, hne⟩ := st
    exact ⟨⟨old, k e (by simp) _ he⟩, hi.keep fun o q => k it (by simp) o q, hne⟩
  item := by
    intro X hP hw hK hc i pins s σ H E I hf st hg
    subst hP hw hK
    obtain ⟨⟨old, he⟩, hit, hne, nae, nai⟩ := st
    obtain ⟨xs, x, hq, hx⟩ := hg
    obtain ⟨its, rv, p⟩ := inv_seqB I hq
    obtain ⟨u, hu, ru⟩ := rv.get hx
    have hi : i < its.toArray.size := by
      have := (List.getElem?_eq_some_iff.mp hu).1
      simpa using this
    refine (GoesN.enumFrom (elts := elts) (x1 := kk) (pos := tpos) 0 (drawsB (prog := X.prog) (w := X.w) (A := X.A.in1) b (I.ok.hd hc) it a nai its.toArray) e hne (by simp [hne]; exact fun z => nae z.symm) (by simp)).goes i s _ E hi ⟨⟨old, he⟩, hit, p⟩ ?_
    rintro v h' tk ⟨T, t, y, rfl, hT, hy, hTup⟩ ⟨he', hit', p'⟩ hk htk
    have ey : y = u := by
      rw [List.getElem?_toArray, hu] at hy
      exact (Option.some.inj hy).symm
    subst ey
    obtain ⟨oT, h1, h2, n, h3⟩ := hTup
    have new : ObjOk X.prog X.w (upd H T (.tup [.int (i : Nat), x])) h' T (.tup [.int (i : Nat), x]) :=
      ⟨by show 2 ≤ sizeLine; decide, [.int (0 + (i : Int)) t, y], .cons ⟨t, by rw [Int.zero_add]⟩ (.cons ru .nil), ⟨oT, h1, h2, n, h3⟩⟩
    have hn : H T = none := I.hok.fresh hT
    have I1 : Inv X pins σ (upd H T (.tup [.int (i : Nat), x])) { s with heap := h', toks := tk } := I.turnedNew (ch := [e, it]) hk hf hT new
    refine ⟨.ref T, _, I1, rfl, ⟨T, x, rfl, hn, rfl, fun ys hys => by rw [SqB.inj I hys hq]; exact hx⟩, ⟨he', hit', hne, nae, nai⟩, fun c hc => ?_⟩
    rw [upd_ne]
    · exact (hf c hc).1
    · intro z
      subst z
      have : c < s.heap.objs.size := by
        rcases mem2 hc with rfl | rfl
        · exact Heap.lt_size he
        · exact Heap.lt_size hit.obj.choose_spec.1
      exact nle this hT
  done := by
    intro X hP hw hK hc i pins s σ H E I hf st hg
    subst hP hw hK
    obtain ⟨⟨old, he⟩, hit, hne, nae, nai⟩ := st
    obtain ⟨xs, hq, hx⟩ := hg
    obtain ⟨its, rv, p⟩ := inv_seqB I hq
    have hi : i = its.toArray.size := by
      have := rv.length
      simp
      omega
    subst hi
    exact (GoesN.enumFrom (elts := elts) (x1 := kk) (pos := tpos) 0 (drawsB (prog := X.prog) (w := X.w) (A := X.A.in1) b (I.ok.hd hc) it a nai its.toArray) e hne (by simp [hne]; exact fun z => nae z.symm) (by simp)).stops s (fun s1 => Inv X pins σ H s1) E ⟨⟨old, he⟩, hit, p⟩
      fun h' tk hk htk => I.turnedL (ch := [e, it]) hk hf
  self := fun A i s Q E st h => let ⟨⟨_, he⟩, _⟩ := st; wpAny_pyIter_enum he h
/-- two sources, the items in new pairs -/
def JZp (b c : Bool) (K : PySem.W.Frag) (a d : Addr) : It :=
  ⟨fun i H => ∃ (xs ys : List V) (x y : V), SqB b K H a xs ∧ SqB c K H d ys ∧ xs[i]? = some x ∧ ys[i]? = some y,
    fun i H v H' => ∃ T x y, v = .ref T ∧ H T = none ∧ H' = upd H T (.tup [x, y]) ∧ (∀ xs, SqB b K H a xs → xs[i]? = some x) ∧ ∀ ys, SqB c K H d ys → ys[i]? = some y,
    fun i H => ∃ xs ys : List V, SqB b K H a xs ∧ SqB c K H d ys ∧ min xs.length ys.length = i⟩
theorem turn_zpB {P : Program} {w : World} {K : PySem.W.Frag} {elts : List Expr} {kk : Nat} {tpos : Pos} (b c : Bool) {a d z TI TO i1 i2 : Addr} (D : ZipSep2 z TI TO i1 i2 [i1, a] [i2, d]) (na : a ≠ i1) (nd : d ≠ i2) :
    Turn P w K (.Tuple elts kk tpos) (JZp b c K a d) [z, TI, TO, i1, i2] z (fun i h => IsZip h z TI TO .none ∧ IsTupOf2 h TI (.ref i1) (.ref i2) ∧ (∃ x y, IsTupOf2 h TO x y) ∧ ItB b h i1 a i ∧ ItB c h i2 d i) where
  mem := by simp
  obj := fun i h st q hq => by
    obtain ⟨hz, hTI, ⟨x, y, hTO⟩, h1, h2⟩ := st
    simp only [List.mem_cons, List.not_mem_nil, or_false] at hq
    rcases hq with rfl | rfl | rfl | rfl | rfl
    · exact ⟨_, hz, fun v q => nomatch q⟩
    · exact ⟨_, hTI, fun v q => nomatch q⟩
    · exact ⟨_, hTO, fun v q => nomatch q⟩
    · exact h1.obj
    · exact h2.obj
  keep := fun i h h' st k => by
    obtain ⟨hz, hTI, ⟨x, y, hTO⟩, h1, h2⟩ := st
    exact ⟨k z (by simp) _ hz, k TI (by simp) _ hTI, ⟨x, y, k TO (by simp) _ hTO⟩, h1.keep fun o q => k i1 (by simp) o q, h2.keep fun o q => k i2 (by simp) o q⟩
  item := by
    intro X hP hw hK hc i pins s σ H E I hf st hg
    subst hP hw hK
    obtain ⟨hz, hTI, ⟨x0, y0, hTO⟩, h1, h2⟩ := st
    obtain ⟨xs, ys, x, y, hqx, hqy, hx, hy⟩ := hg
    obtain ⟨its, rv, p⟩ := inv_seqB I hqx
    obtain ⟨its2, rv2, p2⟩ := inv_seqB I hqy
    obtain ⟨u, hu, ru⟩ := rv.get hx
    obtain ⟨u2, hu2, ru2⟩ := rv2.get hy
    have hi : i < min its.toArray.size its2.toArray.size := by
      have h1 := (List.getElem?_eq_some_iff.mp hu).1
      have h2 := (List.getElem?_eq_some_iff.mp hu2).1
      simp
      omega
    refine (GoesN.zip2 (elts := elts) (x1 := kk) (pos := tpos) D (drawsB (prog := X.prog) (w := X.w) (A := X.A.in1) b (I.ok.hd hc) i1 a na its.toArray) (drawsB (prog := X.prog) (w := X.w) (A := X.A.in1) c (I.ok.hd hc) i2 d nd its2.toArray)).goes i s _ E hi ⟨hz, hTI, ⟨x0, y0, hTO⟩, ⟨h1, p⟩, h2, p2⟩ ?_
    rintro v h' tk ⟨T, y1, y2, rfl, hT, hy1, hy2, hTup⟩ ⟨hz', hTI', hTO', ⟨h1', _⟩, h2', _⟩ hk htk
    have e1 : y1 = u := by
      rw [List.getElem?_toArray, hu] at hy1
      exact (Option.some.inj hy1).symm
    have e2 : y2 = u2 := by
      rw [List.getElem?_toArray, hu2] at hy2
      exact (Option.some.inj hy2).symm
    subst e1 e2
    obtain ⟨oT, k1, k2, n, k3⟩ := hTup
    have new : ObjOk X.prog X.w (upd H T (.tup [x, y])) h' T (.tup [x, y]) := ⟨by show 2 ≤ sizeLine; decide, [y1, y2], .cons ru (.cons ru2 .nil), ⟨oT, k1, k2, n, k3⟩⟩
    have hn : H T = none := I.hok.fresh hT
    have I1 : Inv X pins σ (upd H T (.tup [x, y])) { s with heap := h', toks := tk } := I.turnedNew (ch := [z, TO, i1, i2]) hk (fun q hq => hf q (by simp only [List.mem_cons, List.not_mem_nil, or_false] at hq ⊢; rcases hq with z | z | z | z <;> simp [z])) hT new
    refine ⟨.ref T, _, I1, rfl, ⟨T, x, y, rfl, hn, rfl, fun ys hys => by rw [SqB.inj I hys hqx]; exact hx, fun ys hys => by rw [SqB.inj I hys hqy]; exact hy⟩, ⟨hz', hTI', hTO', h1', h2'⟩, fun q hq => ?_⟩
    rw [upd_ne]
    · exact (hf q hq).1
    · intro e
      subst e
      have : q < s.heap.objs.size := by
        simp only [List.mem_cons, List.not_mem_nil, or_false] at hq
        rcases hq with rfl | rfl | rfl | rfl | rfl
        · exact Heap.lt_size hz
        · exact Heap.lt_size hTI
        · exact Heap.lt_size hTO
        · exact Heap.lt_size h1.obj.choose_spec.1
        · exact Heap.lt_size h2.obj.choose_spec.1
      exact nle this hT
  done := by
    intro X hP hw hK hc i pins s σ H E I hf st hg
    subst hP hw hK
    obtain ⟨hz, hTI, ⟨x0, y0, hTO⟩, h1, h2⟩ := st
    obtain ⟨xs, ys, hqx, hqy, hi⟩ := hg
    obtain ⟨its, rv, p⟩ := inv_seqB I hqx
    obtain ⟨its2, rv2, p2⟩ := inv_seqB I hqy
    have hi : i = min its.toArray.size its2.toArray.size := by
      have h1 := rv.length
      have h2 := rv2.length
      simp
      omega
    subst hi
    exact (GoesN.zip2 (elts := elts) (x1 := kk) (pos := tpos) D (drawsB (prog := X.prog) (w := X.w) (A := X.A.in1) b (I.ok.hd hc) i1 a na its.toArray) (drawsB (prog := X.prog) (w := X.w) (A := X.A.in1) c (I.ok.hd hc) i2 d nd its2.toArray)).stops s (fun s1 => Inv X pins σ H s1) E ⟨hz, hTI, ⟨x0, y0, hTO⟩, ⟨h1, p⟩, h2, p2⟩
      fun h' tk hk htk => I.turnedL (ch := [z, TO, i1, i2]) hk (fun q hq => hf q (by simp only [List.mem_cons, List.not_mem_nil, or_false] at hq ⊢; rcases hq with z | z | z | z <;> simp [z]))
  self := fun A i s Q E st h => wpAny_pyIter_zip st.1 h
/-! the iterators -/
theorem meets_enum1 {v : Value} {o : Obj} {P : Heap → Prop} (B : Begins v o P) :
    Meets (Builtin.«enumerate.__new__» ⟨[.type "enumerate", v], []⟩) (fun _ R s => P s.heap ∧
      R (.ok (.ret (.ref (s.heap.push o).objs.size))) { s with heap := (s.heap.push o).push { cls := .type "enumerate", data := .fields #[.none, .bool false, .ref s.heap.objs.size, rawInt 0, .none, .none] } }) :=
  .of_wp fun prog w A R s h => by
    obtain ⟨hp, g, d, tk, os⟩ := s
    obtain ⟨h1, h⟩ := h
    have hsub := sub_enumerate
    have q1 : ∀ {A' : Around} {E : Value → Shared → Prop} {Q : Value → Shared → Prop}, Q (.ref hp.objs.size) ⟨hp.push o, g, d, tk, os⟩ → wpAny (model prog w) A' (pyIter v) Q E ⟨hp, g, d, tk, os⟩ :=
      fun q => B.iter prog w _ _ ⟨hp, g, d, tk, os⟩ _ h1 q
    wp_walk using q1
    refine wpAny_stack_any fun st => wpAny_pure ?_
    split
    · rename_i c _ _ _ _ _
      cases (c == Value.type "enumerate")
      · wp_walk using q1
        exact ⟨_, rfl, h⟩
      · wp_walk using q1
        exact ⟨_, rfl, h⟩
    · wp_walk using q1
      exact ⟨_, rfl, h⟩
theorem enum1_begins {prog : Program} {w : World} {A : Around} {E : Value → Shared → Prop} {s : Shared} {v : Value} {o : Obj} {P : Heap → Prop} {Q : Value → Shared → Prop} (B : Begins v o P) (h1 : P s.heap)
    (h : ∀ h', IsEnum h' (s.heap.objs.size + 1) s.heap.objs.size 0 .none → h'.get? s.heap.objs.size = some o → h'.objs.size = s.heap.objs.size + 2 →
      (∀ b o, s.heap.get? b = some o → h'.get? b = some o) → Q (.ref (s.heap.objs.size + 1)) { s with heap := h' }) :
    wpAny (model prog w) A (call (.type "enumerate") [v]) Q E s := by
  refine callType_new F.called_enumerate (by decide) (F.typeCall_enumerate_1 _) (F.newCall_enumerate_1 _) (fun obj => F.args_object_init_2 obj _) F.entry_enumerate_new (meets_enum1 B) ⟨h1, ?_⟩
  have hz : (s.heap.push o).objs.size = s.heap.objs.size + 1 := Heap.size_push ..
  show _ ∧ _
  rw [hz]
  have he : IsEnum ((s.heap.push o).push { cls := .type "enumerate", data := .fields #[.none, .bool false, .ref s.heap.objs.size, rawInt 0, .none, .none] }) (s.heap.objs.size + 1) s.heap.objs.size 0 .none := by
    have := Heap.get?_push_size (s.heap.push o) (o := { cls := .type "enumerate", data := .fields #[.none, .bool false, .ref s.heap.objs.size, rawInt 0, .none, .none] }) rfl
    rw [hz] at this
    exact this
  exact ⟨⟨_, he, rfl⟩, h _ he (Heap.get?_push_of_some _ (Heap.get?_push_size _ B.free)) (by rw [Heap.size_push, hz]) fun b o x => Heap.get?_push_of_some _ (Heap.get?_push_of_some _ x)⟩
def iEnB (K : PySem.W.Frag) (ta : TA) : TI := fun σ H R => ta σ H fun vs H1 => ∃ (b : Bool) (a : Addr) (xs : List V), vs = [.ref a] ∧ SqB b K H1 a xs ∧ R (JEn b K a) H1
theorem pi_enB {X : Cx} {e : Expr} {ta : TA} {p pos tpos : Pos} {elts : List Expr} {kk : Nat} (hg : Gl X "enumerate") (hm : X.mg "enumerate" = none) (ha : PA X [e] ta) (hs : starEach [e] X.env = [(false, eval e X.env)] := by rfl) :
    PI X (.Tuple elts kk tpos) (.Call (.Name "enumerate" p) [e] [] pos) (iEnB X.K ta) := by
  refine ⟨fun pins s σ H R I h => ?_⟩
  refine Call_ (ld_blt I hg hm boot_enumerate (PyProof.Rows.callWith_type1 (thn (ha.run pos pins s σ H _ I h) fun us s1 ⟨vs, H1, I1, r1, q1⟩ => ?_) hs rfl))
  obtain ⟨b, a, xs, rfl, hq, q⟩ := q1
  obtain ⟨u, rfl, ru⟩ := vals1 r1
  cases ru
  obtain ⟨its, rv, p⟩ := inv_seqB I1 hq
  have hlt := p.lt
  refine enum1_begins (beginsB b a its.toArray) p fun h' he hit hz hk => wpAny_pyIter_enum he ?_
  have I2 : Inv X pins σ H1 { s1 with heap := h' } := I1.kept (t' := s1.toks) hk
  refine ⟨s1.heap.objs.size + 1, [s1.heap.objs.size + 1, s1.heap.objs.size], _, _, H1, rfl, I2, turn_enB b a (s1.heap.objs.size + 1) s1.heap.objs.size, ⟨⟨.none, he⟩, .new hit, Nat.succ_ne_self _, nlt 1 hlt, nlt 0 hlt⟩, fun c hc => ?_, q⟩
  have hle : s1.heap.objs.size ≤ c := by
    rcases mem2 hc with z | z
    · exact lad 1 z
    · exact lad 0 z
  exact I1.fpOk hle (I1.hok.fresh hle)
def iZpB (K : PySem.W.Frag) (ta : TA) : TI := fun σ H R => ta σ H fun vs H1 => ∃ (b c : Bool) (a d : Addr) (xs ys : List V), vs = [.ref a, .ref d] ∧ SqB b K H1 a xs ∧ SqB c K H1 d ys ∧ R (JZp b c K a d) H1
theorem pi_zpB {X : Cx} {e e2 : Expr} {ta : TA} {p pos tpos : Pos} {elts : List Expr} {kk : Nat} (hg : Gl X "zip") (hm : X.mg "zip" = none) (ha : PA X [e, e2] ta)
    (hs : starEach [e, e2] X.env = (false, eval e X.env) :: starEach [e2] X.env := by rfl) (hpl : (backTo pos (starEach [e2] X.env)).any (·.1) = false := by rfl) :
    PI X (.Tuple elts kk tpos) (.Call (.Name "zip" p) [e, e2] [] pos) (iZpB X.K ta) := by
  refine ⟨fun pins s σ H R I h => ?_⟩
  refine Call_ (ld_blt I hg hm PyProof.Rows.boot_zip (PyProof.Rows.callWith_type1 (thn (ha.run pos pins s σ H _ I h) fun us s1 ⟨vs, H1, I1, r1, q1⟩ => ?_) hs hpl))
  obtain ⟨b, c, a, d, xs, ys, rfl, hq, hq2, q⟩ := q1
  obtain ⟨u, u2, rfl, ru, ru2⟩ := vals2 r1
  cases ru
  cases ru2
  obtain ⟨its, rv, p⟩ := inv_seqB I1 hq
  obtain ⟨its2, rv2, p2⟩ := inv_seqB I1 hq2
  have hlt := p.lt
  have hlt2 := p2.lt
  refine zip_begins2 (beginsB b a its.toArray) (beginsB c d its2.toArray) p p2 fun h' hz hTI hTO hi1 hi2 hsz hk => wpAny_pyIter_zip hz ?_
  have I2 : Inv X pins σ H1 { s1 with heap := h' } := I1.kept (t' := s1.toks) hk
  refine ⟨s1.heap.objs.size + 4, [s1.heap.objs.size + 4, s1.heap.objs.size + 2, s1.heap.objs.size + 3, s1.heap.objs.size, s1.heap.objs.size + 1], _, _, H1, rfl, I2, turn_zpB b c (a := a) (d := d) ⟨nad 2 4 (by decide), nad 3 4 (by decide), nad 2 3 (by decide), nad 2 0 (by decide), by simp, ?_, ?_, nad 2 1 (by decide), by simp, ?_, ?_, ?_, ?_⟩ (nlt 0 hlt) (nlt 1 hlt2), ⟨hz, hTI, ⟨_, _, hTO⟩, .new hi1, .new hi2⟩, fun q hq => ?_, q⟩
  all_goals try (intro z; rcases mem2 z with z | z)
  · exact nad 4 0 (by decide) z
  · exact nlt 4 hlt z.symm
  · exact nad 3 0 (by decide) z
  · exact nlt 3 hlt z.symm
  · exact nad 4 1 (by decide) z
  · exact nlt 4 hlt2 z.symm
  · exact nad 3 1 (by decide) z
  · exact nlt 3 hlt2 z.symm
  · exact nad 0 1 (by decide) z
  · exact nlt 0 hlt2 z.symm
  · exact nad 1 0 (by decide) z
  · exact nlt 1 hlt z.symm
  have hle : s1.heap.objs.size ≤ q := by
    simp only [List.mem_cons, List.not_mem_nil, or_false] at hq
    rcases hq with z | z | z | z | z
    · exact lad 4 z
    · exact lad 2 z
    · exact lad 3 z
    · exact lad 0 z
    · exact lad 1 z
  exact I1.fpOk hle (I1.hok.fresh hle)
end DL

namespace DL
open PySem PySem.Spec PyProof.Rows L2
variable [DLX]
/-! ### 24. Slots taken away, locked, put back -/
section
variable {K : PySem.W.Frag} {H0 H H' : Hp} {α0 α α' : List Addr} {σ σ' : Sg} {s s' : S}
/-- slots that are told less of -/
theorem Rel.less (r : Rel K H0 α0 H α σ s) {δ : List Slot} (hl : δ.length = s.δ.length) (h : ∀ (i : Nat) (sl : Slot), δ[i]? = some sl → sl = .no ∨ (s.δ[i]? = some sl ∧ σ'[i]? = σ[i]?)) (hs : σ'.length = σ.length) : Rel K H0 α0 H α σ' { s with δ := δ } := by
  refine ⟨r.cells, ⟨by rw [hs, r.slots.len, hl], fun i d e => ?_, fun i c e => ?_, fun i j c c' a e1 e2 e3 e4 => ?_⟩, r.ot, r.nw, r.st⟩
  · rcases h i _ e with z | ⟨z, w⟩
    · cases z
    · rw [w]; exact r.slots.val i d z
  · rcases h i _ e with z | ⟨z, w⟩
    · cases z
    · rw [w]; exact r.slots.own i c z
  · rcases h i _ e1 with z | ⟨z1, w1⟩
    · cases z
    · rcases h j _ e2 with z | ⟨z2, w2⟩
      · cases z
      · rw [w1] at e3
        rw [w2] at e4
        exact r.slots.inj i j c c' a z1 z2 e3 e4
theorem Rel.setNo (r : Rel K H0 α0 H α σ s) (i : Nat) : Rel K H0 α0 H α σ { s with δ := s.δ.set i .no } :=
  r.less (by simp) (fun j sl e => by
    rcases get_set e with ⟨_, e, _⟩ | ⟨_, e⟩
    · exact .inl e
    · exact .inr ⟨e, rfl⟩) rfl
/-- a fresh thing is locked -/
theorem Rel.frz {c : Cell} {a : Addr} (r : Rel K H0 α0 H α σ s) (h : RF K H0 H α σ s a c) (nd : ∀ h : c = .dead, False) (nt : ∀ n, c ≠ .tab n) :
    ∃ u, H a = some u ∧ Mut (some u) ∧ ∀ o, Rel K H0 α0 (upd H a (.frz o u)) α σ s ∧ Stay H α (upd H a (.frz o u)) α ∧ Rv K (upd H a (.frz o u)) α c.toD (.ref a) := by
  obtain ⟨hc, na, n0, no⟩ := h
  have stp : ∀ u o, H a = some u → ¬ Fixed u → Stay H α (upd H a (.frz o u)) α ∧ Rel K H0 α0 (upd H a (.frz o u)) α σ s := fun u o hu nf => by
    have t : Stay H α (upd H a (.frz o u)) α := ⟨fun b w hb fb => by
      by_cases e : b = a
      · subst e; rw [hu] at hb; cases hb; exact absurd fb nf
      · rw [upd_ne e]; exact hb, List.prefix_rfl, fun b hb => by
      by_cases e : b = a
      · subst e; rw [upd_same] at hb; cases hb
      · rw [upd_ne e] at hb; exact hb⟩
    refine ⟨t, r.step t (fun b w hb _ hw => ?_) (fun b w hb _ hb1 => ?_)⟩
    · have e : b ≠ a := fun z => by
        subst z
        rcases hw with z | ⟨i, c', z1, z2⟩
        · exact na z
        · exact no i c' z1 z2
      rw [upd_ne e]; exact hb
    · have e : b ≠ a := fun z => by subst z; rw [n0] at hb; cases hb
      rw [upd_ne e]; exact hb1
  cases c with
  | dead => exact (nd rfl).elim
  | tab n => exact absurd rfl (nt n)
  | lst xs =>
    obtain ⟨vs, hv, rr⟩ := hc
    refine ⟨.lst vs, hv, trivial, fun o => ?_⟩
    obtain ⟨t, rl⟩ := stp _ o hv (fun z => z)
    refine ⟨rl, t, ?_⟩
    simp only [Cell.toD, Rv]
    exact ⟨a, vs, rfl, .inl ⟨o, upd_same⟩, Rvs.stay t _ _ rr⟩
  | dct kvs =>
    rcases hc with ⟨kv, hv, rr⟩ | ⟨kv, nn, hv, rr⟩
    · refine ⟨.dK kv, hv, trivial, fun o => ?_⟩
      obtain ⟨t, rl⟩ := stp _ o hv (fun z => z)
      refine ⟨rl, t, ?_⟩
      simp only [Cell.toD, Rv]
      exact ⟨a, o, rfl, .inl ⟨kv, upd_same, Rkv.stay t _ _ rr⟩⟩
    · refine ⟨.dT kv, hv, trivial, fun o => ?_⟩
      obtain ⟨t, rl⟩ := stp _ o hv (fun z => z)
      refine ⟨rl, t, ?_⟩
      simp only [Cell.toD, Rv]
      exact ⟨a, o, rfl, .inr ⟨kv, nn, upd_same, RkT.stay t _ _ rr⟩⟩
  | ins C fs =>
    obtain ⟨dx, vs, hv, rr⟩ := hc
    refine ⟨.ins C dx vs, hv, trivial, fun o => ?_⟩
    obtain ⟨t, rl⟩ := stp _ o hv (fun z => z)
    refine ⟨rl, t, ?_⟩
    simp only [Cell.toD, Rv]
    exact ⟨a, o, dx, vs, rfl, upd_same, Rfs.stay t _ _ rr⟩
/-- the thing of a slot, given up by it -/
theorem Rel.giveUp {i : Nat} {c : Cell} (r : Rel K H0 α0 H α σ s) (e : s.δ[i]? = some (.own c)) : ∃ a, σ[i]? = some (some (.ref a)) ∧ Rel K H0 α0 H α σ { s with δ := s.δ.set i .no } ∧ RF K H0 H α σ { s with δ := s.δ.set i .no } a c := by
  obtain ⟨a, h1, h2, h3, h4⟩ := r.slots.own i c e
  refine ⟨a, h1, r.setNo i, h4, h2, h3, fun j c' e2 e3 => ?_⟩
  rcases get_set e2 with ⟨_, z, _⟩ | ⟨ne, z⟩
  · cases z
  · exact ne (r.slots.inj i j c c' a e z h1 e3)
end
/-- slot i's thing is locked for good -/
def frzAt (i : Nat) (s : S) : Option S := match s.δ[i]? with
  | some (.own .dead) => none
  | some (.own (.tab _)) => none
  | some (.own c) => some { s with δ := s.δ.set i (.val c.toD) }
  | _ => some s
def dFrzS (i : Nat) (f : FS) : FS := fun s => match f s with
  | .nx s' => (match frzAt i s' with | some s2 => .nx s2 | none => .bad)
  | r => r
theorem psGh {X : Cx} {st : Stmt} {t : TS} (h : PS X st t) : PS X st (fun D σ H => t { D with nx := fun σ' H' => Gh H' (D.nx σ') } σ H) :=
  ⟨fun pins s σ H D I q => thn (h.run pins s σ H _ I q) fun fl s1 z => by
    cases fl with
    | next =>
      obtain ⟨σ', H', I', g⟩ := z
      obtain ⟨H2, J, q⟩ := DL.Inv.gh I' g
      exact ⟨σ', H2, J, q⟩
    | ret u => exact z
    | brk => exact z
    | cont => exact z⟩
section
variable {X : Cx}
theorem frzAt_ok {K : PySem.W.Frag} {H0 H : Hp} {α0 α : List Addr} {σ : Sg} {s s2 : S} {i : Nat} {Q : Sg → Hp → Prop} (r : Rel K H0 α0 H α σ s) (e : frzAt i s = some s2) (q : ∀ H', Rel K H0 α0 H' α σ s2 → Stay H α H' α → Q σ H') : Gh H (Q σ) := by
  unfold frzAt at e
  split at e
  · cases e
  · cases e
  · rename_i c nd nt hc
    cases e
    obtain ⟨a, h1, h2, h3⟩ := r.giveUp hc
    obtain ⟨u, hu, mu, k⟩ := h2.frz h3 nd nt
    refine .inr ⟨a, u, hu, mu, fun o => ?_⟩
    obtain ⟨r2, t, rv⟩ := k o
    have r3 := r2.setV (i := i) rv
    have es : σ.set i (some (.ref a)) = σ := by
      apply List.ext_getElem?
      intro j
      by_cases hj : i = j
      · subst hj
        rw [h1, List.getElem?_set_self (List.getElem?_eq_some_iff.mp h1).1]
      · rw [List.getElem?_set_ne hj]
    rw [es] at r3
    simp only [List.set_set] at r3
    exact q _ r3 t
  · cases e
    exact .inl (q H r (Stay.refl _ _))
theorem sd_frz (i : Nat) {st : Stmt} {f : FS} (h : PSD X st f) : PSD X st (dFrzS i f) := by
  refine ⟨fun W tk => ?_⟩
  obtain ⟨t, p, q⟩ := h.run W tk
  refine ⟨_, psGh p, fun H0 α0 σ H α s D r k => q H0 α0 σ H α s _ r ?_⟩
  unfold dFrzS at k
  cases ef : f s <;> rw [ef] at k
  case nx s' =>
    simp only at k
    intro σ' H' α' r' t'
    cases e : frzAt i s' with
    | none => rw [e] at k; exact k.elim
    | some s2 =>
      rw [e] at k
      exact frzAt_ok r' e fun H2 r2 t2 => k σ' H2 α' r2 (t'.trans t2)
  all_goals exact k
/-! what is never reached -/
theorem sd_bad {st : Stmt} : PSD X st (fun _ => .bad) := ⟨fun W _ => ⟨fun _ _ _ => False, ⟨fun _ _ _ _ _ _ h => h.elim⟩, fun _ _ _ _ _ _ _ _ q => q.elim⟩⟩
theorem pd_bad {e : Expr} : PED X e (fun _ => .bad) := ⟨fun W _ => ⟨fun _ _ _ => False, ⟨fun _ _ _ _ _ _ h => h.elim⟩, fun _ _ _ _ _ _ _ _ q => q.elim⟩⟩
end
/-! ### 25. Walks over enumerate, zip -/
def enD : Nat → List D → List D
  | _, [] => []
  | k, d :: ds => .tup [.int k, d] :: enD (k + 1) ds
def zpD : List D → List D → List D
  | a :: as, b :: bs => .tup [a, b] :: zpD as bs
  | _, _ => []
theorem enD_at : ∀ (ds : List D) (k i : Nat), (enD k ds)[i]? = ds[i]?.map fun d => .tup [.int ((k + i : Nat) : Int), d]
  | [], k, i => by simp [enD]
  | d :: ds, k, 0 => by simp [enD]
  | d :: ds, k, i + 1 => by
    simp only [enD, List.getElem?_cons_succ]
    rw [enD_at ds (k + 1) i, show k + 1 + i = k + (i + 1) from by omega]
theorem enD_len : ∀ (ds : List D) (k : Nat), (enD k ds).length = ds.length
  | [], k => rfl
  | d :: ds, k => by simp [enD, enD_len ds (k + 1)]
theorem zpD_at : ∀ (as bs : List D) (i : Nat) (d : D), (zpD as bs)[i]? = some d → ∃ a b, as[i]? = some a ∧ bs[i]? = some b ∧ d = .tup [a, b]
  | [], _, i, d, h => by simp [zpD] at h
  | _ :: _, [], i, d, h => by simp [zpD] at h
  | a :: as, b :: bs, 0, d, h => by simp [zpD] at h; exact ⟨a, b, rfl, rfl, h.symm⟩
  | a :: as, b :: bs, i + 1, d, h => by
    simp only [zpD, List.getElem?_cons_succ] at h
    simpa using zpD_at as bs i d h
theorem zpD_len : ∀ (as bs : List D), (zpD as bs).length = min as.length bs.length
  | [], bs => by simp [zpD]
  | _ :: _, [] => by simp [zpD]
  | a :: as, b :: bs => by
    simp only [zpD, List.length_cons, zpD_len as bs]
    omega
section
variable {K : PySem.W.Frag} {H H' : Hp} {α α' : List Addr} {σ : Sg}
theorem SqB.stay {b : Bool} {a : Addr} {vs : List V} (t : Stay H α H' α') (h : match b with | true => SqF K H a vs | false => SqT K H a vs) : SqB b K H' a vs := by
  cases b
  · exact t.sqT h
  · exact (t.sqF h).sq
theorem fixSeq_ok {d : D} {v : V} {xs : List D} (h : Rx K H α σ d v) (e : fixSeq d = some xs) : ∃ (b : Bool) (a : Addr) (vs : List V), v = .ref a ∧ (match b with | true => SqF K H a vs | false => SqT K H a vs) ∧ Rvs K H α xs vs := by
  cases d <;> simp only [fixSeq, Option.some.injEq, reduceCtorEq] at e
  case tup ys =>
    subst e
    obtain ⟨a, vs, h1, h2, h3⟩ := asT_ok h
    exact ⟨false, a, vs, h1, h2, h3⟩
  case lst ys =>
    subst e
    have h' : Rv K H α (.lst ys) v := h
    simp only [Rv] at h'
    obtain ⟨a, vs, h1, h2, h3⟩ := h'
    exact ⟨true, a, vs, h1, h2, h3⟩
theorem walk_en {b : Bool} {a : Addr} {vs : List V} {xs : List D} (h : match b with | true => SqF K H a vs | false => SqT K H a vs) (rr : Rvs K H α xs vs) : WalkD K (JEn b K a) (enD 0 xs) H α := by
  refine ⟨fun H' α' t => ⟨vs, SqB.stay t h, by rw [enD_len, rr.length]⟩, fun H' α' i d t e => ?_, fun H0 α0 H' α' σ s i d x H2 t r e y => ?_⟩
  · rw [enD_at] at e
    simp only [Option.map_eq_some_iff] at e
    obtain ⟨d', e, rfl⟩ := e
    obtain ⟨v, ev, _⟩ := rr.at_ e
    exact ⟨vs, v, SqB.stay t h, ev⟩
  · rw [enD_at] at e
    simp only [Option.map_eq_some_iff] at e
    obtain ⟨d', e, rfl⟩ := e
    obtain ⟨T, w, rfl, hT, rfl, y⟩ := y
    obtain ⟨v, ev, rv⟩ := rr.at_ e
    have := y vs (SqB.stay t h)
    rw [ev] at this
    cases this
    have t2 : Stay H' α' (upd H' T (.tup [.int (i : Nat), w])) α' := Stay.upd_new hT
    refine ⟨r.new hT, t2, ?_⟩
    simp only [Rv]
    refine ⟨T, _, rfl, .inl (.inl upd_same), .cons ?_ (.single (Rv.stay (t.trans t2) _ _ rv))⟩
    simp only [Rv, Nat.zero_add]
theorem walk_zp {b c : Bool} {a d : Addr} {vs ws : List V} {xs ys : List D} (h : match b with | true => SqF K H a vs | false => SqT K H a vs) (rr : Rvs K H α xs vs) (h' : match c with | true => SqF K H d ws | false => SqT K H d ws) (rr' : Rvs K H α ys ws) : WalkD K (JZp b c K a d) (zpD xs ys) H α := by
  refine ⟨fun H' α' t => ⟨vs, ws, SqB.stay t h, SqB.stay t h', by rw [zpD_len, rr.length, rr'.length]⟩, fun H' α' i e t q => ?_, fun H0 α0 H' α' σ s i e x H2 t r q y => ?_⟩
  · obtain ⟨d1, d2, q1, q2, rfl⟩ := zpD_at _ _ _ _ q
    obtain ⟨v, ev, _⟩ := rr.at_ q1
    obtain ⟨w, ew, _⟩ := rr'.at_ q2
    exact ⟨vs, ws, v, w, SqB.stay t h, SqB.stay t h', ev, ew⟩
  · obtain ⟨d1, d2, q1, q2, rfl⟩ := zpD_at _ _ _ _ q
    obtain ⟨T, w1, w2, rfl, hT, rfl, y1, y2⟩ := y
    obtain ⟨v, ev, rv⟩ := rr.at_ q1
    obtain ⟨w, ew, rw⟩ := rr'.at_ q2
    have z1 := y1 vs (SqB.stay t h)
    have z2 := y2 ws (SqB.stay t h')
    rw [ev] at z1
    rw [ew] at z2
    cases z1
    cases z2
    have t2 : Stay H' α' (upd H' T (.tup [w1, w2])) α' := Stay.upd_new hT
    refine ⟨r.new hT, t2, ?_⟩
    simp only [Rv]
    exact ⟨T, _, rfl, .inl (.inl upd_same), .cons (Rv.stay (t.trans t2) _ _ rv) (.single (Rv.stay (t.trans t2) _ _ rw))⟩
end
def dIterEn (fa : FA) : FA := fun s => (fa s).bind fun ds s1 => match ds with | [d] => (match fixSeq d with | some xs => .ok (enD 0 xs) s1 | none => .bad) | _ => .bad
def dIterZp (fa : FA) : FA := fun s => (fa s).bind fun ds s1 => match ds with | [d, e] => (match fixSeq d, fixSeq e with | some xs, some ys => .ok (zpD xs ys) s1 | _, _ => .bad) | _ => .bad
section
variable {X : Cx}
theorem id_en {e : Expr} {fa : FA} {p pos tpos : Pos} {elts : List Expr} {kk : Nat} (ha : PAD X [e] fa) (hg : Gl X "enumerate") (hm : X.mg "enumerate" = none) (hs : starEach [e] X.env = [(false, eval e X.env)] := by rfl) : PID X (.Tuple elts kk tpos) (.Call (.Name "enumerate" p) [e] [] pos) (dIterEn fa) := by
  refine ⟨fun W tk => ?_⟩
  obtain ⟨t, pa, qa⟩ := ha.run W tk
  refine ⟨_, pi_enB hg hm pa hs, fun H0 α0 σ H α s R r q => qa H0 α0 σ H α s _ r ?_⟩
  unfold dIterEn at q
  cases ea : fa s with
  | bad => rw [ea] at q; exact q.elim
  | exc e s1 => rw [ea] at q; exact q
  | ok ds s1 =>
    rw [ea] at q
    intro vs H1 α1 r1 t1 rv
    simp only [Res.bind] at q
    split at q
    · rename_i d
      obtain ⟨v, rfl, rx⟩ := rv.one
      cases ef : fixSeq d with
      | none => rw [ef] at q; exact q.elim
      | some xs =>
        rw [ef] at q
        obtain ⟨b, a, vs, rfl, h1, rr⟩ := fixSeq_ok rx ef
        exact ⟨b, a, vs, rfl, SqB.stay (Stay.refl H1 α1) h1, q _ H1 α1 r1 t1 (walk_en h1 rr)⟩
    · exact q.elim
theorem id_zp {e e2 : Expr} {fa : FA} {p pos tpos : Pos} {elts : List Expr} {kk : Nat} (ha : PAD X [e, e2] fa) (hg : Gl X "zip") (hm : X.mg "zip" = none) (hs : starEach [e, e2] X.env = (false, eval e X.env) :: starEach [e2] X.env := by rfl) (hpl : (backTo pos (starEach [e2] X.env)).any (·.1) = false := by rfl) :
    PID X (.Tuple elts kk tpos) (.Call (.Name "zip" p) [e, e2] [] pos) (dIterZp fa) := by
  refine ⟨fun W tk => ?_⟩
  obtain ⟨t, pa, qa⟩ := ha.run W tk
  refine ⟨_, pi_zpB hg hm pa hs hpl, fun H0 α0 σ H α s R r q => qa H0 α0 σ H α s _ r ?_⟩
  unfold dIterZp at q
  cases ea : fa s with
  | bad => rw [ea] at q; exact q.elim
  | exc e s1 => rw [ea] at q; exact q
  | ok ds s1 =>
    rw [ea] at q
    intro vs H1 α1 r1 t1 rv
    simp only [Res.bind] at q
    split at q
    · rename_i d e
      obtain ⟨v, w, rfl, rx, ry⟩ := rv.two
      cases ef : fixSeq d with
      | none => rw [ef] at q; exact q.elim
      | some xs =>
        cases eg : fixSeq e with
        | none => rw [ef, eg] at q; exact q.elim
        | some ys =>
          rw [ef, eg] at q
          obtain ⟨b, a, vs, rfl, h1, rr⟩ := fixSeq_ok rx ef
          obtain ⟨c, a2, ws, rfl, h2, rr2⟩ := fixSeq_ok ry eg
          exact ⟨b, c, a, a2, vs, ws, rfl, SqB.stay (Stay.refl H1 α1) h1, SqB.stay (Stay.refl H1 α1) h2, q _ H1 α1 r1 t1 (walk_zp h1 rr h2 rr2)⟩
    · exact q.elim
end
end DL

namespace DL
open PySem PySem.Spec PyProof.Rows L2
variable [DLX]
/-! ### 26. List comprehensions -/
def wipeD (δ : List Slot) : List Nat → List Slot
  | [] => δ
  | v :: vs => (wipeD δ vs).set v .no
def backD (δ0 δ : List Slot) : List Nat → List Slot
  | [] => δ
  | v :: vs => (backD δ0 δ vs).set v (match δ0[v]? with | some sl => sl | none => .no)
def isOwn (δ : List Slot) (v : Nat) : Bool := match δ[v]? with | some (.own _) => true | _ => false
def dLcGo (vs : List Nat) (g : FG) (ft : FT) (fe : FE) : List D → S → Res (List D)
  | [], s => .ok [] s
  | d :: ds, s => match g d { s with δ := wipeD s.δ vs } with
    | none => .bad
    | some s1 => match ft s1 with
      | .ok true s2 => (match fe s2 with
        | .ok y s3 => if noOwn y then (dLcGo vs g ft fe ds { δ := backD s.δ s3.δ vs, μ := s3.μ }).bind fun ys s4 => .ok (y :: ys) s4 else .bad
        | _ => .bad)
      | .ok false s2 => dLcGo vs g ft fe ds { δ := backD s.δ s2.δ vs, μ := s2.μ }
      | _ => .bad
def dLc (vs : List Nat) (fi : FA) (g : FG) (ft : FT) (fe : FE) : FC := fun s => (fi s).bind fun ds s1 => if ds.length ≤ 16777216 && vs.all (fun v => !isOwn s1.δ v) then (match dLcGo vs g ft fe ds s1 with | .ok ys s2 => .ok (.lst ys) s2 | _ => .bad) else .bad
theorem wipeD_len (δ : List Slot) : ∀ vs : List Nat, (wipeD δ vs).length = δ.length
  | [] => rfl
  | v :: vs => by simp [wipeD, wipeD_len δ vs]
theorem wipeD_at {δ : List Slot} {i : Nat} {sl : Slot} : ∀ {vs : List Nat}, (wipeD δ vs)[i]? = some sl → (i ∈ vs ∧ sl = .no) ∨ (i ∉ vs ∧ δ[i]? = some sl)
  | [], h => .inr ⟨by simp, h⟩
  | v :: vs, h => by
    rcases get_set h with ⟨rfl, e, _⟩ | ⟨ne, e⟩
    · exact .inl ⟨by simp, e⟩
    · rcases wipeD_at e with ⟨a, b⟩ | ⟨a, b⟩
      · exact .inl ⟨by simp [a], b⟩
      · exact .inr ⟨by simp [a]; exact fun z => ne z.symm, b⟩
theorem backD_len (δ0 δ : List Slot) : ∀ vs : List Nat, (backD δ0 δ vs).length = δ.length
  | [] => rfl
  | v :: vs => by simp [backD, backD_len δ0 δ vs]
theorem backD_at {δ0 δ : List Slot} {i : Nat} {sl : Slot} : ∀ {vs : List Nat}, (backD δ0 δ vs)[i]? = some sl → (i ∈ vs ∧ (δ0[i]? = some sl ∨ sl = .no)) ∨ (i ∉ vs ∧ δ[i]? = some sl)
  | [], h => .inr ⟨by simp, h⟩
  | v :: vs, h => by
    rcases get_set h with ⟨rfl, e, _⟩ | ⟨ne, e⟩
    · refine .inl ⟨by simp, ?_⟩
      cases hd : δ0[v]? with
      | none => rw [hd] at e; exact .inr e
      | some s0 => rw [hd] at e; exact .inl (by rw [e])
    · rcases backD_at e with ⟨a, b⟩ | ⟨a, b⟩
      · exact .inl ⟨by simp [a], b⟩
      · exact .inr ⟨by simp [a]; exact fun z => ne z.symm, b⟩
theorem isOwn_no {δ : List Slot} {v : Nat} (h : isOwn δ v = false) {c : Cell} : δ[v]? ≠ some (.own c) := fun z => by
  unfold isOwn at h
  rw [z] at h
  cases h
section
variable {K : PySem.W.Frag} {H0 H H' : Hp} {α0 α α' : List Addr} {σ σ' : Sg} {s s' : S}
theorem wipe_at {σ : Sg} {i : Nat} : ∀ {vs : List Nat}, i ∉ vs → (wipe σ vs)[i]? = σ[i]?
  | [], _ => rfl
  | v :: vs, h => by
    simp only [List.mem_cons, not_or] at h
    unfold wipe
    rw [List.getElem?_set_ne (fun z => h.1 z.symm)]
    exact wipe_at h.2
theorem wipe_len (σ : Sg) : ∀ vs : List Nat, (wipe σ vs).length = σ.length
  | [] => rfl
  | v :: vs => by unfold wipe; rw [List.length_set, wipe_len σ vs]
theorem wipe_but {vs ws : List Nat} (b : But ws σ σ') (h : ∀ i ∈ ws, i ∈ vs) : wipe σ' vs = wipe σ vs := by
  apply List.ext_getElem?
  intro i
  by_cases hi : i ∈ vs
  · have key : ∀ (τ : Sg) (us : List Nat), i ∈ us → i < τ.length → (wipe τ us)[i]? = some none := by
      intro τ us
      induction us with
      | nil => intro h; simp at h
      | cons u us ih =>
        intro h hl
        unfold wipe
        by_cases e : u = i
        · subst e
          rw [List.getElem?_set_self (by rw [wipe_len]; exact hl)]
        · rw [List.getElem?_set_ne e]
          exact ih ((List.mem_cons.mp h).resolve_left fun z => e z.symm) hl
    by_cases hl : i < σ.length
    · rw [key σ' vs hi (by rw [b.len]; exact hl), key σ vs hi hl]
    · rw [List.getElem?_eq_none (by rw [wipe_len, b.len]; omega), List.getElem?_eq_none (by rw [wipe_len]; omega)]
  · rw [wipe_at hi, wipe_at hi]
    exact b.at_ i fun z => hi (h i z)
theorem wipe_wipe (σ : Sg) (vs : List Nat) : L2.wipe (L2.wipe σ vs) vs = L2.wipe σ vs := wipe_but (ws := vs) ⟨wipe_len _ _, fun j h => wipe_at h⟩ fun _ h => h
theorem Rel.wipe (r : Rel K H0 α0 H α σ s) (vs : List Nat) : Rel K H0 α0 H α (L2.wipe σ vs) { s with δ := wipeD s.δ vs } :=
  r.less (wipeD_len _ _) (fun i sl e => by
    rcases wipeD_at e with ⟨_, z⟩ | ⟨n, z⟩
    · exact .inl z
    · exact .inr ⟨z, wipe_at n⟩) (wipe_len _ _)
/-- the block's names given back -/
theorem Rel.back {vs ws : List Nat} (r : Rel K H0 α0 H α σ s) (no : ∀ v ∈ vs, isOwn s.δ v = false) (t : Stay H α H' α') (r' : Rel K H0 α0 H' α' σ' s') (b : But ws (L2.wipe σ vs) σ') (h : ∀ i ∈ ws, i ∈ vs) :
    Rel K H0 α0 H' α' σ { δ := backD s.δ s'.δ vs, μ := s'.μ } := by
  have hs : ∀ i, i ∉ vs → σ'[i]? = σ[i]? := fun i hi => by rw [b.at_ i (fun z => hi (h i z)), wipe_at hi]
  refine ⟨r'.cells, ⟨by rw [backD_len, ← r'.slots.len, b.len, wipe_len], fun i d e => ?_, fun i c e => ?_, fun i j c c' a e1 e2 e3 e4 => ?_⟩, r'.ot, r'.nw, r'.st⟩
  · rcases backD_at e with ⟨hi, z | z⟩ | ⟨hi, z⟩
    · obtain ⟨v, e1, e2⟩ := r.slots.val i d z
      exact ⟨v, e1, Rv.stay t _ _ e2⟩
    · cases z
    · rw [← hs i hi]
      exact r'.slots.val i d z
  · rcases backD_at e with ⟨hi, z | z⟩ | ⟨hi, z⟩
    · exact (isOwn_no (no i hi) z).elim
    · cases z
    · rw [← hs i hi]
      exact r'.slots.own i c z
  · rcases backD_at e1 with ⟨hi, z | z⟩ | ⟨hi, z1⟩
    · exact (isOwn_no (no i hi) z).elim
    · cases z
    · rcases backD_at e2 with ⟨hj, z | z⟩ | ⟨hj, z2⟩
      · exact (isOwn_no (no j hj) z).elim
      · cases z
      · rw [← hs i hi] at e3
        rw [← hs j hj] at e4
        exact r'.slots.inj i j c c' a z1 z2 e3 e4
theorem back_no {δ0 δ : List Slot} {vs : List Nat} (no : ∀ v ∈ vs, isOwn δ0 v = false) : ∀ v ∈ vs, isOwn (backD δ0 δ vs) v = false := fun v hv => by
  cases e : (backD δ0 δ vs)[v]? with
  | none => unfold isOwn; rw [e]
  | some sl =>
    unfold isOwn
    rw [e]
    rcases backD_at e with ⟨_, z | z⟩ | ⟨n, _⟩
    · have := no v hv
      unfold isOwn at this
      rw [z] at this
      exact this
    · rw [z]
    · exact (n hv).elim
/-- a new thing at p that the run leaves alone: it stands in the def's entry heap -/
theorem Rel.pin {p : Addr} {o : HO} (r : Rel K H0 α0 H α σ s) (h : H p = none) (nf : ¬ Fixed o) : Rel K (upd H0 p o) α0 (upd H p o) α σ s := by
  have h0 := r.free0 h
  have r1 := r.new (o := o) h
  refine ⟨r1.cells, ⟨r1.slots.len, r1.slots.val, fun i c e => ?_, r1.slots.inj⟩, fun a u e n => ?_, fun a ha => ?_, ⟨fun a u e f => ?_, r1.st.pre, fun a e => ?_⟩⟩
  · obtain ⟨a, e1, e2, e3, e4⟩ := r1.slots.own i c e
    obtain ⟨a', e1', _, _, e4'⟩ := r.slots.own i c e
    rw [e1] at e1'
    cases e1'
    obtain ⟨o', ho⟩ := e4'.some
    exact ⟨a, e1, e2, by rw [upd_ne (fun z => by subst z; rw [h] at ho; cases ho)]; exact e3, e4⟩
  · by_cases z : a = p
    · subst z
      rw [upd_same] at e ⊢
      exact e
    · rw [upd_ne z] at e ⊢
      exact r.ot a u e n
  · rcases r.nw a ha with z | z
    · exact .inl z
    · refine .inr ?_
      rw [upd_ne]
      · exact z
      · rintro rfl
        exact r.nota h ha
  · by_cases z : a = p
    · subst z
      rw [upd_same] at e
      cases e
      exact (nf f).elim
    · rw [upd_ne z] at e ⊢
      exact r.st.im a u e f
  · by_cases z : a = p
    · subst z
      rw [upd_same] at e
      cases e
    · rw [upd_ne z] at e ⊢
      exact r.st.dom a e
theorem Rel.pinned {p : Addr} {o : HO} (r : Rel K (upd H0 p o) α0 H α σ s) (n : p ∉ α0) : H p = some o := r.ot p o upd_same n
/-- the pinned thing changes -/
theorem Rel.repin {p : Addr} {o o' : HO} (r : Rel K (upd H0 p o) α0 H α σ s) (n : p ∉ α0) (nf : ¬ Fixed o) (nf' : ¬ Fixed o') : Rel K (upd H0 p o') α0 (upd H p o') α σ s ∧ Stay H α (upd H p o') α := by
  have hp := r.pinned n
  have na : p ∉ α := fun z => by
    rcases r.nw p z with w | w
    · exact n w
    · rw [upd_same] at w; cases w
  have t : Stay H α (upd H p o') α := ⟨fun a u e f => by
    by_cases z : a = p
    · subst z
      rw [hp] at e
      cases e
      exact (nf f).elim
    · rw [upd_ne z]; exact e, List.prefix_rfl, fun a e => by
    by_cases z : a = p
    · subst z
      rw [upd_same] at e
      cases e
    · rw [upd_ne z] at e; exact e⟩
  refine ⟨⟨⟨r.cells.len, r.cells.nd, fun m a c e1 e2 => ?_⟩, ⟨r.slots.len, fun i d e => ?_, fun i c e => ?_, r.slots.inj⟩, fun a u e m => ?_, fun a ha => ?_, ⟨fun a u e f => ?_, r.st.pre, fun a e => ?_⟩⟩, t⟩
  · refine (r.cells.at_ m a c e1 e2).stay t fun u hu _ => ?_
    rw [upd_ne]
    · exact hu
    · rintro rfl
      exact na (List.mem_of_getElem? e1)
  · obtain ⟨v, e1, e2⟩ := r.slots.val i d e
    exact ⟨v, e1, Rv.stay t _ _ e2⟩
  · obtain ⟨a, e1, e2, e3, e4⟩ := r.slots.own i c e
    have ne : a ≠ p := by
      rintro rfl
      rw [upd_same] at e3
      cases e3
    rw [upd_ne ne] at e3
    refine ⟨a, e1, e2, by rw [upd_ne ne]; exact e3, e4.stay t fun u hu _ => ?_⟩
    rw [upd_ne ne]
    exact hu
  · by_cases z : a = p
    · subst z
      rw [upd_same] at e ⊢
      exact e
    · rw [upd_ne z] at e ⊢
      exact r.ot a u (by rw [upd_ne z]; exact e) m
  · rcases r.nw a ha with z | z
    · exact .inl z
    · refine .inr ?_
      have ne : a ≠ p := by
        rintro rfl
        exact na ha
      rw [upd_ne ne] at z ⊢
      exact z
  · by_cases z : a = p
    · subst z
      rw [upd_same] at e
      cases e
      exact (nf' f).elim
    · rw [upd_ne z] at e ⊢
      exact r.st.im a u (by rw [upd_ne z]; exact e) f
  · by_cases z : a = p
    · subst z
      rw [upd_same] at e
      cases e
    · rw [upd_ne z] at e ⊢
      have := r.st.dom a e
      rw [upd_ne z] at this
      exact this
theorem Rel.unpin {p : Addr} {o : HO} (r : Rel K (upd H0 p o) α0 H α σ s) (h0 : H0 p = none) : Rel K H0 α0 H α σ s := by
  refine ⟨r.cells, ⟨r.slots.len, r.slots.val, fun i c e => ?_, r.slots.inj⟩, fun a u e m => ?_, fun a ha => ?_, ⟨fun a u e f => ?_, r.st.pre, fun a e => ?_⟩⟩
  · obtain ⟨a, e1, e2, e3, e4⟩ := r.slots.own i c e
    refine ⟨a, e1, e2, ?_, e4⟩
    by_cases z : a = p
    · subst z; exact h0
    · rw [upd_ne z] at e3; exact e3
  · have z : a ≠ p := by rintro rfl; rw [h0] at e; cases e
    exact r.ot a u (by rw [upd_ne z]; exact e) m
  · rcases r.nw a ha with w | w
    · exact .inl w
    · by_cases z : a = p
      · subst z; exact .inr h0
      · rw [upd_ne z] at w; exact .inr w
  · have z : a ≠ p := by rintro rfl; rw [h0] at e; cases e
    exact r.st.im a u (by rw [upd_ne z]; exact e) f
  · have w := r.st.dom a e
    by_cases z : a = p
    · subst z; exact h0
    · rw [upd_ne z] at w; exact w
theorem Rel.pinRF {p : Addr} {o : HO} {c : Cell} (r : Rel K (upd H0 p o) α0 H α σ s) (h0 : H0 p = none) (n : p ∉ α0) (hc : CellOk K H α p c) : RF K H0 H α σ s p c := by
  refine ⟨hc, fun z => ?_, h0, fun i c' e1 e2 => ?_⟩
  · rcases r.nw p z with w | w
    · exact n w
    · rw [upd_same] at w; cases w
  · obtain ⟨a, e3, e4, e5, e6⟩ := r.slots.own i c' e1
    rw [e2] at e3
    cases e3
    rw [upd_same] at e5
    cases e5
end
/-! tests of a clause -/
structure PTsD (X : Cx) (ifs : List Expr) (f : FT) : Prop where
  run : ∀ W, Takes X W → ∃ t, PTs X ifs t ∧ ∀ H0 α0 σ H α s Q, Rel X.K H0 α0 H α σ s → PostT X.K H0 α0 σ W H α Q (f s) → t σ H Q
def dYes : FT := fun s => .ok true s
theorem td_nil {X : Cx} : PTsD X [] dYes := ⟨fun W _ => ⟨_, pts_nil, fun H0 α0 σ H α s Q r q => q H α r (Stay.refl _ _)⟩⟩
theorem td_one {X : Cx} {c : Expr} {f : FT} (h : PTD X c f) : PTsD X [c] f := ⟨fun W tk => let ⟨t, p, q⟩ := h.run W tk; ⟨t, pts_one p, q⟩⟩
structure Blk where
  s : Shared
  H : Hp
  C : Addr
  cl : List (Str × Addr)
  fp : List Addr
abbrev CxB (X : Cx) (scope : Scope) (b : Blk) : Cx := X.blk b.s b.H scope (compEnvC scope b.cl b.C X.env) b.fp
section
variable {X : Cx} {elt tg iter : Expr} {ifs : List Expr} {scope : Scope} {own : List (Str × Nat)} {pos : Pos} {fi : FA} {g : FG} {ft : FT} {fe : FE} {ws : List Nat}
theorem lc_ex (hi : PID X tg iter fi) (hw : ws.all (fun i => (own.map (·.2)).contains i) = true) (hg : ∀ b, PGD (CxB X scope b) tg ws g) (ht : ∀ b, PTsD (CxB X scope b) ifs ft) (he : ∀ b, PED (CxB X scope b) elt fe) (W : WX) (tk : Takes X W) :
    ∃ wi tg' tt te, PI X tg iter wi ∧ (∀ b, PG (CxB X scope b) tg tg') ∧ (∀ b, PTs (CxB X scope b) ifs tt) ∧ (∀ b, PE (CxB X scope b) elt te) ∧ ∀ H0 α0 σ H α s Q, Rel X.K H0 α0 H α σ s → PostF X.K H0 α0 σ W H α Q (dLc (own.map (·.2)) fi g ft fe s) → tLc wi tg' tt te (own.map (·.2)) σ H Q := by
  obtain ⟨wi, pi, qi⟩ := hi.run W tk
  have hg' := fun b => (hg b).ex
  have ht' := fun b => (ht b).run _ Takes.none
  have he' := fun b => (he b).run _ Takes.none
  obtain ⟨tg1, hg2⟩ := Classical.axiomOfChoice hg'
  obtain ⟨tt1, ht2⟩ := Classical.axiomOfChoice ht'
  obtain ⟨te1, he2⟩ := Classical.axiomOfChoice he'
  have pg := fun b => (hg2 b).1
  have qg := fun b => (hg2 b).2
  have pt := fun b => (ht2 b).1
  have qt := fun b => (ht2 b).2
  have pe := fun b => (he2 b).1
  have qe := fun b => (he2 b).2
  refine ⟨wi, fun v σ H Q => ∀ b, tg1 b v σ H Q, fun σ H Q => ∀ b, tt1 b σ H Q, fun σ H Q => ∀ b, te1 b σ H Q, pi, fun b => ⟨fun pins s v u σ H Q I r h => (pg b).run pins s v u σ H Q I r (h b)⟩, fun b => ⟨fun pins s σ H Q I h => (pt b).run pins s σ H Q I (h b)⟩, fun b => ⟨fun pins s σ H Q I h => (pe b).run pins s σ H Q I (h b)⟩, fun H0 α0 σ H α s Q r q => qi H0 α0 σ H α s _ r ?_⟩
  unfold dLc at q
  cases ei : fi s with
  | bad => rw [ei] at q; exact q.elim
  | exc e s1 => rw [ei] at q; exact q
  | ok ds s1 =>
    rw [ei] at q
    intro J H1 α1 r1 t1 w
    simp only [Res.bind] at q
    split at q
    · rename_i hc
      rw [Bool.and_eq_true, decide_eq_true_eq] at hc
      obtain ⟨hl, hno⟩ := hc
      have no1 : ∀ v ∈ own.map (·.2), isOwn s1.δ v = false := fun v hv => by simpa using List.all_eq_true.mp hno v hv
      have hws : ∀ i ∈ ws, i ∈ own.map (·.2) := fun i h => by simpa using List.all_eq_true.mp hw i h
      generalize own.map (·.2) = vs at *
      intro Dd hD
      have h0 : H0 Dd = none := r1.free0 hD
      have n0 : Dd ∉ α0 := fun z => r1.nota hD (r1.st.pre.subset z)
      refine ⟨fun i m H => i + m = ds.length ∧ ∃ s' α' acc vacc, Rel X.K (upd H0 Dd (.lst vacc)) α0 H α' σ s' ∧ Stay H1 α1 H α' ∧ Rvs X.K H α' acc vacc ∧ acc.length ≤ i ∧ (∀ v ∈ vs, isOwn s'.δ v = false) ∧
        PostF X.K H0 α0 σ W H α' Q (match dLcGo vs g ft fe (ds.drop i) s' with | .ok ys s2 => .ok (.lst (acc ++ ys)) s2 | _ => .bad), ⟨ds.length, Nat.zero_add _, s1, α1, [], [], r1.pin hD (fun z => z), Stay.upd_new hD, .nil, Nat.zero_le _, no1, ?_⟩, ?_⟩
      · rw [List.drop_zero]
        have q2 : PostF X.K H0 α0 σ W H α Q (match dLcGo vs g ft fe ds s1 with | .ok ys s2 => .ok (.lst ys) s2 | _ => .bad) := q
        cases eg : dLcGo vs g ft fe ds s1 <;> rw [eg] at q2 <;> simp only [List.nil_append] at q2 ⊢
        · exact fun a H' α' r' t' rf => q2 a H' α' r' (t1.trans ((Stay.upd_new hD).trans t')) rf
        · exact q2
        · exact q2
      · rintro i m H2 ⟨hm, s', α', acc, vacc, rl, st, ra, hai, no, k⟩
        cases m with
        | zero =>
          have e : i = ds.length := by omega
          subst e
          rw [List.drop_length] at k
          simp only [dLcGo, List.append_nil] at k
          refine .inl ⟨w.stop H2 α' st, k Dd H2 α' (rl.unpin h0) (Stay.refl _ _) (rl.pinRF h0 n0 ⟨vacc, rl.pinned n0, ra⟩)⟩
        | succ m =>
          have hi : i < ds.length := by omega
          have ed := List.getElem?_eq_getElem hi
          rw [List.drop_eq_getElem_cons hi] at k
          refine .inr ⟨w.go H2 α' i _ st ed, fun H' => ∃ m', m' < m + 1 ∧ (i + 1) + m' = ds.length ∧ ∃ s' α' acc vacc, Rel X.K (upd H0 Dd (.lst vacc)) α0 H' α' σ s' ∧ Stay H1 α1 H' α' ∧ Rvs X.K H' α' acc vacc ∧ acc.length ≤ i + 1 ∧ (∀ v ∈ vs, isOwn s'.δ v = false) ∧
            PostF X.K H0 α0 σ W H' α' Q (match dLcGo vs g ft fe (ds.drop (i + 1)) s' with | .ok ys s2 => .ok (.lst (acc ++ ys)) s2 | _ => .bad), fun _ z => z, fun x H3 hy => ?_⟩
          obtain ⟨r3, t3, rv⟩ := w.yld _ α0 H2 α' σ s' i _ x H3 st rl ed hy
          unfold dLcGo at k
          cases eg : g ds[i] { s' with δ := wipeD s'.δ vs } with
          | none => rw [eg] at k; exact k.elim
          | some s4 =>
            rw [eg] at k
            intro b
            refine qg b _ α0 _ H3 α' _ _ x s4 _ (r3.wipe vs) rv eg fun σ4 H4 r4 t4 b4 => ⟨by rw [wipe_but b4 hws]; exact wipe_wipe σ vs, fun b => ?_⟩
            refine qt b _ α0 σ4 H4 α' s4 _ r4 ?_
            simp only at k
            cases et : ft s4 with
            | bad => rw [et] at k; exact k.elim
            | exc e s5 => rw [et] at k; exact k.elim
            | ok bb s5 =>
              rw [et] at k
              intro H5 α5 r5 t5
              have t35 := (t3.trans t4).trans t5
              cases bb with
              | false =>
                simp only at k
                rw [if_neg Bool.false_ne_true]
                refine ⟨m, Nat.lt_succ_self m, by omega, _, α5, acc, vacc, r3.back no (t4.trans t5) r5 b4 hws, st.trans t35, Rvs.stay t35 _ _ ra, by omega, back_no no, ?_⟩
                cases eq : dLcGo vs g ft fe (ds.drop (i + 1)) { δ := backD s'.δ s5.δ vs, μ := s5.μ } <;> rw [eq] at k <;> simp only at k ⊢
                · exact fun a H' α' r' t' rf => k a H' α' r' (t35.trans t') rf
                · exact k
                · exact k
              | true =>
                simp only at k
                rw [if_pos rfl]
                intro b
                refine qe b _ α0 σ4 H5 α5 s5 _ r5 ?_
                cases ee : fe s5 with
                | bad => rw [ee] at k; exact k.elim
                | exc e s6 => rw [ee] at k; exact k.elim
                | ok y s6 =>
                  rw [ee] at k
                  intro v H6 α6 r6 t6 rx
                  simp only at k
                  cases hny : noOwn y with
                  | false => rw [hny, if_neg Bool.false_ne_true] at k; exact k.elim
                  | true =>
                    rw [hny, if_pos rfl] at k
                    have rvy := noOwn_rv rx hny
                    have rb := r3.back no ((t4.trans t5).trans t6) r6 b4 hws
                    obtain ⟨rp, tp⟩ := rb.repin (o' := .lst (vacc ++ [v])) n0 (fun z => z) (fun z => z)
                    have t36 := (t35.trans t6).trans tp
                    have hlen : acc.length < sizeLine := by rw [sizeLine_eq]; omega
                    refine ⟨vacc, r6.pinned n0, by rw [ra.length]; exact hlen, m, Nat.lt_succ_self m, by omega, _, α6, acc ++ [y], vacc ++ [v], rp, st.trans t36, (Rvs.stay t36 _ _ ra).append (.single (Rv.stay tp _ _ rvy)), by simp; omega, back_no no, ?_⟩
                    cases eq : dLcGo vs g ft fe (ds.drop (i + 1)) { δ := backD s'.δ s6.δ vs, μ := s6.μ } <;> rw [eq] at k <;> simp only [Res.bind] at k ⊢
                    · rw [List.append_assoc]
                      exact fun a H' α' r' t' rf => k a H' α' r' (t36.trans t') rf
                    · exact k
                    · exact k
    · exact q.elim
theorem pf_lc (hc : X.calm = true) (hN : X.N.Nodup) (ok : blkC X.N X.env.scope scope own = true) (hi : PID X tg iter fi) (hg : ∀ b, PGD (CxB X scope b) tg ws g) (ht : ∀ b, PTsD (CxB X scope b) ifs ft) (he : ∀ b, PED (CxB X scope b) elt fe) (hw : ws.all (fun i => (own.map (·.2)).contains i) = true := by rfl)
    (hs : ∀ x, foldedSetIterable iter X.env x = pure x := by intro _; rfl) : PFD X (.ListComp elt [⟨tg, iter, ifs, 0⟩] scope pos) (dLc (own.map (·.2)) fi g ft fe) := by
  refine ⟨fun W tk => ?_⟩
  obtain ⟨wi, tg', tt, te, h1, h2, h3, h4, h5⟩ := lc_ex hi hw hg ht he W tk
  exact ⟨_, pe_lc hc hN h1 (blkOk_by ok) (fun s H C cl fp => h2 ⟨s, H, C, cl, fp⟩) (fun s H C cl fp => h3 ⟨s, H, C, cl, fp⟩) (fun s H C cl fp => h4 ⟨s, H, C, cl, fp⟩) hs, h5⟩
/-- name = [..] on one line: the name's own -/
theorem sd_setLc {i : Nat} {y : Str} {py spos : Pos} (hc : X.calm = true) (hN : X.N.Nodup) (hy : X.N[i]? = some y) (hyl : X.env.scope.names.lookup y = some .local) (hsw : swapsWith (.ListComp elt [⟨tg, iter, ifs, 0⟩] scope pos) (some (.Name y py)) spos.line X.env = pure true)
    (ok : blkC X.N X.env.scope scope own = true) (hi : PID X tg iter fi) (hg : ∀ b, PGD (CxB X scope b) tg ws g) (ht : ∀ b, PTsD (CxB X scope b) ifs ft) (he : ∀ b, PED (CxB X scope b) elt fe) (hw : ws.all (fun i => (own.map (·.2)).contains i) = true := by rfl)
    (hs : ∀ x, foldedSetIterable iter X.env x = pure x := by intro _; rfl) : PSD X (.Assign [.Name y py] (.ListComp elt [⟨tg, iter, ifs, 0⟩] scope pos) spos) (dAsgO i (dLc (own.map (·.2)) fi g ft fe)) := by
  refine ⟨fun W tk => ?_⟩
  obtain ⟨wi, tg', tt, te, h1, h2, h3, h4, h5⟩ := lc_ex hi hw hg ht he W tk
  refine ⟨_, ps_setLc hc hN hy hyl hsw h1 (blkOk_by ok) (fun s H C cl fp => h2 ⟨s, H, C, cl, fp⟩) (fun s H C cl fp => h3 ⟨s, H, C, cl, fp⟩) (fun s H C cl fp => h4 ⟨s, H, C, cl, fp⟩) hs, fun H0 α0 σ H α s D r k => h5 H0 α0 σ H α s _ r ?_⟩
  unfold dAsgO at k
  cases ea : dLc (own.map (·.2)) fi g ft fe s with
  | bad => rw [ea] at k; exact k.elim
  | exc e s1 => rw [ea] at k; exact fun cls dd H' α' r' x => k cls dd σ H' α' r' x
  | ok c s1 =>
    rw [ea] at k
    exact fun a H1 α1 r1 t1 rf => k _ H1 α1 (r1.setO rf) t1
end
end DL

namespace DL
open PySem PySem.Spec PyProof.Rows L2
variable [DLX]
/-! ### 27. Things that change: methods, stores -/
def mutAt (s : S) : D → Option Cell
  | .own i => (match s.δ[i]? with | some (.own c) => some c | _ => none)
  | .ref n => s.μ[n]?
  | _ => none
def setAt (s : S) (o : D) (c : Cell) : S := match o with
  | .own i => { s with δ := s.δ.set i (.own c) }
  | .ref n => { s with μ := s.μ.set n c }
  | _ => s
theorem cell_mut {K : PySem.W.Frag} {H : Hp} {α : List Addr} {a : Addr} {c : Cell} (h : CellOk K H α a c) (nd : c ≠ .dead) : ∃ u, H a = some u ∧ ¬ Fixed u := by
  cases c with
  | lst xs => obtain ⟨vs, h, _⟩ := h; exact ⟨_, h, fun z => z⟩
  | dct kvs =>
    rcases h with ⟨kv, h, _⟩ | ⟨kv, _, h, _⟩
    · exact ⟨_, h, fun z => z⟩
    · exact ⟨_, h, fun z => z⟩
  | ins C fs => obtain ⟨_, _, h, _⟩ := h; exact ⟨_, h, fun z => z⟩
  | dead => exact absurd rfl nd
  | tab n => obtain ⟨_, _, _, h, _⟩ := h; exact ⟨_, h, fun z => z⟩
section
variable {K : PySem.W.Frag} {H0 H H' : Hp} {α0 α : List Addr} {σ : Sg} {s : S}
theorem stay_mut {a : Addr} {u : HO} (hu : H a = some u) (nf : ¬ Fixed u) (k : ∀ b o, b ≠ a → H b = some o → H' b = some o) (dm : ∀ b, H' b = none → H b = none) : Stay H α H' α :=
  ⟨fun b o e f => k b o (fun z => by subst z; rw [hu] at e; cases e; exact nf f) e, List.prefix_rfl, dm⟩
theorem mut_at {o : D} {v : V} {c : Cell} (r : Rel K H0 α0 H α σ s) (rx : Rx K H α σ o v) (e : mutAt s o = some c) : ∃ a, v = .ref a ∧ CellOk K H α a c ∧
    ∀ H' c', (∀ b u, b ≠ a → H b = some u → H' b = some u) → Stay H α H' α → CellOk K H' α a c' → Rel K H0 α0 H' α σ (setAt s o c') := by
  unfold mutAt at e
  split at e
  · rename_i i
    split at e
    · rename_i c0 hc
      cases e
      obtain ⟨a, h1, h2, h3, h4⟩ := r.slots.own i c hc
      have h' : σ[i]? = some (some v) := rx
      rw [h1] at h'
      cases h'
      refine ⟨a, rfl, h4, fun H' c' k t hc' => ?_⟩
      refine ⟨⟨r.cells.len, r.cells.nd, fun n b x e1 e2 => ?_⟩, ⟨by simpa [setAt] using r.slots.len, fun j d e => ?_, fun j x e => ?_, fun j l x y b e1 e2 e3 e4 => ?_⟩, fun b u e m => ?_, r.nw, r.st.trans t⟩
      · exact (r.cells.at_ n b x e1 e2).stay t fun u hu _ => k b u (fun z => h2 (z ▸ List.mem_of_getElem? e1)) hu
      · rcases get_set e with ⟨_, z, _⟩ | ⟨ne, z⟩
        · cases z
        · obtain ⟨w, e1, e2⟩ := r.slots.val j d z
          exact ⟨w, e1, Rv.stay t _ _ e2⟩
      · rcases get_set e with ⟨rfl, z, _⟩ | ⟨ne, z⟩
        · cases z
          exact ⟨a, h1, h2, h3, hc'⟩
        · obtain ⟨b, e1, e2, e3, e4⟩ := r.slots.own j x z
          refine ⟨b, e1, e2, e3, e4.stay t fun u hu _ => k b u (fun w => ?_) hu⟩
          subst w
          exact ne (r.slots.inj i j c x b hc z h1 e1)
      · have back : ∀ {j : Nat} {x : Cell}, (s.δ.set i (.own c'))[j]? = some (.own x) → ∃ y, s.δ[j]? = some (.own y) := fun {j x} e => by
          rcases get_set e with ⟨rfl, _, _⟩ | ⟨_, z⟩
          · exact ⟨_, hc⟩
          · exact ⟨_, z⟩
        obtain ⟨x', z1⟩ := back e1
        obtain ⟨y', z2⟩ := back e2
        exact r.slots.inj j l x' y' b z1 z2 e3 e4
      · exact k b u (fun z => by subst z; rw [h3] at e; cases e) (r.ot b u e m)
    · cases e
  · rename_i n
    have h' : Rv K H α (.ref n) v := rx
    simp only [Rv] at h'
    obtain ⟨a, ha, rfl⟩ := h'
    refine ⟨a, rfl, r.cells.at_ n a c ha e, fun H' c' k t hc' => ?_⟩
    have hm := List.mem_of_getElem? ha
    refine ⟨⟨by simpa [setAt] using r.cells.len, r.cells.nd, fun m b x e1 e2 => ?_⟩, ⟨r.slots.len, fun j d e => ?_, fun j x e => ?_, r.slots.inj⟩, fun b u e m => ?_, r.nw, r.st.trans t⟩
    · rcases get_set e2 with ⟨rfl, z, _⟩ | ⟨ne, z⟩
      · rw [ha] at e1
        cases e1
        rw [z]
        exact hc'
      · refine (r.cells.at_ m b x e1 z).stay t fun u hu _ => k b u (fun w => ?_) hu
        subst w
        exact ne ((List.getElem?_inj (List.getElem?_eq_some_iff.mp ha).1 r.cells.nd).mp (ha.trans e1.symm))
    · obtain ⟨w, e1, e2⟩ := r.slots.val j d e
      exact ⟨w, e1, Rv.stay t _ _ e2⟩
    · obtain ⟨b, e1, e2, e3, e4⟩ := r.slots.own j x e
      exact ⟨b, e1, e2, e3, e4.stay t fun u hu _ => k b u (fun w => e2 (w ▸ hm)) hu⟩
    · refine k b u (fun z => ?_) (r.ot b u e m)
      subst z
      rcases r.nw b hm with w | w
      · exact m w
      · rw [w] at e; cases e
  · cases e
/-- the thing at a becomes o -/
theorem mut_upd {a : Addr} {u o : HO} (hu : H a = some u) (nf : ¬ Fixed u) : (∀ b w, b ≠ a → H b = some w → upd H a o b = some w) ∧ Stay H α (upd H a o) α := by
  have k : ∀ b w, b ≠ a → H b = some w → upd H a o b = some w := fun b w ne e => by rw [upd_ne ne]; exact e
  refine ⟨k, stay_mut hu nf k fun b e => ?_⟩
  by_cases z : b = a
  · subst z; rw [upd_same] at e; cases e
  · rw [upd_ne z] at e; exact e
end
/-- a method does g -/
def MB (X : Cx) (id : String) (g : S → D → List D → Option (D × S)) : Prop :=
  ∀ (pins : List (Addr × Obj)) (s : Shared) (σ0 : Sg) (H : Hp) (xv : V) (xs : List V) (v : Value) (us : List Value) (Q : VK) (H0 : Hp) (σ : Sg) (α0 α : List Addr) (st : S) (o : D) (ds : List D) (d : D) (st' : S), Inv X pins σ0 H s → Rel X.K H0 α0 H α σ st → Rx X.K H α σ o xv → Rxs X.K H α σ ds xs → RelV xv v → Vals xs us → g st o ds = some (d, st') →
    (∀ w H' α', Rel X.K H0 α0 H' α' σ st' → Stay H α H' α' → Rx X.K H' α' σ d w → Q w H') → wpAny (model X.prog X.w) X.A (call (.builtin id) (v :: us)) (EP X pins σ0 Q) X.xe s
def rMB (K : PySem.W.Frag) (g : S → D → List D → Option (D × S)) : V → List V → Hp → VK → Prop := fun xv xs H Q => ∃ H0 σ α0 α st o ds d st', Rel K H0 α0 H α σ st ∧ Rx K H α σ o xv ∧ Rxs K H α σ ds xs ∧ g st o ds = some (d, st') ∧ ∀ w H' α', Rel K H0 α0 H' α' σ st' → Stay H α H' α' → Rx K H' α' σ d w → Q w H'
theorem MB.mt {X : Cx} {id : String} {g : S → D → List D → Option (D × S)} (h : MB X id g) : MtM X id (rMB X.K g) := fun pins s σ0 H xv xs v us Q I rv rvs ⟨H0, σ, α0, α, st, o, ds, d, st', rl, rx, rxs, e, q⟩ => h pins s σ0 H xv xs v us Q H0 σ α0 α st o ds d st' I rl rx rxs rv rvs e q
theorem MB.of {X : Cx} {id : String} {r : V → List V → Hp → VK → Prop} {g : S → D → List D → Option (D × S)} (hm : MtM X id r)
    (h : ∀ (H0 : Hp) (α0 : List Addr) (σ : Sg) (H : Hp) (α : List Addr) (s : S) (xv : V) (xs : List V) (o : D) (ds : List D) (d : D) (s' : S) (Q : VK), Rel X.K H0 α0 H α σ s → Rx X.K H α σ o xv → Rxs X.K H α σ ds xs → g s o ds = some (d, s') →
      (∀ w H' α', Rel X.K H0 α0 H' α' σ s' → Stay H α H' α' → Rx X.K H' α' σ d w → Q w H') → r xv xs H Q) : MB X id g :=
  fun pins s σ0 H xv xs v us Q H0 σ α0 α st o ds d st' I rl rx rxs rv rvs e q => hm pins s σ0 H xv xs v us Q I rv rvs (h H0 α0 σ H α st xv xs o ds d st' Q rl rx rxs e q)
theorem MB.or {X : Cx} {id : String} {g g' : S → D → List D → Option (D × S)} (h : MB X id g) (h' : MB X id g') : MB X id (fun s o ds => (g s o ds).or (g' s o ds)) := fun pins s σ0 H xv xs v us Q H0 σ α0 α st o ds d st' I rl rx rxs rv rvs eg q => by
  dsimp only at eg
  cases e : g st o ds with
  | some d' =>
    rw [e] at eg
    obtain rfl : d' = (d, st') := Option.some.inj eg
    exact h pins s σ0 H xv xs v us Q H0 σ α0 α st o ds d st' I rl rx rxs rv rvs e q
  | none =>
    rw [e] at eg
    exact h' pins s σ0 H xv xs v us Q H0 σ α0 α st o ds d st' I rl rx rxs rv rvs eg q
/-- the type of data, as a method call reads it -/
theorem typ_d {X : Cx} {pins : List (Addr × Obj)} {s : Shared} {σ0 σ : Sg} {H H0 : Hp} {α0 α : List Addr} {st : S} {d : D} {v : V} {u : Value} {T : String} (I : Inv X pins σ0 H s) (rl : Rel X.K H0 α0 H α σ st) (h : Rx X.K H α σ d v) (r : RelV v u) (e : tyD st d = some T) (ne : T = "list" ∨ T = "dict" ∨ T = "str" ∨ T = "int") :
    s.TypeIs u T ∧ ∀ a, u = .ref a → ∃ ob, s.heap.get? a = some ob ∧ ob.dict = none := by
  have lst : ∀ {a : Addr} {vs : List V}, SqL X.K H a vs → s.TypeIs (.ref a) "list" ∧ ∀ b, (Value.ref a) = .ref b → ∃ ob, s.heap.get? b = some ob ∧ ob.dict = none := fun {a vs} hq => by
    obtain ⟨its, _, pl, _⟩ := I.list hq
    refine ⟨pl.isList.typeIs, fun b e => ?_⟩
    cases e
    obtain ⟨o, n, e, c, hd, _⟩ := pl
    exact ⟨o, e, hd⟩
  have dct : ∀ {a : Addr}, (∃ o, s.heap.get? a = some o ∧ o.ExactDict) → s.TypeIs (.ref a) "dict" ∧ ∀ b, (Value.ref a) = .ref b → ∃ ob, s.heap.get? b = some ob ∧ ob.dict = none := fun {a} ⟨o, e, ex⟩ => by
    refine ⟨⟨o, e, ex.1⟩, fun b e2 => ?_⟩
    cases e2
    exact ⟨o, e, ex.2.1⟩
  have viaC : ∀ (a : Addr) (c : Cell), CellOk X.K H α a c → (match c with | .lst _ => some "list" | .dct _ => some "dict" | _ => none) = some T → s.TypeIs (.ref a) T ∧ ∀ b, (Value.ref a) = .ref b → ∃ ob, s.heap.get? b = some ob ∧ ob.dict = none := by
    intro a c hc e
    cases c <;> simp only [Option.some.injEq, reduceCtorEq] at e
    · subst e
      obtain ⟨vs, ha, _⟩ := hc
      exact lst (.of ha)
    · subst e
      rcases hc with ⟨kv, ha, _⟩ | ⟨kv, _, ha, _⟩
      · obtain ⟨_, _, _, _, o, _, _, e, ex, _⟩ := I.hok a _ ha
        exact dct ⟨o, e, ex⟩
      · obtain ⟨_, _, _, _, o, _, _, e, ex, _⟩ := I.hok a _ ha
        exact dct ⟨o, e, ex⟩
  cases d <;> simp only [tyD, Option.some.injEq, reduceCtorEq] at e
  case non => subst e; simp at ne
  case bl b => subst e; simp at ne
  case tup b => subst e; simp at ne
  case int i =>
    subst e
    rw [rx_int h] at r
    obtain ⟨t, rfl⟩ := r
    exact ⟨typeIs_int s i t, fun _ e => nomatch e⟩
  case str z =>
    subst e
    rw [rx_str h] at r
    obtain ⟨t, rfl⟩ := r
    exact ⟨typeIs_str s z t, fun _ e => nomatch e⟩
  case ref n =>
    have h' : Rv X.K H α (.ref n) v := h
    simp only [Rv] at h'
    obtain ⟨a, ha, rfl⟩ := h'
    cases r
    simp only [cellAt] at e
    cases hc : st.μ[n]? with
    | none => rw [hc] at e; cases e
    | some c =>
      rw [hc] at e
      exact viaC a c (rl.cells.at_ n a c ha hc) (by cases c <;> simpa using e)
  case own n =>
    have h' : σ[n]? = some (some v) := h
    simp only [cellAt] at e
    cases hc : st.δ[n]? with
    | none => rw [hc] at e; simp at e
    | some c =>
      rw [hc] at e
      cases c with
      | no => simp at e
      | val _ => simp at e
      | own c =>
        obtain ⟨a, ha, _, _, q⟩ := rl.slots.own n c hc
        rw [h'] at ha
        cases ha
        cases r
        exact viaC a c q (by cases c <;> simpa using e)
  case lst xs =>
    subst e
    have h' : Rv X.K H α (.lst xs) v := h
    simp only [Rv] at h'
    obtain ⟨a, vs, rfl, hs, _⟩ := h'
    cases r
    exact lst hs.sq
  case dct kvs =>
    subst e
    have h' : Rv X.K H α (.dct kvs) v := h
    simp only [Rv] at h'
    obtain ⟨a, o, rfl, ⟨kv, hf, _⟩ | ⟨kv, _, hf, _⟩⟩ := h'
    · cases r
      obtain ⟨_, h2, h3, _⟩ := I.frzK hf
      exact dct ⟨o, h2, h3⟩
    · cases r
      obtain ⟨_, h2, h3, _⟩ := I.frzT hf
      exact dct ⟨o, h2, h3⟩
/-- o.m(..) -/
def dM (T : String) (g : S → D → List D → Option (D × S)) (fo : FE) (fa : FA) : FE := fun s => (fo s).bind fun o s1 => if tyD s1 o = some T then (fa s1).bind fun ds s2 => match g s2 o ds with | some (d, s3) => .ok d s3 | none => .bad else .bad
def tDM (X : Cx) (T : String) (r : V → List V → Hp → VK → Prop) (to : TE) (t : TA) : TE := fun σ H Q => to σ H fun x H1 => (∀ (pins : List (Addr × Obj)) (s : Shared) (u : Value), Inv X pins σ H1 s → RelV x u → s.TypeIs u T ∧ ∀ a, u = .ref a → ∃ ob, s.heap.get? a = some ob ∧ ob.dict = none) ∧ t σ H1 fun xs H2 => r x xs H2 Q
section
variable {X : Cx} {o e : Expr} {es : List Expr} {name : Str} {apos cpos : Pos} {T id : String}
theorem pe_dm0 {to : TE} {r : V → List V → Hp → VK → Prop} (pa : PlainAttrs T) (slot : PySem.Slot T name id) (hty : typeOf (.builtin id) = pure (.type "method_descriptor")) (hm : MtM X id r) (ho : PE X o to)
    (hbase : attributeBase o name X.env (eval o X.env) = eval o X.env := by rfl) (hline : (apos.endLine == cpos.line) = true := by rfl) : PE X (.Call (.Attribute o name apos) [] [] cpos) (tDM X T r to tNil) := by
  refine ⟨fun pins s σ H Q I h => ?_⟩
  refine wpAny_Call_method0_late hbase hline (thn (ho.run pins s σ H _ I h) fun v s1 ⟨x, H1, I1, r1, ty, q1⟩ => ?_)
  obtain ⟨h1, h2⟩ := ty pins s1 v I1 r1
  exact ⟨T, id, pa, slot, hty, h1, h2, Calls.callWith_builtin rfl (PySem.evalArgs_none (hm pins s1 σ H1 x [] v [] Q I1 r1 .nil q1))⟩
theorem pe_dm {to : TE} {t : TA} {r : V → List V → Hp → VK → Prop} (pa : PlainAttrs T) (slot : PySem.Slot T name id) (hty : typeOf (.builtin id) = pure (.type "method_descriptor")) (hm : MtM X id r) (ho : PE X o to) (ha : PA X (e :: es) t)
    (hbase : attributeBase o name X.env (eval o X.env) = eval o X.env := by rfl)
    (hfew : ((backTo cpos (starEach (e :: es) X.env)).all (fun x => !x.1) && (backToKw cpos (keywordEach [] X.env)).all (fun x => x.1.isSome)
      && decide ((e :: es).length + ([] : List Keyword).length + (if ([] : List Keyword).isEmpty then 0 else 1) < 30)) = true := by rfl)
    (hline : (apos.endLine == cpos.line) = true := by rfl) (hs : starEach (e :: es) X.env = (false, eval e X.env) :: starEach es X.env := by rfl) (hplain : (backTo cpos (starEach es X.env)).any (·.1) = false := by rfl) :
    PE X (.Call (.Attribute o name apos) (e :: es) [] cpos) (tDM X T r to t) := by
  refine ⟨fun pins s σ H Q I h => ?_⟩
  refine wpAny_Call_method_late hbase hfew hline rfl (thn (ho.run pins s σ H _ I h) fun v s1 ⟨x, H1, I1, r1, ty, q1⟩ => ?_)
  obtain ⟨h1, h2⟩ := ty pins s1 v I1 r1
  refine ⟨T, id, pa, slot, hty, h1, h2, ?_⟩
  have hA := ha.run cpos pins s1 σ H1 _ I1 q1
  rw [hs] at hA ⊢
  refine Calls.callWith_builtin (by show (false || (backTo cpos (starEach es X.env)).any (·.1)) = false; rw [hplain] <;> rfl) (Calls.evalArgs_plain ?_)
  exact thn hA fun us s2 ⟨vs, H2, I2, r2, q2⟩ => hm pins s2 σ H2 x vs v us Q I2 r1 r2 q2
theorem dm_core {fo : FE} {fa : FA} {g : S → D → List D → Option (D × S)} {to : TE} {t : TA} {W : WX} {H0 : Hp} {α0 : List Addr} (hT : T = "list" ∨ T = "dict" ∨ T = "str" ∨ T = "int")
    (qo : ∀ H0 α0 σ H α s Q, Rel X.K H0 α0 H α σ s → PostE X.K H0 α0 σ W H α Q (fo s) → to σ H Q) (qa : ∀ H0 α0 σ H α s Q, Rel X.K H0 α0 H α σ s → PostA X.K H0 α0 σ W H α Q (fa s) → t σ H Q)
    {σ : Sg} {H : Hp} {α : List Addr} {s : S} {Q : VK} (r : Rel X.K H0 α0 H α σ s) (q : PostE X.K H0 α0 σ W H α Q (dM T g fo fa s)) : tDM X T (rMB X.K g) to t σ H Q := by
  refine qo H0 α0 σ H α s _ r ?_
  unfold dM at q
  cases eo : fo s with
  | bad => rw [eo] at q; exact q.elim
  | exc e s1 => rw [eo] at q; exact q
  | ok o s1 =>
    rw [eo] at q
    intro x H1 α1 r1 t1 rx
    simp only [Res.bind] at q
    split at q
    · rename_i hty
      refine ⟨fun pins s u I ru => typ_d I r1 rx ru hty hT, ?_⟩
      refine qa H0 α0 σ H1 α1 s1 _ r1 ?_
      cases ea : fa s1 with
      | bad => rw [ea] at q; exact q.elim
      | exc e s2 => rw [ea] at q; exact q
      | ok ds s2 =>
        rw [ea] at q
        intro vs H2 α2 r2 t2 rv
        simp only at q
        split at q
        · rename_i d s3 eg
          exact ⟨H0, σ, α0, α2, s2, o, ds, d, s3, r2, rx.stay t2, rv, eg, fun w H' α' r' t' rx' => q w H' α' r' ((t1.trans t2).trans t') rx'⟩
        · exact q.elim
    · exact q.elim
theorem pd_m {fo : FE} {fa : FA} {g : S → D → List D → Option (D × S)} (hT : T = "list" ∨ T = "dict" ∨ T = "str" ∨ T = "int") (pa : PlainAttrs T) (slot : PySem.Slot T name id) (hty : typeOf (.builtin id) = pure (.type "method_descriptor")) (hm : MB X id g) (ho : PED X o fo) (ha : PAD X (e :: es) fa)
    (hbase : attributeBase o name X.env (eval o X.env) = eval o X.env := by rfl)
    (hfew : ((backTo cpos (starEach (e :: es) X.env)).all (fun x => !x.1) && (backToKw cpos (keywordEach [] X.env)).all (fun x => x.1.isSome)
      && decide ((e :: es).length + ([] : List Keyword).length + (if ([] : List Keyword).isEmpty then 0 else 1) < 30)) = true := by rfl)
    (hline : (apos.endLine == cpos.line) = true := by rfl) (hs : starEach (e :: es) X.env = (false, eval e X.env) :: starEach es X.env := by rfl) (hplain : (backTo cpos (starEach es X.env)).any (·.1) = false := by rfl) :
    PED X (.Call (.Attribute o name apos) (e :: es) [] cpos) (dM T g fo fa) := by
  refine ⟨fun W tk => ?_⟩
  obtain ⟨to, po, qo⟩ := ho.run W tk
  obtain ⟨t, p, qa⟩ := ha.run W tk
  exact ⟨_, pe_dm pa slot hty hm.mt po p hbase hfew hline hs hplain, fun H0 α0 σ H α s Q r q => dm_core hT qo qa r q⟩
theorem pd_m0 {fo : FE} {g : S → D → List D → Option (D × S)} (hT : T = "list" ∨ T = "dict" ∨ T = "str" ∨ T = "int") (pa : PlainAttrs T) (slot : PySem.Slot T name id) (hty : typeOf (.builtin id) = pure (.type "method_descriptor")) (hm : MB X id g) (ho : PED X o fo)
    (hbase : attributeBase o name X.env (eval o X.env) = eval o X.env := by rfl) (hline : (apos.endLine == cpos.line) = true := by rfl) : PED X (.Call (.Attribute o name apos) [] [] cpos) (dM T g fo dNil) := by
  refine ⟨fun W tk => ?_⟩
  obtain ⟨to, po, qo⟩ := ho.run W tk
  exact ⟨_, pe_dm0 pa slot hty hm.mt po hbase hline, fun H0 α0 σ H α s Q r q => dm_core hT qo (t := tNil) (W := W) (fa := dNil) (fun H0 α0 σ H α s Q r (q : PostA X.K H0 α0 σ W H α Q (.ok [] s)) => q [] H α r (Stay.refl _ _) .nil) r q⟩
/-! the list's methods -/
def gAppend : S → D → List D → Option (D × S) := fun s o ds => match ds, mutAt s o with
  | [d], some (.lst xs) => if noOwn d && decide (xs.length < 16777216) then some (.non, setAt s o (.lst (xs ++ [d]))) else none
  | _, _ => none
theorem mb_append : MB X "list.append" gAppend := .of mt_append fun H0 α0 σ H α s xv xs o ds d s' Q r rx rxs e q => by
  unfold gAppend at e
  split at e
  · rename_i x ys em
    split at e
    · rename_i hc
      cases e
      rw [Bool.and_eq_true, decide_eq_true_eq, ← sizeLine_eq] at hc
      obtain ⟨w, rfl, rw⟩ := rxs.one
      obtain ⟨a, rfl, hcell, k⟩ := mut_at r rx em
      obtain ⟨vs, hv, rr⟩ := hcell
      obtain ⟨k1, t⟩ := mut_upd (α := α) (o := .lst (vs ++ [w])) hv (fun z => z)
      exact ⟨a, vs, w, rfl, rfl, hv, by rw [rr.length]; exact hc.2, q .non _ α (k _ _ k1 t ⟨_, upd_same, (Rvs.stay t _ _ rr).append (.single (Rv.stay t _ _ (noOwn_rv rw hc.1)))⟩) t ox_non⟩
    · cases e
  · cases e
theorem pd_append {fo : FE} {fa : FA} (ho : PED X o fo) (ha : PAD X (e :: es) fa) (hbase : attributeBase o "append" X.env (eval o X.env) = eval o X.env := by rfl)
    (hfew : ((backTo cpos (starEach (e :: es) X.env)).all (fun x => !x.1) && (backToKw cpos (keywordEach [] X.env)).all (fun x => x.1.isSome)
      && decide ((e :: es).length + ([] : List Keyword).length + (if ([] : List Keyword).isEmpty then 0 else 1) < 30)) = true := by rfl)
    (hline : (apos.endLine == cpos.line) = true := by rfl) (hs : starEach (e :: es) X.env = (false, eval e X.env) :: starEach es X.env := by rfl) (hplain : (backTo cpos (starEach es X.env)).any (·.1) = false := by rfl) :
    PED X (.Call (.Attribute o "append" apos) (e :: es) [] cpos) (dM "list" gAppend fo fa) := pd_m (.inl rfl) F.plainAttrs_list F.slot_list_append F.type_list_append mb_append ho ha hbase hfew hline hs hplain
def gPop0 : S → D → List D → Option (D × S) := fun s o ds => match ds, mutAt s o with
  | [], some (.lst xs) => xs.getLast?.map fun d => (d, setAt s o (.lst xs.dropLast))
  | _, _ => none
theorem Rvs.dropLast {K : PySem.W.Frag} {H : Hp} {α : List Addr} {ds : List D} {vs : List V} (h : Rvs K H α ds vs) : Rvs K H α ds.dropLast vs.dropLast := by
  rw [List.dropLast_eq_take, List.dropLast_eq_take, h.length]
  exact h.take _
theorem mb_pop0 : MB X "list.pop" gPop0 := .of mt_pop fun H0 α0 σ H α s xv xs o ds d s' Q r rx rxs e q => by
  unfold gPop0 at e
  split at e
  · rename_i ys em
    simp only [Option.map_eq_some_iff, Prod.mk.injEq] at e
    obtain ⟨d', e, rfl, rfl⟩ := e
    cases rxs
    obtain ⟨a, rfl, hcell, k⟩ := mut_at r rx em
    obtain ⟨vs, hv, rr⟩ := hcell
    rw [List.getLast?_eq_getElem?] at e
    obtain ⟨w, ew, rw⟩ := rr.at_ e
    obtain ⟨k1, t⟩ := mut_upd (α := α) (o := .lst vs.dropLast) hv (fun z => z)
    exact ⟨a, vs, w, rfl, rfl, hv, by rw [rr.length]; exact ew, q w _ α (k _ _ k1 t ⟨_, upd_same, (Rvs.stay t _ _ rr).dropLast⟩) t (Rv.x (Rv.stay t _ _ rw))⟩
  · cases e
/-! o[i] = e -/
def gSetI : S → D → D → D → Option S := fun s o i d => match i, mutAt s o with
  | .int k, some (.lst xs) => (ixN xs.length k).map fun j => setAt s o (.lst (xs.set j d))
  | _, _ => none
def SetS (X : Cx) (r : TSet) (g : S → D → D → D → Option S) : Prop :=
  ∀ (H0 : Hp) (α0 : List Addr) (σ : Sg) (H : Hp) (α : List Addr) (s : S) (x y v : V) (a b d : D) (s' : S) (Q : Hp → Prop), Rel X.K H0 α0 H α σ s → Rx X.K H α σ a x → Rx X.K H α σ b y → Rv X.K H α d v → g s a b d = some s' → (∀ H' α', Rel X.K H0 α0 H' α' σ s' → Stay H α H' α' → Q H') → r x y v H Q
theorem ss_list : SetS X rSetL gSetI := fun H0 α0 σ H α s x y v a b d s' Q r rx ry rv e q => by
  unfold gSetI at e
  split at e
  · rename_i k xs em
    simp only [Option.map_eq_some_iff] at e
    obtain ⟨j, ej, rfl⟩ := e
    obtain ⟨p, rfl, hcell, kk⟩ := mut_at r rx em
    obtain ⟨vs, hv, rr⟩ := hcell
    obtain ⟨k1, t⟩ := mut_upd (α := α) (o := .lst (vs.set j v)) hv (fun z => z)
    rw [rx_int ry]
    exact ⟨p, vs, k, j, rfl, rfl, hv, by rw [rr.length]; exact ej, q _ α (kk _ _ k1 t ⟨_, upd_same, (Rvs.stay t _ _ rr).set (Rv.stay t _ _ rv) j⟩) t⟩
  · cases e
def dSetI (g : S → D → D → D → Option S) (fe fo fi : FE) : FS := fun s => match fe s with
  | .ok d s1 => if noOwn d then (match ((fo s1).bind fun o s2 => (fi s2).bind fun i s3 => match g s3 o i d with | some s4 => Res.ok () s4 | none => Res.bad) with
    | .ok _ s4 => .nx s4
    | .exc e s1 => .exc e s1
    | .bad => .bad) else .bad
  | .exc e s1 => .exc e s1
  | .bad => .bad
theorem sd_setI {a b : Expr} {st : Stmt} {r : TSet} {g : S → D → D → D → Option S} {tpos : Pos} {fe fo fi : FE} (hp : ∀ te t, PE X e te → PG X (.Subscript a b tpos) t → PS X st (tAsg te t)) (hr : PSet X r) (hs : SetS X r g) (he : PED X e fe) (ho : PED X a fo) (hi : PED X b fi)
    (ha : ∀ v, assign (.Subscript a b tpos) X.env v = (do
      let ov ← holding [v] (eval a X.env)
      let iv ← holding [v, ov] (eval b X.env)
      standAt tpos
      holding [v, ov, iv] (setItem ov iv v)
      release [v, ov, iv] []) := by intro _; rfl) : PSD X st (dSetI g fe fo fi) := by
  refine ⟨fun W tk => ?_⟩
  obtain ⟨te, pe, qe⟩ := he.run W tk
  obtain ⟨to, po, qo⟩ := ho.run W tk
  obtain ⟨ti, pi, qi⟩ := hi.run W tk
  refine ⟨_, hp te _ pe (pg_sub po pi hr ha), fun H0 α0 σ H α s D rl k => qe H0 α0 σ H α s _ rl ?_⟩
  unfold dSetI at k
  cases ee : fe s with
  | bad => rw [ee] at k; exact k.elim
  | exc e s1 => rw [ee] at k; exact fun cls dd H' α' r' x => k cls dd σ H' α' r' x
  | ok d s1 =>
    rw [ee] at k
    simp only at k
    intro v H1 α1 r1 t1 rv
    split at k
    · rename_i hn
      refine qo H0 α0 σ H1 α1 s1 _ r1 ?_
      cases eo : fo s1 with
      | bad => rw [eo] at k; exact k.elim
      | exc e s2 => rw [eo] at k; exact fun cls dd H' α' r' x => k cls dd σ H' α' r' x
      | ok o s2 =>
        rw [eo] at k
        intro x H2 α2 r2 t2 rx
        refine qi H0 α0 σ H2 α2 s2 _ r2 ?_
        simp only [Res.bind] at k
        cases ei : fi s2 with
        | bad => rw [ei] at k; exact k.elim
        | exc e s3 => rw [ei] at k; exact fun cls dd H' α' r' x => k cls dd σ H' α' r' x
        | ok i s3 =>
          rw [ei] at k
          intro y H3 α3 r3 t3 ry
          simp only at k
          cases eg : g s3 o i d with
          | none => rw [eg] at k; exact k.elim
          | some s4 =>
            rw [eg] at k
            exact hs H0 α0 σ H3 α3 s3 x y v o i d s4 _ r3 (rx.stay t3) ry (Rv.stay (t2.trans t3) _ _ (noOwn_rv rv hn)) eg fun H' α' r' t' => k σ H' α' r' (((t1.trans t2).trans t3).trans t')
    · exact k.elim
end
end DL

namespace DL
open PySem PySem.Spec PyProof.Rows L2
variable [DLX]
/-! ### 28. Chains, minus, turned around, times -/
def dChain (g g' : S → D → D → Option D) (fa fb fc : FE) : FE := fun s => (fa s).bind fun a s1 => (fb s1).bind fun b s2 => match g s2 a b with
  | some (.bl true) => (fc s2).bind fun c s3 => (match g' s3 b c with | some d => .ok d s3 | none => .bad)
  | some (.bl false) => .ok (.bl false) s2
  | _ => .bad
def dChainT (g g' : S → D → D → Option D) (fa fb fc : FE) : FT := fun s => match dChain g g' fa fb fc s with | .ok (.bl b) s1 => .ok b s1 | .exc e s1 => .exc e s1 | _ => .bad
def rOpS (K : PySem.W.Frag) (g : S → D → D → Option D) (r : R2) : R2 := r
section
variable {X : Cx}
theorem chain_core {r r' : R2} {g g' : S → D → D → Option D} {fa fb fc : FE} {ta tb tc : TE} {W : WX} (hs : OpS X r g) (hs' : OpS X r' g')
    (qa : ∀ H0 α0 σ H α s Q, Rel X.K H0 α0 H α σ s → PostE X.K H0 α0 σ W H α Q (fa s) → ta σ H Q) (qb : ∀ H0 α0 σ H α s Q, Rel X.K H0 α0 H α σ s → PostE X.K H0 α0 σ W H α Q (fb s) → tb σ H Q)
    (qc : ∀ H0 α0 σ H α s Q, Rel X.K H0 α0 H α σ s → PostE X.K H0 α0 σ W H α Q (fc s) → tc σ H Q) {H0 : Hp} {α0 : List Addr} {σ : Sg} {H : Hp} {α : List Addr} {s : S} {Q : VK} (r0 : Rel X.K H0 α0 H α σ s)
    (q : PostE X.K H0 α0 σ W H α Q (dChain g g' fa fb fc s)) : tChain (fun x y H Q => r x y H fun v H1 => Gh H1 (Q v)) (fun x y H Q => r' x y H fun v H1 => Gh H1 (Q v)) ta tb tc σ H Q := by
  unfold dChain at q
  refine two_run (a := .Constant .none 0 default) (b := .Constant .none 0 default) (W := W) qa qb r0 q fun u w x y s2 H2 α2 r2 t2 rx ry q2 => ?_
  split at q2
  · rename_i eg
    refine hs H0 α0 σ H2 α2 s2 x y u w _ _ r2 rx ry eg fun v H3 α3 r3 t3 rv => ?_
    rw [rx_bl rv]
    refine ⟨true, rfl, ?_⟩
    rw [if_pos rfl]
    refine qc H0 α0 σ H3 α3 s2 _ r3 ?_
    cases ec : fc s2 with
    | bad => rw [ec] at q2; exact q2.elim
    | exc e s4 => rw [ec] at q2; exact q2
    | ok c s4 =>
      rw [ec] at q2
      intro z H4 α4 r4 t4 rz
      simp only [Res.bind] at q2
      cases eg2 : g' s4 w c with
      | none => rw [eg2] at q2; exact q2.elim
      | some d =>
        rw [eg2] at q2
        exact hs' H0 α0 σ H4 α4 s4 y z w c d _ r4 (ry.stay (t3.trans t4)) rz eg2 fun v H' α' r' t' rv => q2 v H' α' r' (((t2.trans t3).trans t4).trans t') rv
  · rename_i eg
    refine hs H0 α0 σ H2 α2 s2 x y u w _ _ r2 rx ry eg fun v H3 α3 r3 t3 rv => ?_
    rw [rx_bl rv]
    refine ⟨false, rfl, ?_⟩
    rw [if_neg Bool.false_ne_true]
    exact q2 _ H3 α3 r3 (t2.trans t3) ox_bl
  · exact q2.elim
theorem pd_chain {op op' : CmpOp} {a b c : Expr} {pos : Pos} {g g' : S → D → D → Option D} {fa fb fc : FE} (h1 : Cmp X op g) (h2 : Cmp X op' g') (ha : PED X a fa) (hb : PED X b fb) (hc : PED X c fc)
    (hm : lastMarks [op, op'] [b, c] = false := by with_unfolding_all rfl) : PED X (.Compare a [op, op'] [b, c] pos) (dChain g g' fa fb fc) := by
  obtain ⟨r, o1, s1⟩ := h1.ex
  obtain ⟨r', o2, s2⟩ := h2.ex
  refine ⟨fun W tk => ?_⟩
  obtain ⟨ta, pa, qa⟩ := ha.run W tk
  obtain ⟨tb, pb, qb⟩ := hb.run W tk
  obtain ⟨tc, pc, qc⟩ := hc.run W tk
  exact ⟨_, pe_chain (opGh o1) (opGh o2) pa pb pc hm, fun H0 α0 σ H α s Q r q => chain_core s1 s2 qa qb qc r q⟩
theorem pt_chain {op op' : CmpOp} {a b c : Expr} {pos : Pos} {g g' : S → D → D → Option D} {fa fb fc : FE} (h1 : Cmp X op g) (h2 : Cmp X op' g') (ha : PED X a fa) (hb : PED X b fb) (hc : PED X c fc)
    (hm : lastMarks [op, op'] [b, c] = false := by with_unfolding_all rfl) : PTD X (.Compare a [op, op'] [b, c] pos) (dChainT g g' fa fb fc) := by
  obtain ⟨r, o1, s1⟩ := h1.ex
  obtain ⟨r', o2, s2⟩ := h2.ex
  refine ⟨fun W tk => ?_⟩
  obtain ⟨ta, pa, qa⟩ := ha.run W tk
  obtain ⟨tb, pb, qb⟩ := hb.run W tk
  obtain ⟨tc, pc, qc⟩ := hc.run W tk
  refine ⟨_, L2.pt_chain (opGh o1) (opGh o2) pa pb pc hm, fun H0 α0 σ H α s Q r q => chain_core s1 s2 qa qb qc r ?_⟩
  unfold dChainT at q
  cases e : dChain g g' fa fb fc s with
  | bad => rw [e] at q; exact q.elim
  | exc x s1 => rw [e] at q; exact q
  | ok d s1 =>
    rw [e] at q
    cases d <;> try exact q.elim
    intro v H' α' r' t' rv
    rw [rx_bl rv]
    exact ⟨_, rfl, q H' α' r' t'⟩
/-! -e -/
def dNeg (fa : FE) : FE := fun s => (fa s).bind fun a s1 => match a with | .int i => .ok (.int (-i)) s1 | _ => .bad
theorem pd_neg {a : Expr} {pos : Pos} {fa : FE} (ha : PED X a fa) : PED X (.UnaryOp .USub a pos) (dNeg fa) := by
  refine ⟨fun W tk => ?_⟩
  obtain ⟨t, p, q⟩ := ha.run W tk
  refine ⟨_, pe_un un_neg p, fun H0 α0 σ H α s Q r k => q H0 α0 σ H α s _ r ?_⟩
  unfold dNeg at k
  cases ea : fa s with
  | bad => rw [ea] at k; exact k.elim
  | exc e s1 => rw [ea] at k; exact k
  | ok d s1 =>
    rw [ea] at k
    simp only [Res.bind] at k
    intro v H1 α1 r1 t1 rv
    cases d <;> simp only at k <;> try exact k.elim
    rw [rx_int rv]
    exact ⟨_, rfl, k _ H1 α1 r1 t1 ox_int⟩
end
/-! t[::-1] -/
theorem rev_places (n : Nat) : Builtin.Slice.slicePlaces ((n : Int) - 1) (-1) (-1) = n := by
  unfold Builtin.Slice.slicePlaces
  rw [if_neg (by decide)]
  by_cases h : (n : Int) - 1 > -1
  · rw [if_pos h, show (- -1 : Int) = 1 from rfl, Int.ediv_one]
    omega
  · rw [if_neg h]
    omega
theorem fm_congr {α β : Type} {f g : α → Option β} : ∀ {l : List α}, (∀ x ∈ l, f x = g x) → l.filterMap f = l.filterMap g
  | [], _ => rfl
  | x :: l, h => by rw [List.filterMap_cons, List.filterMap_cons, h x (by simp), fm_congr fun y hy => h y (by simp [hy])]
theorem rev_pick (xs : Array Value) : ((List.range xs.size).filterMap fun (m : Nat) => xs[((xs.size : Int) - 1 + (m : Int) * (-1)).toNat]?).toArray = xs.toList.reverse.toArray := by
  congr 1
  have e : ∀ m ∈ List.range xs.size, xs[((xs.size : Int) - 1 + (m : Int) * (-1)).toNat]? = (fun i => xs[i]?) (xs.size - 1 - m) := fun m hm => by
    have := List.mem_range.mp hm
    show xs[_]? = xs[_]?
    congr 1
    omega
  rw [fm_congr e]
  have := PySem.W.krv_range xs.size
  have e2 : (List.range xs.size).filterMap (fun m => (fun i => xs[i]?) (xs.size - 1 - m)) = ((List.range xs.size).map (fun k => xs.size - 1 - k)).filterMap (fun i => xs[i]?) := by
    rw [List.filterMap_map]
    rfl
  rw [e2, this, List.filterMap_reverse, PySem.W.krv_all]
theorem applied_rev {prog : Program} {w : World} {A : Around} {E : Value → Shared → Prop} {s : Shared} {sl : Addr} {vl vu vs : Value} {n : Nat} {Q : Int × Int × Nat → Shared → Prop} (hs : s.heap.IsSliceOf sl vl vu vs) (pl : IsPart vl none) (pu : IsPart vu none) (ps : IsPart vs (some (-1)))
    (h : Q ((n : Int) - 1, -1, n) s) : wpAny (model prog w) A (Builtin.Slice.sliceApplied (.ref sl) (pure (n : Int))) Q E s := by
  obtain ⟨os, hos, hcs, hds⟩ := id hs
  unfold Builtin.Slice.sliceApplied Builtin.Slice.sliceFields
  refine wpAny_bind (wpAny_bind (wpAny_field hos hds (x := vl) rfl (wpAny_bind (wpAny_field hos hds (x := vu) rfl (wpAny_bind (wpAny_field hos hds (x := vs) rfl (wpAny_pure ?_)))))))
  refine wpAny_bind (HT.slicePart_ ps ?_)
  show wpAny _ _ (if ((-1 : Int) == 0) = true then _ else _) _ _ s
  rw [if_neg (by decide)]
  refine wpAny_bind (HT.slicePart_ pl (wpAny_bind (HT.slicePart_ pu (wpAny_bind (wpAny_pure ?_)))))
  show wpAny _ _ (match Builtin.Slice.sliceAdjust none none (-1) (n : Int) with | (lo, hi) => pure (lo, (-1 : Int), Builtin.Slice.slicePlaces lo hi (-1))) _ _ s
  show wpAny _ _ (pure ((n : Int) - 1, (-1 : Int), Builtin.Slice.slicePlaces ((n : Int) - 1) (-1) (-1))) _ _ s
  rw [rev_places]
  exact wpAny_pure h
theorem getItem_tuple_rev {prog : Program} {w : World} {A : Around} {E : Value → Shared → Prop} {s : Shared} {t sl : Addr} {items : Array Value} {vl vu vs : Value} {Q : Value → Shared → Prop} (ht : IsTup s.heap t items) (hs : s.heap.IsSliceOf sl vl vu vs) (pl : IsPart vl none) (pu : IsPart vu none) (ps : IsPart vs (some (-1)))
    (h : Q (.ref s.heap.objs.size) { s with heap := s.heap.push { cls := .type "tuple", data := .seq items.toList.reverse.toArray } }) (hsz : items.size ≤ sizeLine) : wpAny (model prog w) A (getItem (.ref t) (.ref sl)) Q E s := by
  have htake : sizeOk (.seq items.toList.reverse.toArray) := by
    show items.toList.reverse.toArray.size ≤ sizeLine
    simpa using hsz
  obtain ⟨os, hos, hcs, hds⟩ := id hs
  have hTs : s.TypeIs (.ref sl) "slice" := ⟨os, hos, hcs⟩
  unfold getItem
  try with_reducible refine wpAny_holding ?_
  first | refine wpAny_bind (wpAny_pure ?_) | skip
  refine wpAny_bind (wpAny_sequenceKey ht.typeIs (by decide) ?_)
  refine wpAny_bind (wpAny_callSpecial?_slot (name := Str.ofString "__getitem__") ht.typeIs PyProof.Rows.slot_tuple_getitem
    (wpAny_call_entry PyProof.Rows.slot_tuple_getitem ht.typeIs entry_tuple_getitem ?_ (args_tuple_getitem _ _)))
  show wpAny _ _ (Builtin.Tuple.tupleItemsOf (.ref t) >>= _) _ _ s
  refine wpAny_bind (tupleItemsOf_ ht ?_)
  refine wpAny_bind (wpAny_typeOf hTs ?_)
  rw [if_pos (by decide)]
  refine wpAny_bind (applied_rev hs pl pu ps ?_)
  have hno : ¬ ((((items.size : Nat) : Int) - 1 == 0 && (-1 : Int) == 1 && items.size == items.size) = true) := by
    rw [show ((-1 : Int) == 1) = false from rfl, Bool.and_false, Bool.false_and]
    exact Bool.false_ne_true
  show wpAny _ _ (if ((((items.size : Nat) : Int) - 1 == 0 && (-1 : Int) == 1 && items.size == items.size)) = true then _ else _) _ _ s
  rw [if_neg hno, rev_pick]
  first
    | exact wpAny_bind (m := Builtin.Tuple.tupleExact _) (wpAny_newObj_type (wpAny_pure ⟨_, rfl, wpAny_pure h⟩) htake)
    | exact wpAny_bind (m := Builtin.Tuple.tupleExact _) (wpAny_newObj_type (wpAny_bind (wpAny_pure (wpAny_pure ⟨_, rfl, wpAny_pure h⟩))) htake)
    | exact wpAny_bind (wpAny_bind (m := Builtin.Tuple.tupleExact _) (wpAny_newObj_type (wpAny_pure (wpAny_pure ⟨_, rfl, wpAny_pure h⟩)) htake))
    | exact wpAny_bind (wpAny_bind (m := Builtin.Tuple.tupleExact _) (wpAny_newObj_type (wpAny_pure ⟨_, rfl, wpAny_pure h⟩) htake))
def tRevB (K : PySem.W.Frag) (te : TE) : TE := fun σ H Q => te σ H fun x H1 => ∃ a xs, x = .ref a ∧ ((SqL K H1 a xs ∧ ∀ p, H1 p = none → Q (.ref p) (upd H1 p (.lst xs.reverse))) ∨ (SqT K H1 a xs ∧ ∀ p, H1 p = none → Q (.ref p) (upd H1 p (.tup xs.reverse))))
def dRev (fa : FE) : FE := fun s => (fa s).bind fun a s1 => match a with
  | .tup xs => .ok (.tup xs.reverse) s1
  | a => match asL s1 a with | some xs => .ok (.lst xs.reverse) s1 | none => .bad
theorem Rvs.reverse {K : PySem.W.Frag} {H : Hp} {α : List Addr} : ∀ {ds : List D} {vs : List V}, Rvs K H α ds vs → Rvs K H α ds.reverse vs.reverse
  | [], _, h => by simp only [Rvs] at h; subst h; simp [Rvs]
  | d :: ds, l, h => by
    simp only [Rvs] at h
    obtain ⟨v, r, rfl, h1, h2⟩ := h
    rw [List.reverse_cons, List.reverse_cons]
    exact (Rvs.reverse h2).append (.single h1)
section
variable {X : Cx}
theorem pe_revB {e : Expr} {te : TE} {k : Nat} {p1 p2 p3 pos : Pos} (he : PE X e te) : PE X (.Subscript e (.Slice none none (some (.UnaryOp .USub (.Constant (.int 1) k p1) p2)) p3) pos) (tRevB X.K te) := by
  refine ⟨fun pins s σ H Q I h => ?_⟩
  refine Subscript_ (thn (he.run pins s σ H _ I h) fun v s1 ⟨x, H1, I1, r1, q1⟩ => ?_)
  obtain ⟨a, xs, rfl, q⟩ := q1
  cases r1
  have hst : PO X (some (.UnaryOp .USub (.Constant (.int 1) k p1) p2)) (tPart (tUn (rU fun i => .int (-i)) (tC (.int 1)))) := po_some (pe_un un_neg pe_int)
  refine wpAny_Slice (thn (po_none.run pins s1 σ H1 (fun o H2 => o = none ∧ H2 = H1) I1 ⟨rfl, rfl⟩) fun vl s2 ⟨l, H2, I2, pl, el, e2⟩ => ?_)
  subst el e2
  refine thn (po_none.run pins s2 σ H2 (fun o H3 => o = none ∧ H3 = H2) I2 ⟨rfl, rfl⟩) fun vu s3 ⟨u, H3, I3, pu, eu, e3⟩ => ?_
  subst eu e3
  refine thn (hst.run pins s3 σ H3 (fun o H4 => o = some (-1) ∧ H4 = H3) I3 ⟨1, rfl, -1, rfl, rfl, rfl⟩) fun vs s4 ⟨o, H4, I4, ps, eo, e4⟩ => ?_
  subst eo e4
  have I5 : Inv X pins σ H4 { s4 with heap := s4.heap.push { cls := .type "slice", data := .fields #[vl, vu, vs] } } := I4.kept (t' := s4.toks) fun b ob q => Heap.get?_push_of_some _ q
  show wpAny (model X.prog X.w) X.A (subscriptTail e (.Slice none none (some (.UnaryOp .USub (.Constant (.int 1) k p1) p2)) p3) (.ref a) (.ref s4.heap.objs.size)) (EP X pins σ Q) X.xe { s4 with heap := s4.heap.push { cls := .type "slice", data := .fields #[vl, vu, vs] } }
  rcases q with ⟨hx, q⟩ | ⟨hx, q⟩
  · obtain ⟨its, r, ht, hz⟩ := I5.list hx
    have hlen := r.length
    refine tail_any (ops := [.ref a, .ref s4.heap.objs.size]) ht.isList.typeIs (PySem.slot_list_getitem.lookup) ?_ (by with_unfolding_all rfl)
    refine wpAny_getItem_list_slice ht.isList (Heap.IsSliceOf.new _ vl vu vs) pl pu ps (by decide) ?_ (by rw [List.size_toArray]; omega)
    rw [PySem.W.krv_pick]
    refine ⟨.ref _, _, I5.laid (t' := s4.toks) (o := .lst xs.reverse) (fun b ob q => Heap.get?_push_of_some _ q) (Nat.le_refl _) ?_, rfl, q _ (I5.hok.fresh (Nat.le_refl _))⟩
    exact ⟨by rw [List.length_reverse]; exact hz, _, 0, r.reverse, Heap.get?_push_size _ rfl⟩
  · obtain ⟨its, r, ht, hz⟩ := I5.tuple hx
    have hlen := r.length
    refine tail_any (ops := [.ref a, .ref s4.heap.objs.size]) ht.typeIs (PyProof.Rows.slot_tuple_getitem.lookup) ?_ (by with_unfolding_all rfl)
    refine getItem_tuple_rev ht (Heap.IsSliceOf.new _ vl vu vs) pl pu ps ?_ (by rw [List.size_toArray]; omega)
    refine ⟨.ref _, _, I5.laid (t' := s4.toks) (o := .tup xs.reverse) (fun b ob q => Heap.get?_push_of_some _ q) (Nat.le_refl _) ?_, rfl, q _ (I5.hok.fresh (Nat.le_refl _))⟩
    exact ⟨by rw [List.length_reverse]; exact hz, _, r.reverse, IsTup.new _ _⟩
theorem pd_rev {e : Expr} {fa : FE} {k : Nat} {p1 p2 p3 pos : Pos} (ha : PED X e fa) : PED X (.Subscript e (.Slice none none (some (.UnaryOp .USub (.Constant (.int 1) k p1) p2)) p3) pos) (dRev fa) := by
  refine ⟨fun W tk => ?_⟩
  obtain ⟨t, p, q⟩ := ha.run W tk
  refine ⟨_, peGh (pe_revB p), fun H0 α0 σ H α s Q r k => q H0 α0 σ H α s _ r ?_⟩
  unfold dRev at k
  cases ea : fa s with
  | bad => rw [ea] at k; exact k.elim
  | exc e s1 => rw [ea] at k; exact k
  | ok d s1 =>
    rw [ea] at k
    simp only [Res.bind] at k
    intro v H1 α1 r1 t1 rv
    split at k
    · obtain ⟨a, vs, rfl, h1, rr⟩ := asT_ok rv
      exact ⟨a, vs, rfl, .inr ⟨h1, fun p hp => .inl (new_tup r1 hp rr.reverse fun v H' α' r' t' rx => k v H' α' r' (t1.trans t') rx)⟩⟩
    · cases ex : asL s1 d with
      | none => rw [ex] at k; exact k.elim
      | some xs =>
        rw [ex] at k
        obtain ⟨a, vs, rfl, h1, rr⟩ := asL_ok r1 rv ex
        exact ⟨a, vs, rfl, .inl ⟨h1, fun p hp => gh_list r1 hp rr.reverse fun v H' α' r' t' rx => k v H' α' r' (t1.trans t') rx⟩⟩
end
/-! times -/
theorem tuple_mul_self (l : Addr) (items : Array Value) (n : Nat) (dd : Option Addr) (sl : Array (Option Value)) (x : Int) (u : Tok) (c0 : (decide (x < -(2 ^ 63)) || decide (x ≥ 2 ^ 63)) = false) (c1 : (items.isEmpty || x == 1) = true) :
    Meets (Builtin.«tuple.__mul__» ⟨[.ref l, .int x u], []⟩) (fun _ R s => s.heap.get? l = some { cls := .type "tuple", dict := dd, data := .seq items n, slots := sl } ∧ R (.ok (.ret (.ref l))) s) :=
  .of_wp fun prog w A R s h => by
    obtain ⟨hp, g, d, tk, os⟩ := s
    obtain ⟨hl, h⟩ := h
    have f1 := AutoSeq1.idx_int
    wp_walk using wpAny_loadPart' hl
    repeat (first
      | (refine wpAny_ite_false (decide_eq_false (by rw [c0]; exact Bool.false_ne_true)) ?_; wp_walk using wpAny_loadPart' hl)
      | (refine wpAny_ite_true (decide_eq_true (by rw [c1])) ?_; wp_walk using wpAny_loadPart' hl))
    exact ⟨_, rfl, h⟩
def rRepS (K : PySem.W.Frag) : R2 := fun x y H Q => ∃ l k xs, x = .ref l ∧ y = .int k ∧ SqT K H l xs ∧ (xs = [] ∨ k = 1) ∧ -(2 ^ 63) ≤ k ∧ k < 2 ^ 63 ∧ Q (.ref l) H
section
variable {X : Cx}
theorem op_repS : OpR X (binaryOp .Mult) (rRepS X.K) := by
  intro pins s σ H x y v u Q I rx ry h
  obtain ⟨l, k, xs, rfl, rfl, hT, hne, h1, h2, q⟩ := h
  cases rx
  obtain ⟨t, rfl⟩ := ry
  obtain ⟨its, r, ⟨⟨cls, dd, data, sl⟩, ho, hc, n, hd⟩, hs⟩ := I.tuple hT
  simp only at hc hd
  subst hc hd
  have hle : its.length = xs.length := r.length.symm
  have c0 : (decide (k < -(2 ^ 63)) || decide (k ≥ 2 ^ 63)) = false := by
    rw [decide_eq_false (by omega), decide_eq_false (by omega)] <;> rfl
  have c1 : (its.toArray.isEmpty || k == 1) = true := by
    rcases hne with rfl | rfl
    · cases its with
      | nil => rfl
      | cons a b => simp at hle
    · simp
  exact wpAny_binaryOp_repeat_ref (T := "tuple") (U := "int") (by decide) ⟨_, ho, rfl⟩ (fun s' => typeIs_int s' k t) noFill_tuple_mul F.fills_int_mul F.slot_int_rmul repeat_tuple F.slot_int_index.lookup
    (call_meets F.slot_int_rmul (typeIs_int s k t) F.entry_int_rmul (F.args_int_rmul_2 _ _) (int_rmul_tuple k t l its.toArray n dd sl)
      ⟨ho, rfl, ⟨_, ho, rfl⟩, call_meets F.slot_tuple_mul ⟨_, ho, rfl⟩ F.entry_tuple_mul (F.args_tuple_mul_2 _ _) (tuple_mul_self l its.toArray n dd sl k t c0 c1) ⟨ho, ⟨.ref l, H, I, rfl, q⟩⟩⟩)
end
theorem tuple_mul_nil (l : Addr) (items : Array Value) (n : Nat) (dd : Option Addr) (sl : Array (Option Value)) (x : Int) (u : Tok) (c0 : (decide (x < -(2 ^ 63)) || decide (x ≥ 2 ^ 63)) = false) (c1 : (items.isEmpty || x == 1) = false) (c2 : (decide (x ≤ 0) || items.isEmpty) = true) :
    Meets (Builtin.«tuple.__mul__» ⟨[.ref l, .int x u], []⟩) (fun _ R s => s.heap.get? l = some { cls := .type "tuple", dict := dd, data := .seq items n, slots := sl } ∧
      R (.ok (.ret (Value.ref s.heap.objs.size))) { s with heap := s.heap.push { cls := Value.type "tuple", data := Data.seq #[] }, toks := s.toks }) :=
  .of_wp fun prog w A R s h => by
    obtain ⟨hp, g, d, tk, os⟩ := s
    obtain ⟨hl, h⟩ := h
    have f1 := AutoSeq1.idx_int
    wp_walk using wpAny_loadPart' hl
    repeat (first
      | (refine wpAny_ite_false (decide_eq_false (by rw [c0]; exact Bool.false_ne_true)) ?_; wp_walk using wpAny_loadPart' hl)
      | (refine wpAny_ite_false (decide_eq_false (by rw [c1]; exact Bool.false_ne_true)) ?_; wp_walk using wpAny_loadPart' hl)
      | (refine wpAny_ite_true (decide_eq_true (by rw [c2])) ?_; wp_walk using wpAny_loadPart' hl)
      | (refine wpAny_ite_false (decide_eq_false (by simp)) ?_; wp_walk using wpAny_loadPart' hl))
    exact ⟨_, rfl, h⟩
def rRepN (K : PySem.W.Frag) : R2 := fun x y H Q => ∃ l k xs, x = .ref l ∧ y = .int k ∧ SqT K H l xs ∧ xs ≠ [] ∧ k ≤ 0 ∧ -(2 ^ 63) ≤ k ∧ ∀ p, H p = none → Q (.ref p) (upd H p (.tup []))
section
variable {X : Cx}
theorem op_repN : OpR X (binaryOp .Mult) (rRepN X.K) := by
  intro pins s σ H x y v u Q I rx ry h
  obtain ⟨l, k, xs, rfl, rfl, hT, hne, h1, h2, q⟩ := h
  cases rx
  obtain ⟨t, rfl⟩ := ry
  obtain ⟨its, r, ⟨⟨cls, dd, data, sl⟩, ho, hc, n, hd⟩, hs⟩ := I.tuple hT
  simp only at hc hd
  subst hc hd
  have hle : its.length = xs.length := r.length.symm
  have hn : its ≠ [] := fun e => hne (by
    rw [e] at hle
    exact List.eq_nil_of_length_eq_zero hle.symm)
  have hi : its.toArray.isEmpty = false := by
    cases its with
    | nil => exact absurd rfl hn
    | cons a b => rfl
  have c0 : (decide (k < -(2 ^ 63)) || decide (k ≥ 2 ^ 63)) = false := by
    rw [decide_eq_false (by omega), decide_eq_false (by omega)] <;> rfl
  have c1 : (its.toArray.isEmpty || k == 1) = false := by
    rw [hi, Bool.false_or]
    exact beq_eq_false_iff_ne.mpr (by omega)
  have c2 : (decide (k ≤ 0) || its.toArray.isEmpty) = true := by
    rw [decide_eq_true h1]; rfl
  refine wpAny_binaryOp_repeat_ref (T := "tuple") (U := "int") (by decide) ⟨_, ho, rfl⟩ (fun s' => typeIs_int s' k t) noFill_tuple_mul F.fills_int_mul F.slot_int_rmul repeat_tuple F.slot_int_index.lookup
    (call_meets F.slot_int_rmul (typeIs_int s k t) F.entry_int_rmul (F.args_int_rmul_2 _ _) (int_rmul_tuple k t l its.toArray n dd sl)
      ⟨ho, rfl, ⟨_, ho, rfl⟩, call_meets F.slot_tuple_mul ⟨_, ho, rfl⟩ F.entry_tuple_mul (F.args_tuple_mul_2 _ _) (tuple_mul_nil l its.toArray n dd sl k t c0 c1 c2) ⟨ho, ?_⟩⟩)
  refine ⟨.ref s.heap.objs.size, _, I.laid (t' := s.toks) (o := .tup []) (fun b ob q => Heap.get?_push_of_some _ q) (Nat.le_refl _) ?_, rfl, q _ (I.hok.fresh (Nat.le_refl _))⟩
  exact ⟨by simp, [], .nil, IsTup.new _ _⟩
end
section
variable {X : Cx}
def gMul : S → D → D → Option D := fun s a b => match a, b with
  | .int i, .int j => if mulOk i j then some (.int (i * j)) else none
  | .tup xs, .int k => if xs.isEmpty || k == 1 then (if decide (-(2 ^ 63) ≤ k) && decide (k < 2 ^ 63) then some (.tup xs) else none)
    else if decide (2 ≤ k) && decide (k ≤ 1000) && decide (xs.length ≤ 1000) then some (.tup (List.replicate k.toNat xs).flatten)
    else if decide (k ≤ 0) && decide (-(2 ^ 63) ≤ k) then some (.tup []) else none
  | _, _ => none
theorem Rvs.rep {K : PySem.W.Frag} {H : Hp} {α : List Addr} {ds : List D} {vs : List V} (h : Rvs K H α ds vs) : ∀ n : Nat, Rvs K H α (List.replicate n ds).flatten (List.replicate n vs).flatten
  | 0 => by simp [Rvs]
  | n + 1 => by
    rw [List.replicate_succ, List.replicate_succ, List.flatten_cons, List.flatten_cons]
    exact h.append (Rvs.rep h n)
def rMul3 (K : PySem.W.Frag) : R2 := fun x y H Q => rI (fun i j => mulOk i j = true) (fun i j => .int (i * j)) x y H Q ∨ rRepT K x y H Q ∨ rRepS K x y H Q ∨ rRepN K x y H Q
theorem op_mul3 : OpR X (binaryOp .Mult) (rMul3 X.K) := op_mulY.or (OpR.or (r := rRepT X.K) op_repT (OpR.or (r := rRepS X.K) op_repS op_repN))
theorem os_mul : OpS X (rMul3 X.K) gMul := fun H0 α0 σ H α s x y a b d Q r rx ry e q => by
  unfold gMul at e
  split at e
  · split at e
    · rename_i hc
      cases e
      rw [rx_int rx, rx_int ry]
      exact .inl ⟨_, _, rfl, rfl, hc, .inl (q _ _ _ r (Stay.refl _ _) ox_int)⟩
    · cases e
  · rename_i xs k
    obtain ⟨p, vs, rfl, h1, r1⟩ := asT_ok rx
    rw [rx_int ry]
    split at e
    · rename_i h2
      split at e
      · rename_i h3
        cases e
        rw [Bool.and_eq_true, decide_eq_true_eq, decide_eq_true_eq] at h3
        refine .inr (.inr (.inl ⟨p, k, vs, rfl, rfl, h1, ?_, h3.1, h3.2, .inl (q _ _ _ r (Stay.refl _ _) rx)⟩))
        rw [Bool.or_eq_true, List.isEmpty_iff] at h2
        rcases h2 with h2 | h2
        · exact .inl (r1.nil_iff.mpr h2)
        · exact .inr (by simpa using h2)
      · cases e
    · rename_i h2
      split at e
      · rename_i h3
        cases e
        simp only [Bool.and_eq_true, decide_eq_true_eq] at h3
        refine .inr (.inl ⟨p, k, vs, rfl, rfl, h1, fun z => ?_, h3.1.1, h3.1.2, by rw [r1.length]; exact h3.2, fun l hl => .inl (new_tup r hl (r1.rep _) q)⟩)
        have := r1.nil_iff.mp z
        subst this
        simp at h2
      · rename_i h4
        split at e
        · rename_i h3
          cases e
          simp only [Bool.and_eq_true, decide_eq_true_eq] at h3
          refine .inr (.inr (.inr ⟨p, k, vs, rfl, rfl, h1, fun z => ?_, h3.1, h3.2, fun l hl => .inl (new_tup r hl (by simp only [Rvs]) q)⟩))
          have := r1.nil_iff.mp z
          subst this
          simp at h2
        · cases e
  · cases e
theorem pd_mul {a b : Expr} {pos : Pos} {fa fb : FE} (ha : PED X a fa) (hb : PED X b fb) : PED X (.BinOp a .Mult b pos) (dOp gMul fa fb) := pd_op op_mul3 os_mul ha hb
end
/-! a fresh list times an int -/
theorem Rel.pinF {K : PySem.W.Frag} {H0 H : Hp} {α0 α : List Addr} {σ : Sg} {s : S} {a : Addr} {c : Cell} {o : HO} (r : Rel K H0 α0 H α σ s) (h : RF K H0 H α σ s a c) (ho : H a = some o) (nf : ¬ Fixed o) : Rel K (upd H0 a o) α0 H α σ s ∧ a ∉ α0 ∧ H0 a = none := by
  obtain ⟨h1, h2, h3, h4⟩ := h
  have n0 : a ∉ α0 := fun z => h2 (r.st.pre.subset z)
  refine ⟨⟨r.cells, ⟨r.slots.len, r.slots.val, fun i c e => ?_, r.slots.inj⟩, fun b u e m => ?_, fun b hb => ?_, ⟨fun b u e f => ?_, r.st.pre, fun b e => ?_⟩⟩, n0, h3⟩
  · obtain ⟨b, e1, e2, e3, e4⟩ := r.slots.own i c e
    refine ⟨b, e1, e2, ?_, e4⟩
    rw [upd_ne]
    · exact e3
    · rintro rfl
      exact h4 i c e e1
  · by_cases z : b = a
    · subst z
      rw [upd_same] at e
      rw [← e]
      exact ho
    · rw [upd_ne z] at e
      exact r.ot b u e m
  · rcases r.nw b hb with z | z
    · exact .inl z
    · refine .inr ?_
      rw [upd_ne]
      · exact z
      · rintro rfl
        exact h2 hb
  · by_cases z : b = a
    · subst z
      rw [upd_same] at e
      cases e
      exact (nf f).elim
    · rw [upd_ne z] at e
      exact r.st.im b u e f
  · by_cases z : b = a
    · subst z
      rw [ho] at e
      cases e
    · rw [upd_ne z]
      exact r.st.dom b e
def repD (c : Cell) (b : D) : Option (List D) := match c, b with
  | .lst xs, .int k => if decide (-(2 ^ 63) ≤ k) && decide (k < 2 ^ 63) && decide (xs.length * k.toNat ≤ 16777216) then some (List.replicate k.toNat xs).flatten else none
  | _, _ => none
def dRepF (fa : FC) (fb : FE) : FC := fun s => (fa s).bind fun c s1 => (fb s1).bind fun b s2 => match repD c b with | some ys => .ok (.lst ys) s2 | none => .bad
section
variable {X : Cx}
theorem pf_rep {a b : Expr} {pos : Pos} {fa : FC} {fb : FE} (ha : PFD X a fa) (hb : PED X b fb) : PFD X (.BinOp a .Mult b pos) (dRepF fa fb) := by
  refine ⟨fun W tk => ?_⟩
  obtain ⟨t, p, q⟩ := ha.run W tk
  obtain ⟨tb, pb, qb⟩ := hb.run W tk
  refine ⟨_, pe_op op_rep p pb, fun H0 α0 σ H α s Q r k => q H0 α0 σ H α s _ r ?_⟩
  unfold dRepF at k
  cases ea : fa s with
  | bad => rw [ea] at k; exact k.elim
  | exc e s1 => rw [ea] at k; exact k
  | ok c s1 =>
    rw [ea] at k
    intro l H1 α1 r1 t1 rf
    have k : PostF X.K H0 α0 σ W H α Q ((fb s1).bind fun b s2 => match repD c b with | some ys => .ok (.lst ys) s2 | none => .bad) := k
    have fin : ∀ (o : HO), H1 l = some o → ¬ Fixed o → (∀ H' α', Stay H1 α1 H' α' → H' l = some o → CellOk X.K H' α' l c) → tb σ H1 fun y H2 => rRep (.ref l) y H2 Q := fun o ho nf hcell => by
      obtain ⟨rp, n0, h0⟩ := r1.pinF rf ho nf
      refine qb _ α0 σ H1 α1 s1 _ rp ?_
      cases eb : fb s1 with
      | bad => rw [eb] at k; exact k.elim
      | exc e s2 => rw [eb] at k; exact fun cls dd H' α' r' x => k cls dd H' α' (r'.unpin h0) x
      | ok b s2 =>
        rw [eb] at k
        simp only [Res.bind] at k
        intro y H2 α2 r2 t2 ry
        have hl := r2.pinned n0
        cases er : repD c b with
        | none => rw [er] at k; exact k.elim
        | some ys =>
          rw [er] at k
          unfold repD at er
          split at er
          · rename_i xs kk
            split at er
            · rename_i hk
              cases er
              simp only [Bool.and_eq_true, decide_eq_true_eq] at hk
              obtain ⟨vs, hv, rr⟩ := hcell H2 α2 t2 hl
              rw [rx_int ry]
              refine ⟨l, kk, vs, rfl, rfl, hv, hk.1.1, hk.1.2, by rw [rr.length, sizeLine_eq]; exact hk.2, fun p hp => ?_⟩
              exact new_lst (r2.unpin h0) hp (rr.rep _) fun a H' α' r' t' rf' => k a H' α' r' ((t1.trans t2).trans t') rf'
            · cases er
          · cases er
    cases c with
    | lst xs =>
      obtain ⟨vs, hv, rr⟩ := rf.1
      exact fin _ hv (fun z => z) fun H' α' t h => ⟨vs, h, Rvs.stay t _ _ rr⟩
    | dct kvs =>
      rcases rf.1 with ⟨kv, hv, rr⟩ | ⟨kv, nn, hv, rr⟩
      · exact fin _ hv (fun z => z) fun H' α' t h => .inl ⟨kv, h, Rkv.stay t _ _ rr⟩
      · exact fin _ hv (fun z => z) fun H' α' t h => .inr ⟨kv, nn, h, RkT.stay t _ _ rr⟩
    | ins C fs =>
      obtain ⟨dx, vs, hv, rr⟩ := rf.1
      exact fin _ hv (fun z => z) fun H' α' t h => ⟨dx, vs, h, Rfs.stay t _ _ rr⟩
    | tab n =>
      refine qb _ α0 σ H1 α1 s1 _ r1 ?_
      cases eb : fb s1 with
      | bad => rw [eb] at k; exact k.elim
      | exc e s2 => rw [eb] at k; exact k
      | ok b s2 => rw [eb] at k; simp only [Res.bind, repD] at k; exact k.elim
    | dead =>
      obtain ⟨o, ho⟩ := rf.1
      refine qb _ α0 σ H1 α1 s1 _ r1 ?_
      cases eb : fb s1 with
      | bad => rw [eb] at k; exact k.elim
      | exc e s2 => rw [eb] at k; exact k
      | ok b s2 => rw [eb] at k; simp only [Res.bind, repD] at k; exact k.elim
end
end DL

namespace DL
open PySem PySem.Spec PyProof.Rows L2
variable [DLX]
/-! ### 29. Built-ins that give a fresh thing -/
def BIF (X : Cx) (f : Value) (g : S → List D → Option Cell) : Prop :=
  ∀ (pins : List (Addr × Obj)) (s : Shared) (σ0 : Sg) (H : Hp) (xs : List V) (us : List Value) (Q : VK) (H0 : Hp) (σ : Sg) (α0 α : List Addr) (st : S) (ds : List D) (c : Cell), Inv X pins σ0 H s → Rel X.K H0 α0 H α σ st → Rxs X.K H α σ ds xs → Vals xs us → g st ds = some c →
    (∀ a H' α', Rel X.K H0 α0 H' α' σ st → Stay H α H' α' → RF X.K H0 H' α' σ st a c → Q (.ref a) H') → wpAny (model X.prog X.w) X.A (call f us) (EP X pins σ0 Q) X.xe s
def rBIF (K : PySem.W.Frag) (g : S → List D → Option Cell) : List V → Hp → VK → Prop := fun xs H Q => ∃ H0 σ α0 α st ds c, Rel K H0 α0 H α σ st ∧ Rxs K H α σ ds xs ∧ g st ds = some c ∧ ∀ a H' α', Rel K H0 α0 H' α' σ st → Stay H α H' α' → RF K H0 H' α' σ st a c → Q (.ref a) H'
theorem BIF.call {X : Cx} {f : Value} {g : S → List D → Option Cell} (h : BIF X f g) : CallR X f (rBIF X.K g) := fun pins s σ0 H xs us Q I rv ⟨H0, σ, α0, α, st, ds, d, rl, rx, eg, q⟩ => h pins s σ0 H xs us Q H0 σ α0 α st ds d I rl rx rv eg q
theorem BIF.of {X : Cx} {f : Value} {r : List V → Hp → VK → Prop} {g : S → List D → Option Cell} (hc : CallR X f r)
    (h : ∀ (H0 : Hp) (α0 : List Addr) (σ : Sg) (H : Hp) (α : List Addr) (s : S) (xs : List V) (ds : List D) (c : Cell) (Q : VK), Rel X.K H0 α0 H α σ s → Rxs X.K H α σ ds xs → g s ds = some c →
      (∀ a H' α', Rel X.K H0 α0 H' α' σ s → Stay H α H' α' → RF X.K H0 H' α' σ s a c → Q (.ref a) H') → r xs H Q) : BIF X f g :=
  fun pins s σ0 H xs us Q H0 σ α0 α st ds d I rl rx rv eg q => hc pins s σ0 H xs us Q I rv (h H0 α0 σ H α st xs ds d Q rl rx eg q)
theorem BIF.or {X : Cx} {f : Value} {g g' : S → List D → Option Cell} (h : BIF X f g) (h' : BIF X f g') : BIF X f (fun s ds => (g s ds).or (g' s ds)) := fun pins s σ0 H xs us Q H0 σ α0 α st ds d I rl rx rv eg q => by
  dsimp only at eg
  cases e : g st ds with
  | some d' =>
    rw [e] at eg
    obtain rfl : d' = d := Option.some.inj eg
    exact h pins s σ0 H xs us Q H0 σ α0 α st ds d' I rl rx rv e q
  | none =>
    rw [e] at eg
    have eg : g' st ds = some d := eg
    exact h' pins s σ0 H xs us Q H0 σ α0 α st ds d I rl rx rv eg q
def dBF (g : S → List D → Option Cell) (fa : FA) : FC := fun s => (fa s).bind fun ds s1 => match g s1 ds with | some d => .ok d s1 | none => .bad
section
variable {X : Cx} {x : Str} {p pos : Pos} {e : Expr} {es : List Expr} {fa : FA} {g : S → List D → Option Cell} {id T : String}
theorem bif_core {t : TA} {W : WX} {H0 : Hp} {α0 : List Addr} (qa : ∀ H0 α0 σ H α s Q, Rel X.K H0 α0 H α σ s → PostA X.K H0 α0 σ W H α Q (fa s) → t σ H Q) {σ : Sg} {H : Hp} {α : List Addr} {s : S} {Q : VK} (r : Rel X.K H0 α0 H α σ s) (q : PostF X.K H0 α0 σ W H α Q (dBF g fa s)) : tCB (rBIF X.K g) t σ H Q := by
  refine qa H0 α0 σ H α s _ r ?_
  unfold dBF at q
  cases ea : fa s with
  | bad => rw [ea] at q; exact q.elim
  | exc e s1 => rw [ea] at q; exact q
  | ok ds s1 =>
    rw [ea] at q
    intro vs H1 α1 r1 t1 rv
    simp only [Res.bind] at q
    split at q
    · rename_i d eg
      exact ⟨H0, σ, α0, α1, s1, ds, d, r1, rv, eg, fun a H' α' r' t' rx => q a H' α' r' (t1.trans t') rx⟩
    · exact q.elim
theorem pf_b (hc : BIF X (.builtin id) g) (hg : Gl X x) (hm : X.mg x = none) (hv : bootBuiltins x = some (.builtin id)) (ha : PAD X (e :: es) fa) (hn : x ≠ "__name__" := by decide) (hdb : (x == ("__debug__" : Str)) = false := by decide)
    (he : starEach (e :: es) X.env = (false, eval e X.env) :: starEach es X.env := by rfl) (hpl : (backTo pos (starEach es X.env)).any (·.1) = false := by rfl) : PFD X (.Call (.Name x p) (e :: es) [] pos) (dBF g fa) := by
  refine ⟨fun W tk => ?_⟩
  obtain ⟨t, pa, qa⟩ := ha.run W tk
  exact ⟨_, pe_callB hc.call hg hm hv pa hn hdb he hpl, fun H0 α0 σ H α s Q r q => bif_core qa r q⟩
theorem pf_ty (hc : BIF X (.type T) g) (hg : Gl X x) (hm : X.mg x = none) (hv : bootBuiltins x = some (.type T)) (ha : PAD X (e :: es) fa) (hn : x ≠ "__name__" := by decide) (hdb : (x == ("__debug__" : Str)) = false := by decide)
    (he : starEach (e :: es) X.env = (false, eval e X.env) :: starEach es X.env := by rfl) (hpl : (backTo pos (starEach es X.env)).any (·.1) = false := by rfl) : PFD X (.Call (.Name x p) (e :: es) [] pos) (dBF g fa) := by
  refine ⟨fun W tk => ?_⟩
  obtain ⟨t, pa, qa⟩ := ha.run W tk
  exact ⟨_, pe_callTy hc.call hg hm hv pa hn hdb he hpl, fun H0 α0 σ H α s Q r q => bif_core qa r q⟩
/-- list(x) of a list, a tuple -/
def gList : S → List D → Option Cell := fun s ds => match ds with | [d] => (asSeq s d).map .lst | _ => none
theorem bif_list : BIF X (.type "list") gList := .of L2.call_list_of fun H0 α0 σ H α s xs ds c Q r rx e q => by
  unfold gList at e
  split at e
  · obtain ⟨v, rfl, rv⟩ := rx.one
    simp only [Option.map_eq_some_iff] at e
    obtain ⟨ys, e, rfl⟩ := e
    obtain ⟨a, vs, rfl, hs, rr⟩ := asSeq_ok r rv e
    exact ⟨a, vs, rfl, hs, fun l hl => new_lst r hl rr q⟩
  · cases e
/-! min, max of a list of ints -/
def minD : List Int → Option D | [] => none | n :: ns => some (.int (ns.foldl min n))
def maxD : List Int → Option D | [] => none | n :: ns => some (.int (ns.foldl max n))
def gMin : S → List D → Option D := fun s ds => match ds with | [d] => (asL s d).bind fun xs => (intsD xs).bind minD | _ => none
def gMax : S → List D → Option D := fun s ds => match ds with | [d] => (asL s d).bind fun xs => (intsD xs).bind maxD | _ => none
theorem foldl_min_le : ∀ (ns : List Int) (n : Int), ns.foldl min n ≤ n ∧ (∀ y ∈ ns, ns.foldl min n ≤ y) ∧ (ns.foldl min n = n ∨ ns.foldl min n ∈ ns)
  | [], n => ⟨Int.le_refl _, by simp, .inl rfl⟩
  | m :: ns, n => by
    obtain ⟨h1, h2, h3⟩ := foldl_min_le ns (min n m)
    rw [List.foldl_cons]
    refine ⟨by omega, fun y hy => ?_, ?_⟩
    · rcases List.mem_cons.mp hy with rfl | hy
      · omega
      · exact h2 y hy
    · rcases h3 with h3 | h3
      · by_cases e : n ≤ m
        · exact .inl (by rw [h3]; omega)
        · exact .inr (by rw [h3, show min n m = m from by omega]; simp)
      · exact .inr (List.mem_cons_of_mem _ h3)
theorem foldl_max_le : ∀ (ns : List Int) (n : Int), n ≤ ns.foldl max n ∧ (∀ y ∈ ns, y ≤ ns.foldl max n) ∧ (ns.foldl max n = n ∨ ns.foldl max n ∈ ns)
  | [], n => ⟨Int.le_refl _, by simp, .inl rfl⟩
  | m :: ns, n => by
    obtain ⟨h1, h2, h3⟩ := foldl_max_le ns (max n m)
    rw [List.foldl_cons]
    refine ⟨by omega, fun y hy => ?_, ?_⟩
    · rcases List.mem_cons.mp hy with rfl | hy
      · omega
      · exact h2 y hy
    · rcases h3 with h3 | h3
      · by_cases e : m ≤ n
        · exact .inl (by rw [h3]; omega)
        · exact .inr (by rw [h3, show max n m = m from by omega]; simp)
      · exact .inr (List.mem_cons_of_mem _ h3)
theorem bi_min (hc : X.calm = true) : BI X (.builtin "min") gMin := .of (L2.cr_min hc) fun H0 α0 σ H α s xs ds d Q r rx e q => by
  unfold gMin at e
  split at e
  · obtain ⟨v, rfl, rv⟩ := rx.one
    simp only [Option.bind_eq_some_iff] at e
    obtain ⟨ys, e1, ns, e2, e3⟩ := e
    obtain ⟨a, vs, rfl, hs, rr⟩ := asL_ok r rv e1
    obtain rfl := rvs_ints ys e2 rr
    cases ns with
    | nil => cases e3
    | cons n ns =>
      cases e3
      refine ⟨a, n :: ns, rfl, hs, by simp, fun m hm hle => ?_⟩
      obtain ⟨h1, h2, h3⟩ := foldl_min_le ns n
      have : m = ns.foldl min n := by
        have a1 : m ≤ ns.foldl min n := hle _ (by rcases h3 with h3 | h3; · rw [h3]; simp
                                                  · exact List.mem_cons_of_mem _ h3)
        have a2 : ns.foldl min n ≤ m := by
          rcases List.mem_cons.mp hm with rfl | hm
          · exact h1
          · exact h2 m hm
        omega
      subst this
      exact .inl (q _ _ _ r (Stay.refl _ _) ox_int)
  · cases e
theorem bi_max (hc : X.calm = true) : BI X (.builtin "max") gMax := .of (L2.cr_max hc) fun H0 α0 σ H α s xs ds d Q r rx e q => by
  unfold gMax at e
  split at e
  · obtain ⟨v, rfl, rv⟩ := rx.one
    simp only [Option.bind_eq_some_iff] at e
    obtain ⟨ys, e1, ns, e2, e3⟩ := e
    obtain ⟨a, vs, rfl, hs, rr⟩ := asL_ok r rv e1
    obtain rfl := rvs_ints ys e2 rr
    cases ns with
    | nil => cases e3
    | cons n ns =>
      cases e3
      refine ⟨a, n :: ns, rfl, hs, by simp, fun m hm hle => ?_⟩
      obtain ⟨h1, h2, h3⟩ := foldl_max_le ns n
      have : m = ns.foldl max n := by
        have a1 : ns.foldl max n ≤ m := hle _ (by rcases h3 with h3 | h3; · rw [h3]; simp
                                                  · exact List.mem_cons_of_mem _ h3)
        have a2 : m ≤ ns.foldl max n := by
          rcases List.mem_cons.mp hm with rfl | hm
          · exact h1
          · exact h2 m hm
        omega
      subst this
      exact .inl (q _ _ _ r (Stay.refl _ _) ox_int)
  · cases e
/-! {} -/
def dEmp : FC := fun s => .ok (.dct []) s
theorem pf_emp {pos : Pos} : PFD X (.Dict [] [] pos) dEmp := ⟨fun W tk => ⟨_, pe_dnewK, fun H0 α0 σ H α s Q r q p hp => by
  have t : Stay H α (upd H p (.dK [])) α := Stay.upd_new hp
  refine q p _ α (r.new hp) t ⟨.inl ⟨[], upd_same, by simp only [Rkv]⟩, r.nota hp, r.free0 hp, fun i c' h1 h2 => ?_⟩
  obtain ⟨a, e1, _, _, e2⟩ := r.slots.own i c' h1
  rw [h2] at e1
  cases e1
  obtain ⟨o, e3⟩ := e2.some
  rw [hp] at e3
  cases e3⟩⟩
/-! sorted(xs) by what data says -/
def encD (d : D) : PyData := match toPy d with | some p => p | none => .none
def sortOk (ps : List PyData) : Bool := ps.all (fun p => ps.all fun q => PySem.W.alike p q) && (ps.all (fun p => match p with | .tuple (_ :: _) => true | _ => false) || ps.all (fun p => match p with | .tuple _ => false | .none => false | _ => true)) && ps.all (fun p => decide (p.depth ≤ 60))
def gSorted : S → List D → Option Cell := fun s ds => match ds with
  | [d] => (asL s d).bind fun xs => (toPyL xs).bind fun ps => if sortOk ps && decide (xs.length ≤ 16777216) then some (.lst (xs.mergeSort (PySem.W.dataLe false encD))) else none
  | _ => none
theorem toPyL_map : ∀ {xs : List D} {ps : List PyData}, toPyL xs = some ps → ps = xs.map encD
  | [], ps, h => by simp only [toPyL, Option.some.injEq] at h; subst h; rfl
  | x :: xs, ps, h => by
    unfold toPyL at h
    split at h
    · rename_i y ys h1 h2
      cases h
      rw [List.map_cons, ← toPyL_map h2]
      unfold encD
      rw [h1]
    · cases h
theorem each_of {K : PySem.W.Frag} {H : Hp} {α : List Addr} : ∀ {xs : List D} {vs : List V} {us : List Value}, Rvs K H α xs vs → Vals vs us → PySem.W.EachIs (fun u d => ∃ v, RelV v u ∧ Rv K H α d v) us xs
  | [], vs, us, h, r => by
    simp only [Rvs] at h
    subst h
    cases r
    exact .nil
  | d :: ds, vs, us, h, r => by
    simp only [Rvs] at h
    obtain ⟨v, l, rfl, h1, h2⟩ := h
    cases r with
    | cons a b => exact .cons ⟨v, a, h1⟩ (each_of h2 b)
theorem of_each {K : PySem.W.Frag} {H : Hp} {α : List Addr} : ∀ {xs : List D} {us : List Value}, PySem.W.EachIs (fun u d => ∃ v, RelV v u ∧ Rv K H α d v) us xs → ∃ vs, Rvs K H α xs vs ∧ Vals vs us
  | _, _, .nil => ⟨[], .nil, .nil⟩
  | _, _, .cons ⟨v, a, b⟩ t => by
    obtain ⟨vs, h1, h2⟩ := of_each t
    exact ⟨v :: vs, .cons b h1, .cons a h2⟩
theorem each_reads {h : Heap} : ∀ {xs : List D} {us : List Value} {as : List Addr}, ReadsAll h us (xs.map encD) as → PySem.W.EachIs (fun v b => ∃ as, Reads h v (encD b) as) us xs := fun h => PySem.W.readsAll_each encD h
theorem bif_sorted (hu : X.A.units + 65 < cLine) : BIF X (.builtin "sorted") gSorted := by
  intro pins s σ0 H xs us Q H0 σ α0 α st ds c I rl rx rv eg q
  unfold gSorted at eg
  split at eg
  · simp only [Option.bind_eq_some_iff] at eg
    obtain ⟨ys, e1, ps, e2, e3⟩ := eg
    split at e3
    · rename_i hc
      cases e3
      rw [Bool.and_eq_true, decide_eq_true_eq] at hc
      obtain ⟨hs, hl⟩ := hc
      obtain ⟨v, rfl, rx1⟩ := rx.one
      obtain ⟨u, rfl, rv1⟩ := vals1 rv
      obtain ⟨a, vs, rfl, hq, rr⟩ := asL_ok rl rx1 e1
      cases (show u = Value.ref a from rv1)
      obtain ⟨its, rv2, pl, hz⟩ := I.list hq
      obtain ⟨as, rd, _⟩ := readsL_ok I ys vs its ps rr rv2 e2
      have ep := toPyL_map e2
      subst ep
      unfold sortOk at hs
      simp only [Bool.and_eq_true, Bool.or_eq_true, List.all_eq_true, decide_eq_true_eq] at hs
      obtain ⟨⟨h1, h2⟩, h3⟩ := hs
      refine PySem.W.sorted_data (β := D) (enc := encD) (bs := ys) pl.isList (each_of rr rv2) (each_reads rd) (fun d hd d' hd' => h1 d hd d' hd') ?_ (by rw [sizeLine_eq]; exact hl) (fun b hb => ?_) fun out hlen hout => ?_
      · rcases h2 with h2 | h2
        · refine .inl fun d hd => ?_
          have := h2 d hd
          split at this
          · exact ⟨_, _, rfl⟩
          · cases this
        · refine .inr fun d hd => ?_
          have := h2 d hd
          refine ⟨fun z => ?_, fun xs z => ?_⟩ <;> rw [z] at this <;> cases this
      · have := h3 _ (List.mem_map_of_mem hb)
        omega
      · obtain ⟨ws, r1, r2⟩ := of_each hout
        obtain ⟨ep, he'⟩ := PyProof.Rows.sortedAll_at s.heap its out.toArray
        have hlen2 : ws.length ≤ sizeLine := by rw [r1.length, List.length_mergeSort, sizeLine_eq]; exact hl
        have hn : H (s.heap.objs.size + 1) = none := I.hok.fresh (Nat.le_succ _)
        refine ⟨.ref _, upd H (s.heap.objs.size + 1) (.lst ws), I.laid (t' := s.toks) (fun _ _ => PyProof.Rows.sortedAll_old) (Nat.le_succ _) ⟨hlen2, out, ep, r2, he'⟩, rfl, ?_⟩
        exact new_lst rl hn r1 q
    · cases e3
  · cases eg
end
/-! set of ints, sorted at once -/
def gSortSet : S → D → Option (List Int) := fun s d => (asL s d).bind fun xs => (intsD xs).bind fun ns => if ns.length < 63 then some ns else none
end DL

namespace DL
open PySem PySem.Spec PyProof.Rows L2
variable [DLX]
open Builtin in
/-- the empty set's object -/
abbrev set0 (w : World) : Obj := { cls := .type "set", dict := none, data := .set #[] 0 (.fresh 0 0 (!w.params.followText "set-order")) }
/-- set(l), l a list of ints -/
theorem set_of_list {P : Program} {w : World} {A : Around} {E : Value → Shared → Prop} {s : Shared} {l : Addr} {items : Array Value} (ns : List Int) {Q : Value → Shared → Prop} (hh : A.handled = none) (hl : s.heap.IsList l items) (hit : IntsAre items.toList ns) (hb : ns.length + 1 < scanBound)
    (h : ∀ (h' : Heap) (tk c : Nat), SetR w h' s.heap.objs.size (fun j => decide (j ∈ ns)) c → c ≤ ns.length → (∀ b o, s.heap.get? b = some o → h'.get? b = some o) → Q (.ref s.heap.objs.size) { s with heap := h', toks := tk }) :
    wpAny (model P w) A (call (.type "set") [.ref l]) Q E s := by
  have hisz : items.size = ns.length := by
    have q := IntsAre.length hit
    rwa [Array.length_toList] at q
  obtain ⟨c, tl, hmro⟩ := F.called_set.mro
  have hmade := F.called_set.made
  have hsub := F.called_set.sub
  refine wpAny_call (codeAny_of_tree ?_)
  show wpAny _ _ (callAny (.type "set") _) _ _ _
  refine wpAny_pure ⟨Code.quiet_builtin _ (by decide +kernel), codeAny_builtin F.entry_type_call ?_⟩
  rw [Around.under_plain (weight_type_call_type "set" [.ref l] []) rfl]
  have h1 := F.called_set.notType
  have h2 := F.called_set.canCreate
  have hct := F.typeCall_set_1 (.ref l)
  repeat (any_goals (first | assumption | wp_step))
  refine codeAny_mono (code_set_led1 (.ref l) (E := E) (Q₁ := fun obj s₁ => obj = .ref s.heap.objs.size ∧ s₁ = { s with heap := s.heap.push (set0 w) }) ⟨rfl, rfl⟩) fun r s₁ hr => ?_
  cases r with
  | error e => exact hr
  | ok fl =>
    cases fl with
    | ret obj =>
      obtain ⟨rfl, rfl⟩ := hr
      have hS : (s.heap.push (set0 w)).get? s.heap.objs.size = some (set0 w) := Heap.get?_push_size _ rfl
      have hT : Shared.TypeIs { s with heap := s.heap.push (set0 w) } (.ref s.heap.objs.size) "set" := ⟨_, hS, rfl⟩
      have hli := F.called_set.init.lookup
      have hbi := F.called_set.init.bind (.ref s.heap.objs.size)
      repeat (any_goals (first | assumption | wp_step))
      refine codeAny_mono (codeAny_call_builtin (R := wants (fun r s₂ => r = .none ∧ ∃ h' tk c, s₂ = { s with heap := h', toks := tk } ∧ SetR w h' s.heap.objs.size (fun j => decide (j ∈ ns)) c ∧ c ≤ ns.length ∧
          (∀ b o, s.heap.get? b = some o → h'.get? b = some o)) E) F.called_set.init.plain F.entry_set_init (check_set_init_1 hT ?_)) fun r₂ s₂ hr₂ => ?_
      · obtain ⟨⟨ocls, odict, odata, oslots⟩, hol, hcl, nl, hdl⟩ := hl
        simp only at hcl hdl
        subst hcl hdl
        have hl1 : (s.heap.push (set0 w)).IsList l items := ⟨_, Heap.get?_push_of_some _ hol, rfl, nl, rfl⟩
        have hol' := hl1
        have hsls := F.sub_list_set
        have hslf := F.sub_list_frozenset
        have hne : (Value.type "list" == Value.type "dict") = false := by decide
        have hol2 : (s.heap.push (set0 w)).get? l = some { cls := .type "list", dict := odict, data := .seq items nl, slots := oslots } := Heap.get?_push_of_some _ hol
        unfold Builtin.«set.__init__» noKeywords Builtin.Frozenset.updateFrom
        generalize hPI : pyIter = PI
        wp_walk
        subst hPI
        refine wpAny_pyIter_list hl1 ?_
        refine wpAny_bind (wpAny_runValue ?_)
        have hlS : l < s.heap.objs.size := Heap.lt_size hol
        have hz1 : (s.heap.push (set0 w)).objs.size = s.heap.objs.size + 1 := Heap.size_push ..
        have hval : ∀ (i : Nat) (v : Value), items[i]? = some v → ∃ k t, ns[i]? = some k ∧ v = .int k t := fun i v hv => by
          have hi : i < ns.length := by rw [← hisz]; exact (Array.getElem?_eq_some_iff.mp hv).1
          obtain ⟨t, e⟩ := PyProof.Rows.IntsAre.int_at hit i v (by rw [Array.getElem?_toList]; exact hv)
          refine ⟨ns[i], t, List.getElem?_eq_getElem hi, ?_⟩
          rw [e, List.getD_eq_getElem?_getD, List.getElem?_eq_getElem hi] <;> rfl
        refine set_update_ints ((Walks.list (A := A.in1.in1.in1) (by simp [hh]) _ l (by rw [hz1]; exact nlt 1 hlS) items).toS) s.heap.objs.size
          (by rw [hz1]; intro z; rcases mem2 z with z | z; exact nad 0 1 (by decide) z; exact nlt 0 hlS z.symm) ns hisz hb hval (items.size - 0) 0 _ (by omega) (Nat.zero_le _)
          ⟨⟨_, Heap.get?_push_size _ rfl, rfl, rfl⟩, (hl1.push _)⟩ ⟨0, Nat.le_refl 0, setR_new_at (Heap.get?_push_of_some _ hS)⟩ ?_
        intro s' c' hm hc' hS'
        obtain ⟨h', g2, d', tk', os'⟩ := s'
        have eg : g2 = s.gens := hm.gens
        have ed : d' = s.drawn := hm.drawn
        have eo : os' = s.os := hm.os
        subst eg ed eo
        show wpAny _ _ _ _ _ _
        refine wpAny_pure ?_
        show wpAny _ _ (ret Value.none) _ _ _
        rw [hisz] at hc'
        refine wpAny_pure ⟨rfl, h', tk', c', rfl, hS', hc', fun b o e => ?_⟩
        have hb0 : b < s.heap.objs.size := Heap.lt_size e
        refine hm.heap b o (fun z => ?_) (Heap.get?_push_of_some _ (Heap.get?_push_of_some _ e))
        simp only [List.mem_cons, List.not_mem_nil, or_false] at z
        rcases z with z | z
        · exact nlt 0 hb0 z
        · rw [hz1] at z
          exact nlt 1 hb0 z
      · cases r₂ with
        | error e => exact hr₂
        | ok fl₂ =>
          cases fl₂ with
          | ret r =>
            obtain ⟨rfl, h', tk, c', rfl, hS', hc', hk'⟩ := hr₂
            repeat (any_goals (first | assumption | wp_step))
            exact h _ _ _ hS' hc' hk'
          | next => exact hr₂.elim
          | brk => exact hr₂.elim
          | cont => exact hr₂.elim
    | next => exact hr.elim
    | brk => exact hr.elim
    | cont => exact hr.elim
end DL

namespace DL
open PySem PySem.Spec PyProof.Rows L2
variable [DLX]
def rSetI (K : PySem.W.Frag) (w : World) : List V → Hp → VK → Prop := fun xs H Q => ∃ (l : Addr) (ns : List Int), xs = [.ref l] ∧ SqL K H l (ns.map V.int) ∧ ns.length < 63 ∧ ∀ p c, H p = none → c ≤ ns.length → Q (.ref p) (upd H p (SetO w p (fun j => decide (j ∈ ns)) c))
section
variable {X : Cx}
theorem cr_setI (hc : X.calm = true) : CallR X (.type "set") (rSetI X.K X.w) := by
  intro pins s σ H xs us Q I r h
  obtain ⟨l, ns, rfl, hq, hl, q⟩ := h
  rw [Vals.ref1 r]
  obtain ⟨its, rv, pl, hz⟩ := I.list hq
  refine set_of_list ns (I.ok.hd hc) pl.isList (by simpa using rv.ints) (by unfold scanBound; omega) fun h' tk c R hcn k => ?_
  exact ⟨.ref _, _, I.laid (t' := tk) k (Nat.le_refl _) (setO_new R), rfl, q _ c (I.hok.fresh (Nat.le_refl _)) hcn⟩
end
/-- the members, rising -/
def insU (k : Int) : List Int → List Int
  | [] => [k]
  | n :: ns => if k < n then k :: n :: ns else if k = n then n :: ns else n :: insU k ns
def sortU (ns : List Int) : List Int := ns.foldr insU []
theorem insU_mem {k j : Int} : ∀ {ns : List Int}, j ∈ insU k ns ↔ j = k ∨ j ∈ ns
  | [] => by simp [insU]
  | n :: ns => by
    unfold insU
    split
    · simp
    · split
      · rename_i h
        subst h
        simp
      · simp only [List.mem_cons, insU_mem]
        constructor
        · rintro (h | h | h) <;> simp [h]
        · rintro (h | h | h) <;> simp [h]
theorem insU_sorted {k : Int} : ∀ {ns : List Int}, ns.Pairwise (· < ·) → (insU k ns).Pairwise (· < ·)
  | [], _ => by simp [insU]
  | n :: ns, h => by
    rw [List.pairwise_cons] at h
    unfold insU
    split
    · rename_i hk
      rw [List.pairwise_cons]
      refine ⟨fun a ha => ?_, List.pairwise_cons.mpr h⟩
      rcases List.mem_cons.mp ha with rfl | ha
      · exact hk
      · have := h.1 a ha
        omega
    · split
      · exact List.pairwise_cons.mpr h
      · rename_i h1 h2
        rw [List.pairwise_cons]
        refine ⟨fun a ha => ?_, insU_sorted h.2⟩
        rcases insU_mem.mp ha with rfl | ha
        · omega
        · exact h.1 a ha
theorem sortU_mem {j : Int} : ∀ {ns : List Int}, j ∈ sortU ns ↔ j ∈ ns
  | [] => by simp [sortU]
  | n :: ns => by
    show j ∈ insU n (sortU ns) ↔ _
    rw [insU_mem, sortU_mem, List.mem_cons]
theorem sortU_sorted : ∀ {ns : List Int}, (sortU ns).Pairwise (· < ·)
  | [] => List.Pairwise.nil
  | n :: ns => insU_sorted (ns := sortU ns) sortU_sorted
theorem rising_uniq : ∀ {as bs : List Int}, as.Pairwise (· < ·) → bs.Pairwise (· < ·) → (∀ j, j ∈ as ↔ j ∈ bs) → as = bs
  | [], [], _, _, _ => rfl
  | [], b :: bs, _, _, h => by have := (h b).mpr (by simp); simp at this
  | a :: as, [], _, _, h => by have := (h a).mp (by simp); simp at this
  | a :: as, b :: bs, h1, h2, h => by
    rw [List.pairwise_cons] at h1 h2
    have e : a = b := by
      have x := (h a).mp (by simp)
      have y := (h b).mpr (by simp)
      rcases List.mem_cons.mp x with x | x
      · exact x
      · rcases List.mem_cons.mp y with y | y
        · exact y.symm
        · have := h2.1 a x
          have := h1.1 b y
          omega
    subst e
    congr 1
    refine rising_uniq h1.2 h2.2 fun j => ⟨fun hj => ?_, fun hj => ?_⟩
    · rcases List.mem_cons.mp ((h j).mp (List.mem_cons_of_mem _ hj)) with z | z
      · have := h1.1 j hj
        omega
      · exact z
    · rcases List.mem_cons.mp ((h j).mpr (List.mem_cons_of_mem _ hj)) with z | z
      · have := h2.1 j hj
        omega
      · exact z
/-- sorted(set(e)) -/
def dSortSet (fa : FE) : FC := fun s => (fa s).bind fun d s1 => match (asL s1 d).bind intsD with | some ns => if ns.length < 63 then .ok (.lst ((sortU ns).map .int)) s1 else .bad | none => .bad
section
variable {X : Cx}
theorem rvs_map_int {K : PySem.W.Frag} {H : Hp} {α : List Addr} : ∀ (ns : List Int), Rvs K H α (ns.map D.int) (ns.map V.int)
  | [] => .nil
  | n :: ns => .cons (by simp only [Rv]) (rvs_map_int ns)
theorem pf_sortSet {e : Expr} {p p2 q pos : Pos} {fa : FE} (hc : X.calm = true) (hg : Gl X "sorted") (hm : X.mg "sorted" = none) (hg2 : Gl X "set") (hm2 : X.mg "set" = none) (ha : PED X e fa)
    (he1 : starEach [.Call (.Name "set" p2) [e] [] q] X.env = (false, eval (.Call (.Name "set" p2) [e] [] q) X.env) :: starEach [] X.env := by rfl)
    (he : starEach [e] X.env = (false, eval e X.env) :: starEach [] X.env := by rfl) : PFD X (.Call (.Name "sorted" p) [.Call (.Name "set" p2) [e] [] q] [] pos) (dSortSet fa) := by
  refine ⟨fun W tk => ?_⟩
  obtain ⟨t, pe, qe⟩ := ha.run W tk
  refine ⟨_, pe_callB (cr_sortedSet hc) hg hm rfl (pa_cons (pe_callTy (cr_setI hc) hg2 hm2 rfl (pa_cons pe pa_nil he) (by decide) (by decide) he rfl) pa_nil he1) (by decide) (by decide) he1 rfl, fun H0 α0 σ H α s Q r k => qe H0 α0 σ H α s _ r ?_⟩
  unfold dSortSet at k
  cases ea : fa s with
  | bad => rw [ea] at k; exact k.elim
  | exc e s1 => rw [ea] at k; exact k
  | ok d s1 =>
    rw [ea] at k
    intro v H1 α1 r1 t1 rv
    simp only [Res.bind] at k
    cases en : (asL s1 d).bind intsD with
    | none => rw [en] at k; exact k.elim
    | some ns =>
      rw [en] at k
      simp only at k
      split at k
      · rename_i hl
        rw [Option.bind_eq_some_iff] at en
        obtain ⟨ys, e1, e2⟩ := en
        obtain ⟨a, vs, rfl, hs, rr⟩ := asL_ok r1 rv e1
        obtain rfl := rvs_ints ys e2 rr
        refine ⟨a, ns, rfl, hs, hl, fun p c hp hcl => ?_⟩
        have t2 : Stay H1 α1 (upd H1 p (SetO X.w p (fun j => decide (j ∈ ns)) c)) α1 := Stay.upd_new hp
        have r2 := r1.new (o := SetO X.w p (fun j => decide (j ∈ ns)) c) hp
        refine ⟨p, _, c, rfl, upd_same, by omega, fun ns' l h1 h2 h3 hl => ?_⟩
        have e : ns' = sortU ns := rising_uniq h1 sortU_sorted fun j => by rw [h2 j, sortU_mem, decide_eq_true_eq]
        subst e
        exact new_lst r2 hl (rvs_map_int _) fun a H' α' r' t' rf => k a H' α' r' ((t1.trans t2).trans t') rf
      · exact k.elim
end
end DL

namespace DL
open PySem PySem.Spec PyProof.Rows L2
variable [DLX]
/-! ### 30. A slot's thing given away; three targets at once -/
def dTake (i : Nat) : FC := fun s => match s.δ[i]? with
  | some (.own c) => .ok c { s with δ := s.δ.set i .no }
  | _ => .bad
section
variable {X : Cx}
theorem pf_take (i : Nat) {e : Expr} (h : PE X e (tVar i)) : PFD X e (dTake i) := ⟨fun W _ => ⟨_, h, fun H0 α0 σ H α s Q r q => by
  unfold dTake at q
  cases e : s.δ[i]? with
  | none => rw [e] at q; exact q.elim
  | some sl =>
    rw [e] at q
    cases sl with
    | no => exact q.elim
    | val d => exact q.elim
    | own c =>
      obtain ⟨a, h1, h2, h3⟩ := r.giveUp e
      exact ⟨_, h1, q a H α h2 (Stay.refl _ _) h3⟩⟩⟩
def dPar3 (i j l : Nat) (fa : FA) : FS := fun s => match fa s with
  | .ok [a, b, c] s1 => if noOwn a && noOwn b && noOwn c then .nx { s1 with δ := ((s1.δ.set i (.val a)).set j (.val b)).set l (.val c) } else .bad
  | .exc e s1 => .exc e s1
  | _ => .bad
theorem sd_par3 {es : List Expr} {st : Stmt} {i j l : Nat} {fa : FA} (hp : ∀ ta, PA X es ta → PS X st (tPar3 i j l ta)) (ha : PAD X es fa) : PSD X st (dPar3 i j l fa) := by
  refine ⟨fun W tk => ?_⟩
  obtain ⟨t, p, q⟩ := ha.run W tk
  refine ⟨_, hp t p, fun H0 α0 σ H α s D r k => q H0 α0 σ H α s _ r ?_⟩
  unfold dPar3 at k
  cases ea : fa s with
  | bad => rw [ea] at k; exact k.elim
  | exc e s1 => rw [ea] at k; exact fun cls dd H' α' r' x => k cls dd σ H' α' r' x
  | ok ds s1 =>
    rw [ea] at k
    intro vs H1 α1 r1 t1 rv
    match ds, vs, rv with
    | [], _, _ => exact k.elim
    | [_], _, _ => exact k.elim
    | [_, _], _, _ => exact k.elim
    | [a, b, c], [u, v, w], .cons ra (.cons rb (.cons rc .nil)) =>
      simp only at k
      split at k
      · rename_i hn
        simp only [Bool.and_eq_true] at hn
        exact ⟨u, v, w, rfl, k _ H1 α1 (((r1.setV (noOwn_rv ra hn.1.1)).setV (noOwn_rv rb hn.1.2)).setV (noOwn_rv rc hn.2)) t1⟩
      · exact k.elim
    | _ :: _ :: _ :: _ :: _, _, _ => exact k.elim
end
end DL

namespace DL
open PySem PySem.Spec PyProof.Rows L2
variable [DLX]
theorem room_u {k : Nat} {A : Around} (h : Room k A) : A.units + 65 < cLine := by
  have := h.un
  omega
/-! ### 31. A fresh sum of lists; sorted with a key -/
def dCat (fa fb : FE) : FC := fun s => (fa s).bind fun a s1 => (fb s1).bind fun b s2 => match asL s2 a, asL s2 b with
  | some x, some y => if x.length + y.length ≤ 16777216 then .ok (.lst (x ++ y)) s2 else .bad
  | _, _ => .bad
/-- two expressions, then k, to a fresh thing -/
theorem two_runF {X : Cx} {fa fb : FE} {W : WX} {ta tb : TE} (ha : ∀ H0 α0 σ H α s Q, Rel X.K H0 α0 H α σ s → PostE X.K H0 α0 σ W H α Q (fa s) → ta σ H Q)
    (hb : ∀ H0 α0 σ H α s Q, Rel X.K H0 α0 H α σ s → PostE X.K H0 α0 σ W H α Q (fb s) → tb σ H Q) {H0 : Hp} {α0 : List Addr} {σ : Sg} {H : Hp} {α : List Addr} {s : S} {Q : VK} {k : D → D → S → Res Cell} {R : V → V → Hp → Prop} (r : Rel X.K H0 α0 H α σ s)
    (q : PostF X.K H0 α0 σ W H α Q ((fa s).bind fun a s1 => (fb s1).bind fun b s2 => k a b s2))
    (hk : ∀ a b x y s2 H2 α2, Rel X.K H0 α0 H2 α2 σ s2 → Stay H α H2 α2 → Rx X.K H2 α2 σ a x → Rx X.K H2 α2 σ b y → PostF X.K H0 α0 σ W H α Q (k a b s2) → R x y H2) : ta σ H fun x H1 => tb σ H1 fun y H2 => R x y H2 := by
  refine ha H0 α0 σ H α s _ r ?_
  cases ea : fa s with
  | bad => rw [ea] at q; exact q.elim
  | exc e s1 => rw [ea] at q; exact q
  | ok a s1 =>
    rw [ea] at q
    intro x H1 α1 r1 t1 rx
    refine hb H0 α0 σ H1 α1 s1 _ r1 ?_
    have q' : PostF X.K H0 α0 σ W H α Q ((fb s1).bind fun b s2 => k a b s2) := q
    cases eb : fb s1 with
    | bad => rw [eb] at q'; exact q'.elim
    | exc e s2 => rw [eb] at q'; exact q'
    | ok b s2 =>
      rw [eb] at q'
      intro y H2 α2 r2 t2 ry
      exact hk a b x y s2 H2 α2 r2 (t1.trans t2) (rx.stay t2) ry q'
section
variable {X : Cx}
theorem pf_cat {a b : Expr} {pos : Pos} {fa fb : FE} (ha : PED X a fa) (hb : PED X b fb) : PFD X (.BinOp a .Add b pos) (dCat fa fb) := by
  refine ⟨fun W tk => ?_⟩
  obtain ⟨ta, pa, qa⟩ := ha.run W tk
  obtain ⟨tb, pb, qb⟩ := hb.run W tk
  refine ⟨_, pe_op op_catS pa pb, fun H0 α0 σ H α s Q r q => ?_⟩
  refine two_runF (W := W) qa qb r q fun u w x y s2 H2 α2 r2 t2 rx ry q2 => ?_
  split at q2
  · rename_i xs ys e1 e2
    split at q2
    · rename_i hz
      rw [← sizeLine_eq] at hz
      obtain ⟨p, vs, rfl, h1, r1⟩ := asL_ok r2 rx e1
      obtain ⟨p2, vs2, rfl, h2, r2'⟩ := asL_ok r2 ry e2
      exact ⟨p, p2, vs, vs2, rfl, rfl, h1, h2, by rw [r1.length, r2'.length]; exact hz, fun l hl => new_lst r2 hl (r1.append r2') fun a H' α' r' t' rf => q2 a H' α' r' (t2.trans t') rf⟩
    · exact q2.elim
  · exact q2.elim
end
def keysI (F : FF) : List D → List Cell → Option (List Int × List Cell)
  | [], μ => some ([], μ)
  | x :: xs, μ => match F [x] μ with
    | .ok (.int k) μ' => (keysI F xs μ').map fun r => (k :: r.1, r.2)
    | _ => none
def dSortKey (F : FF) (fa : FE) : FC := fun s => (fa s).bind fun d s1 => match asL s1 d with
  | some xs => if xs.length ≤ 16777216 then (match keysI F xs s1.μ with
    | some (ks, μ) => .ok (.lst (((ks.zip xs).mergeSort fun p q => decide (p.1 ≤ q.1)).map (·.2))) { s1 with μ := μ }
    | none => .bad) else .bad
  | none => .bad
end DL

namespace DL
open PySem PySem.Spec PyProof.Rows L2
variable [DLX]
/-! ### 33. sorted(xs, key=f), f a def -/
/-- the context within a built-in's work, where nothing is raised -/
def inn (X : Cx) : Cx := { X with A := X.A.in1.in1, xe := fun _ _ => False }
section
variable {X : Cx} {pins : List (Addr × Obj)} {σ0 : Sg} {H : Hp} {s : Shared}
theorem inn_to (I : Inv X pins σ0 H s) : Inv (inn X) pins σ0 H s :=
  ⟨⟨I.ok.mod, I.ok.kind, I.ok.glob, I.ok.blt, I.ok.above, I.ok.inj, I.ok.has, I.ok.cab, I.ok.hd, I.ok.frames, I.ok.stk, I.ok.exf, I.ok.bs, I.ok.bsz, I.ok.noex, I.ok.exfs, I.ok.funs, I.ok.frf⟩, I.os, I.bare, I.base, I.loc, I.cell, I.free, I.freeC, I.pin, I.hok, I.len⟩
theorem inn_of (ok : X.Ok) (I : Inv (inn X) pins σ0 H s) : Inv X pins σ0 H s := ⟨ok, I.os, I.bare, I.base, I.loc, I.cell, I.free, I.freeC, I.pin, I.hok, I.len⟩
theorem key_call {k : Nat} {f : Addr} {fd : FuncData} {ps : List Str} {F : FF} (F3 : FnG X.prog X.w X.K X.mg X.base k f fd ps (spD X.K 1 F)) (hb : Binds X.K fd ps []) (hr : Room k (inn X).A) (hgu : X.A.guards = some []) {H0 : Hp} {α0 α : List Addr} {σ : Sg} {st : S} {d : D} {v : V} {u : Value} {i : Int} {μ' : List Cell}
    (I : Inv (inn X) pins σ0 H s) (rl : Rel X.K H0 α0 H α σ st) (rv : Rv X.K H α d v) (ru : RelV v u) (e : F [d] st.μ = .ok (.int i) μ') :
    wpAny (model X.prog X.w) X.A.in1.in1 (call (.ref f) [u]) (fun w s' => ∃ t H' α', w = .int i t ∧ Inv (inn X) pins σ0 H' s' ∧ Rel X.K H0 α0 H' α' σ { st with μ := μ' } ∧ Stay H α H' α') (fun _ _ => False) s := by
  refine wpAny_mono (run_fnG (X := inn X) (E := WE fun _ _ _ _ => False) (Q := fun w H' => w = .int i ∧ ∃ α', Rel X.K H0 α0 H' α' σ { st with μ := μ' } ∧ Stay H α H' α') F3 hr hgu hb (passAt Takes.none σ0) I (.cons ru .nil) ⟨rfl, α, [d], st.μ, rl.cells, .single rv, ?_⟩) (fun w s' h => ?_) fun _ _ z => z
  · rw [e]
    intro w H' α' tc rc rw
    simp only [Rv] at rw
    exact ⟨rw, α', rl.after tc rc, tc.st⟩
  · obtain ⟨w', H', I', r', rfl, α', h1, h2⟩ := h
    obtain ⟨t, rfl⟩ := r'
    exact ⟨t, H', α', rfl, I', h1, h2⟩
end
theorem hok_add {P : Program} {w : World} {H : Hp} {h : Heap} {a : Addr} {o : HO} (x : HOk P w H h) (hn : H a = none) (new : ObjOk P w (upd H a o) h a o) : HOk P w (upd H a o) h := fun b u e => by
  by_cases hb : b = a
  · subst hb
    rw [upd_same] at e
    cases e
    exact new
  · rw [upd_ne hb] at e
    refine (x b u e).stay (fun c v _ q => q) (fun c q => ?_) fun c xs q => ?_
    · rw [upd_ne (ne_of_none q hn)]; exact q
    · rw [upd_ne (ne_of_none q hn)]; exact q
theorem vals_get' : ∀ {xs : List V} {us : List Value} {i : Nat} {u : Value}, Vals xs us → us[i]? = some u → ∃ x, xs[i]? = some x ∧ RelV x u
  | _, _, i, u, .nil, e => by simp at e
  | _, _, 0, u, .cons a b, e => by simp at e; subst e; exact ⟨_, rfl, a⟩
  | _, _, i + 1, u, .cons a b, e => by simpa using vals_get' (i := i) b (by simpa using e)
theorem keysI_len {F : FF} : ∀ {xs : List D} {μ : List Cell} {ks : List Int} {μ' : List Cell}, keysI F xs μ = some (ks, μ') → ks.length = xs.length
  | [], μ, ks, μ', h => by cases h; rfl
  | x :: xs, μ, ks, μ', h => by
    unfold keysI at h
    split at h
    · simp only [Option.map_eq_some_iff] at h
      obtain ⟨r, h1, h2⟩ := h
      cases h2
      simp [keysI_len (μ' := r.2) (ks := r.1) h1]
    · cases h
theorem keysI_cons {F : FF} {x : D} {xs : List D} {μ : List Cell} {ks : List Int} {μ' : List Cell} (h : keysI F (x :: xs) μ = some (ks, μ')) : ∃ k r μ1, ks = k :: r ∧ F [x] μ = .ok (.int k) μ1 ∧ keysI F xs μ1 = some (r, μ') := by
  unfold keysI at h
  split at h
  · rename_i k μ1 e
    simp only [Option.map_eq_some_iff] at h
    obtain ⟨r, h1, h2⟩ := h
    cases h2
    exact ⟨k, r.1, μ1, rfl, e, h1⟩
  · cases h
theorem each_zip {K : PySem.W.Frag} {H : Hp} {α : List Addr} : ∀ {xs : List D} {vs : List V} {us : List Value} (ks : List Int), ks.length = xs.length → Rvs K H α xs vs → Vals vs us → PySem.W.EachIs (fun u (p : Int × D) => ∃ v, RelV v u ∧ Rv K H α p.2 v) us (ks.zip xs)
  | [], vs, us, ks, hl, h, r => by
    simp only [Rvs] at h
    subst h
    cases r
    rw [List.zip_nil_right]
    exact .nil
  | d :: ds, vs, us, [], hl, h, r => by simp at hl
  | d :: ds, vs, us, k :: ks, hl, h, r => by
    simp only [Rvs] at h
    obtain ⟨v, l, rfl, h1, h2⟩ := h
    cases r with
    | cons a b =>
      rw [List.zip_cons_cons]
      exact .cons ⟨v, a, h1⟩ (each_zip ks (by simpa using hl) h2 b)
theorem of_zip {K : PySem.W.Frag} {H : Hp} {α : List Addr} : ∀ {ps : List (Int × D)} {us : List Value}, PySem.W.EachIs (fun u (p : Int × D) => ∃ v, RelV v u ∧ Rv K H α p.2 v) us ps → ∃ vs, Rvs K H α (ps.map (·.2)) vs ∧ Vals vs us
  | _, _, .nil => ⟨[], .nil, .nil⟩
  | _, _, .cons ⟨v, a, b⟩ t => by
    obtain ⟨vs, h1, h2⟩ := of_zip t
    exact ⟨v :: vs, .cons b h1, .cons a h2⟩
theorem ints_reads {h : Heap} : ∀ {vs : List Value} {ks : List Int}, IntsAre vs ks → PySem.W.EachIs (fun v d => ∃ as, Reads h v d as) vs (ks.map PyData.int)
  | _, _, .nil => .nil
  | _, _, .cons n t r => .cons ⟨[], .int n t⟩ (ints_reads r)
/-- what sorted(xs, key=f) wants -/
def rSK (K : PySem.W.Frag) (F : FF) (f : Addr) : List V → List V → Hp → VK → Prop := fun vs zs H Q => zs = [.ref f] ∧ ∃ H0 σ α0 α st d xs ks μ', Rel K H0 α0 H α σ st ∧ Rxs K H α σ [d] vs ∧ asL st d = some xs ∧ xs.length ≤ 16777216 ∧ keysI F xs st.μ = some (ks, μ') ∧
  ∀ a H' α', Rel K H0 α0 H' α' σ { st with μ := μ' } → Stay H α H' α' → RF K H0 H' α' σ { st with μ := μ' } a (.lst (((ks.zip xs).mergeSort fun p q => decide (p.1 ≤ q.1)).map (·.2))) → Q (.ref a) H'
theorem cr_sk {X : Cx} {k : Nat} {f : Addr} {fd : FuncData} {ps : List Str} {F : FF} (F3 : FnG X.prog X.w X.K X.mg X.base k f fd ps (spD X.K 1 F)) (hb : Binds X.K fd ps []) (hr : Room (k + 1) X.A) (hgu : X.A.guards = some []) : CallRK X (.builtin "sorted") [Str.ofString "key"] (rSK X.K F f) := by
  intro pins s σ0 H xs0 zs us ws Q I rv rz h
  obtain ⟨rfl, H0, σ, α0, α, st, d, xs, ks, μ', rl, rx, ea, hlen, ek, q⟩ := h
  obtain ⟨v, rfl, rx1⟩ := rx.one
  obtain ⟨u, rfl, rv1⟩ := vals1 rv
  obtain ⟨z, rfl, rz1⟩ := vals1 rz
  cases (show z = Value.ref f from rz1)
  obtain ⟨l, vs, rfl, hq, rr⟩ := asL_ok rl rx1 ea
  cases (show u = Value.ref l from rv1)
  obtain ⟨its, rv2, pl, hz⟩ := I.list hq
  have kl := keysI_len ek
  have il : its.length = xs.length := by rw [← rv2.length, rr.length]
  have hL : its.length ≤ sizeLine := by rw [il, sizeLine_eq]; exact hlen
  have hr' : Room k (inn X).A := ⟨hr.hd, by have := hr.dp; show X.A.depth + 3 * k + 5 < _; omega, by have := hr.un; show X.A.units + 1 + 1 + 16 * k + 200 < _; omega⟩
  show wpAny (model X.prog X.w) X.A (call (.builtin "sorted") [.ref l] [(Str.ofString "key", .ref f)]) _ _ _
  refine PySem.W.sorted_of_sort pl.isList hL (by unfold argsOk; kernel_rfl) (fun x => by unfold argsOk; kernel_rfl) fun E' => ?_
  rw [ksk_t1]
  have ho := PySem.W.copyHeap_at s.heap its
  generalize ha : s.heap.objs.size + 1 = a at ho ⊢
  have old0 : ∀ b o, s.heap.get? b = some o → (PySem.W.copyHeap s.heap its).get? b = some o := fun b o e => PySem.W.copyHeap_old e
  generalize PySem.W.copyHeap s.heap its = hc at ho old0 ⊢
  have alt : a < hc.objs.size := Heap.lt_size ho
  obtain ⟨e1, ho1⟩ : ∃ e1, (hc.update a (Obj.mapSeq fun _ => (#[] : Array Value))).get? a = some (seqObj "list" #[] e1) := ⟨_, get?_update_seq ho fun _ => #[]⟩
  have sz : ((hc.update a (Obj.mapSeq fun _ => (#[] : Array Value))).push (seqObj "tuple" its.toArray 0)).objs.size = hc.objs.size + 1 := by rw [size_push', Heap.size_update]
  unfold ksk_tree
  refine wpAny_bind (listItems_at ho rfl ?_)
  refine wpAny_bind (listUpdate_at ho rfl ?_ (by rw [List.size_toArray]; exact hL) (Nat.zero_le _))
  refine wpAny_bind (seqEpoch_at ho1 rfl ?_)
  refine wpAny_bind (wpAny_newTuple ?_ (by show its.length ≤ _; exact hL))
  refine wpAny_bind (wpAny_newList ?_ (Nat.zero_le _))
  refine wpAny_holding ?_
  have nk0 := Heap.get?_push_size ((hc.update a (Obj.mapSeq fun _ => (#[] : Array Value))).push (seqObj "tuple" its.toArray 0)) (o := seqObj "list" #[] 0) rfl
  have na0 : (((hc.update a (Obj.mapSeq fun _ => (#[] : Array Value))).push (seqObj "tuple" its.toArray 0)).push (seqObj "list" #[] 0)).get? a = some (seqObj "list" #[] e1) := Heap.get?_push_of_some _ (Heap.get?_push_of_some _ ho1)
  have old2 : ∀ b o, s.heap.get? b = some o → (((hc.update a (Obj.mapSeq fun _ => (#[] : Array Value))).push (seqObj "tuple" its.toArray 0)).push (seqObj "list" #[] 0)).get? b = some o := fun b o e => by
    have nb : b ≠ a := by rw [← ha]; exact nlt 1 (Heap.lt_size e)
    exact Heap.get?_push_of_some _ (Heap.get?_push_of_some _ ((Heap.get?_update_ne _ _ _ _ nb).trans (old0 b o e)))
  rw [sz] at nk0 ⊢
  generalize ((hc.update a (Obj.mapSeq fun _ => (#[] : Array Value))).push (seqObj "tuple" its.toArray 0)).push (seqObj "list" #[] 0) = h2 at nk0 na0 old2 ⊢
  generalize hkS : hc.objs.size + 1 = kS at nk0 ⊢
  have hka : kS ≠ a := by rw [← hkS]; exact (nlt 1 alt).symm
  have ka : s.heap.objs.size ≤ a := by rw [← ha]; exact Nat.le_add_right _ _
  have kk : s.heap.objs.size ≤ kS := Nat.le_trans ka (by rw [← hkS]; exact Nat.le_succ_of_le (Nat.le_of_lt alt))
  have fpa : ∀ (b : Addr) (H' : Hp), s.heap.objs.size ≤ b → H' b = none → FpOk X pins H' b := fun b H' h1 h2 => I.fpOk h1 h2
  have I2 : Inv (inn X) pins σ0 H { s with heap := h2 } := inn_to (I.kept (t' := s.toks) old2)
  have seqNo : ∀ (n : String) (xs : Array Value) (e : Nat) (w : Option Value), (seqObj n xs e).data ≠ .cell w := fun n xs e w z => nomatch z
  have pinned : ∀ {H' : Hp} {s' : Shared} {kA : Array Value} {e : Nat}, Inv (inn X) pins σ0 H' s' → H' kS = none → H' a = none → s'.heap.get? kS = some (seqObj "list" kA e) → s'.heap.get? a = some (seqObj "list" #[] e1) → Inv (inn X) ((kS, seqObj "list" kA e) :: (a, seqObj "list" #[] e1) :: pins) σ0 H' s' := fun {H' s' kA e} J n1 n2 g1 g2 => J.pins_of fun p hp => by
    rcases List.mem_cons.mp hp with rfl | hp
    · have q := fpa kS H' kk n1
      exact ⟨g1, q.1, q.2.1, q.2.2.1, seqNo _ _ _⟩
    · rcases List.mem_cons.mp hp with rfl | hp
      · have q := fpa a H' ka n2
        exact ⟨g2, q.1, q.2.1, q.2.2.1, seqNo _ _ _⟩
      · exact J.pin p (List.mem_append_right _ hp)
  have unp : ∀ {H' : Hp} {s' : Shared} {kA : Array Value} {e : Nat}, Inv (inn X) ((kS, seqObj "list" kA e) :: (a, seqObj "list" #[] e1) :: pins) σ0 H' s' → Inv (inn X) pins σ0 H' s' ∧ H' kS = none ∧ H' a = none ∧ s'.heap.get? kS = some (seqObj "list" kA e) ∧ s'.heap.get? a = some (seqObj "list" #[] e1) := fun {H' s' kA e} J =>
    ⟨J.pins_of fun p hp => J.pin p (List.mem_append_right _ (List.mem_cons_of_mem _ (List.mem_cons_of_mem _ hp))), (J.pin _ (List.mem_append_right _ List.mem_cons_self)).2.1, (J.pin _ (List.mem_append_right _ (List.mem_cons_of_mem _ List.mem_cons_self))).2.1,
      (J.pin _ (List.mem_append_right _ List.mem_cons_self)).1, (J.pin _ (List.mem_append_right _ (List.mem_cons_of_mem _ List.mem_cons_self))).1⟩
  unfold ksk_rest
  refine wpAny_bind (wpAny_rule ?_)
  first
    | rw [List.forIn_toArray]
    | (rw [← Array.forIn_toList]; simp only [List.toList_toArray])
  refine wpAny_bind (ksk_fold (fun i s' => ∃ H' α' μi kA e, Inv (inn X) ((kS, seqObj "list" kA e) :: (a, seqObj "list" #[] e1) :: pins) σ0 H' s' ∧ Rel X.K H0 α0 H' α' σ { st with μ := μi } ∧ Stay H α H' α' ∧ IntsAre kA.toList (ks.take i) ∧ keysI F (xs.drop i) μi = some (ks.drop i, μ')) its 0 _
    ⟨H, α, st.μ, #[], 0, pinned I2 (I.hok.fresh kk) (I.hok.fresh ka) nk0 na0, rl, Stay.refl _ _, by rw [List.take_zero]; exact .nil, by rw [List.drop_zero, List.drop_zero]; exact ek⟩ ?step ?done)
  case step =>
    rintro j x s' hx ⟨H', α', μi, kA, e, J, rl', t', hk, ek'⟩
    simp only [Nat.zero_add] at hk ek' ⊢
    have hj : j < its.length := (List.getElem?_eq_some_iff.mp hx).1
    obtain ⟨v, ev, rvx⟩ := vals_get' rv2 hx
    obtain ⟨dx, ed, rdx⟩ := rr.at' ev
    have hdx : xs.drop j = dx :: xs.drop (j + 1) := by
      have hj' := (List.getElem?_eq_some_iff.mp ed)
      rw [List.drop_eq_getElem_cons hj'.1, hj'.2]
    rw [hdx] at ek'
    obtain ⟨k1, r1, μ1, e3, e4, e5⟩ := keysI_cons ek'
    have hkz : kA.size ≤ its.length := by
      have h1 := hk.length
      rw [Array.length_toList, List.length_take] at h1
      omega
    refine wpAny_bind (wpAny_attempt (wpAny_mono (key_call F3 hb hr' hgu J rl' (Rv.stay t' _ _ rdx) rvx e4) (fun w s'' he => ?_) fun _ _ z => z.elim))
    obtain ⟨tk, H2, α2, rfl, J2, rl2, t2⟩ := he
    obtain ⟨J3, n1, n2, g1, g2⟩ := unp J2
    have s1 := Heap.SameBut.update s''.heap kS (Obj.mapSeq (·.push (.int k1 tk)))
    obtain ⟨c2, hc2⟩ : ∃ c2, (s''.heap.update kS (Obj.mapSeq (·.push (.int k1 tk)))).get? kS = some (seqObj "list" (kA.push (.int k1 tk)) c2) := ⟨_, get?_update_seq g1 (·.push (.int k1 tk))⟩
    refine wpAny_bind (listUpdate_at g1 rfl ?_ (Nat.le_trans hkz hL) (Nat.le_trans (Nat.le_of_eq (Array.size_push ..)) (Nat.succ_le_succ (Nat.le_trans hkz hL))))
    refine wpAny_pure ⟨rfl, H2, α2, μ1, kA.push (.int k1 tk), c2, pinned ?_ n1 n2 hc2 ((s1.2 a hka.symm).trans g2), rl2, t'.trans t2, ?_, ?_⟩
    · exact J3.turnedL (t' := s''.toks) (ch := [kS]) (fun b o hb e => (s1.2 b (fun z => hb (by simp [z]))).trans e) fun b hb => by
        have : b = kS := by simpa using hb
        subst this
        exact fpa b H2 kk n1
    · have ekj : ks[j]? = some k1 := by
        have := congrArg (·[0]?) e3
        simpa using this
      have ea2 : (kA.push (.int k1 tk)).toList = kA.toList ++ [.int k1 tk] := by simp
      rw [ea2, List.take_add_one, ekj]
      exact ksk_snoc hk
    · have : ks.drop (j + 1) = r1 := by
        have := congrArg (·.drop 1) e3
        simpa using this
      rw [this]
      exact e5
  case done =>
    rintro s' ⟨H', α', μi, kA, e, J, rl', t', hk, ek'⟩
    simp only [Nat.zero_add] at hk ek'
    rw [show xs.drop its.length = [] from List.drop_of_length_le (by omega)] at ek'
    have em : μi = μ' := by
      have h9 := Option.some.inj ek'
      exact (Prod.ext_iff.mp h9).2
    subst em
    rw [List.take_of_length_le (by omega)] at hk
    obtain ⟨J3, n1, n2, g1, g2⟩ := unp J
    have hsz : kA.size = its.length := by
      have h1 := hk.length
      rw [Array.length_toList] at h1
      omega
    obtain ⟨G, gp, gn⟩ := restrict s'.heap fun b => decide (b ≠ kS)
    refine wpAny_bind (listItems_at g1 rfl ?_)
    have al : PySem.W.AllAlike (ks.map PyData.int) := fun d hd d' hd' => by
      obtain ⟨i, _, rfl⟩ := List.mem_map.mp hd
      obtain ⟨i', _, rfl⟩ := List.mem_map.mp hd'
      rfl
    have hur : X.A.units + 1 + 1 < cLine := by have := hr.un; omega
    refine PySem.W.keyH_end (κ := PySem.W.dataKind s'.heap (ks.map PyData.int)) (h₁ := G) (fun b o _ e => ?_) (gn kS (by simp)) g1 g2 hka (PySem.W.SortsAt.data (s := s') (ints_reads hk) al (.inr fun d hd => ?_) fun d hd => ?_) hsz hL fun h3 tk3 c k3 n3 => ⟨rfl, ?_⟩
    · by_cases hb : b = kS
      · subst hb
        rw [gn b (by simp)] at e
        cases e
      · rw [gp b (by simpa using hb)] at e
        exact e
    · obtain ⟨i, _, rfl⟩ := List.mem_map.mp hd
      exact ⟨(fun z => nomatch z), (fun _ z => nomatch z)⟩
    · obtain ⟨i, _, rfl⟩ := List.mem_map.mp hd
      show X.A.units + 1 + 1 + 0 < cLine
      omega
    · have keep : ∀ b o, b ≠ kS → b ≠ a → s'.heap.get? b = some o → h3.get? b = some o := fun b o h1 h2 e => k3 b o h2 (by rw [gp b (by simpa using h1)]; exact e)
      have J4 : Inv (inn X) pins σ0 H' { s' with heap := h3, toks := tk3 } := J3.turnedL (t' := tk3) (ch := [kS, a]) (fun b o hb e => keep b o (fun z => hb (by simp [z])) (fun z => hb (by simp [z])) e) fun b hb => by
        rcases mem2 hb with z | z
        · rw [z]; exact fpa kS H' kk n1
        · rw [z]; exact fpa a H' ka n2
      have bm : (ks.zip xs).map (fun p : Int × D => PyData.int p.1) = ks.map PyData.int := by
        show (ks.zip xs).map (PyData.int ∘ Prod.fst) = _
        rw [← List.map_map, List.map_fst_zip (by omega)]
      have outE := PySem.W.keyedOut_each (rev := false) (fun p : Int × D => PyData.int p.1) (bs := ks.zip xs) (R := fun u p => ∃ v, RelV v u ∧ Rv X.K H' α' p.2 v) (vs := its) (out := PySem.W.sortVals (PySem.W.dataKind s'.heap (ks.map PyData.int)) false kA.toList its) (by rw [bm]; exact ⟨s'.heap, kA.toList, al, rfl, ints_reads hk⟩) ((each_zip ks kl rr rv2).mono fun u p ⟨v, h1, h2⟩ => ⟨v, h1, Rv.stay t' _ _ h2⟩)
      rw [PySem.W.dataLe_int] at outE
      obtain ⟨ws, w1, w2⟩ := of_zip outE
      have wl : ws.length ≤ sizeLine := by
        rw [w1.length, List.length_map, List.length_mergeSort, List.length_zip]
        omega
      have J5 : Inv (inn X) pins σ0 (upd H' a (.lst ws)) { s' with heap := h3, toks := tk3 } := by
        have hf := fpa a H' ka n2
        refine L2.Inv.step (s := { s' with heap := h3, toks := tk3 }) (h' := h3) (g' := s'.gens) (d' := s'.drawn) (t' := tk3) (ch := [a]) J4 (fun b hb => ?_) (fun b o _ _ _ e _ => e) (fun b o _ _ _ e _ => ⟨o.slots, e⟩) (fun b o hb e n => ?_) (fun b o _ e => ⟨o, e⟩) (fun b ys e => ?_) (fun b o u e => ?_) (fun b ps e => ⟨#[], ?_⟩) (fun m hm => hm) (hok_add J4.hok n2 ⟨wl, _, c, w2, n3⟩) J4.bare
        · have : b = a := by simpa using hb
          subst this
          exact ⟨hf.2.2.2.1, hf.2.1, hf.2.2.2.2.1, hf.2.2.2.2.2⟩
        · rw [upd_ne (fun z => hb (by simp [z]))]
          exact n
        · rw [upd_ne (ne_of_none e n2)]; exact e
        · rw [upd_ne (ne_of_none e n2)]; exact e
        · rw [upd_ne (ne_of_none e n2), e]; simp
      exact ⟨.ref a, upd H' a (.lst ws), inn_of I.ok J5, rfl, new_lst rl' n2 w1 fun b H'' α'' r'' t'' rf => q b H'' α'' r'' (t'.trans t'') rf⟩
theorem pf_sortKey {X : Cx} {x : Str} {k : Nat} {F : FF} {e : Expr} {p p2 q pos : Pos} {fa : FE} (f : FnD X.prog X.w X.K X.mg X.base x k 1 F) (hr : Room (k + 1) X.A) (hgu : X.A.guards = some []) (hg : Gl X x) (hgs : Gl X "sorted") (hms : X.mg "sorted" = none) (ha : PED X e fa) (hdb : (x == ("__debug__" : Str)) = false := by decide)
    (he : backTo pos (starEach [e] X.env) = (false, eval e X.env) :: backTo pos (starEach [] X.env) := by rfl) (hpl : (backTo pos (starEach [e] X.env)).any (·.1) = false := by rfl) (he2 : starEach [e] X.env = (false, eval e X.env) :: starEach [] X.env := by rfl)
    (hall : (backToKw pos (keywordEach [⟨some "key", .Name x p2, q⟩] X.env)).all (·.1.isSome) = true := by rfl) (hnone : (backToKw pos (keywordEach [⟨some "key", .Name x p2, q⟩] X.env)).any (·.1.isNone) = false := by rfl) (hks : (backToKw pos (keywordEach [⟨some "key", .Name x p2, q⟩] X.env)).filterMap (·.1) = [Str.ofString "key"] := by rfl) :
    PFD X (.Call (.Name "sorted" p) [e] [⟨some "key", .Name x p2, q⟩] pos) (dSortKey F fa) := by
  obtain ⟨a, fd, ps, h1, h2, h3, h4⟩ := f.ex
  refine ⟨fun W tk => ?_⟩
  obtain ⟨t, pa, qa⟩ := ha.run W tk
  refine ⟨_, pe_callBK (cr_sk h3 h4 hr hgu) hgs hms rfl (pa_cons pa pa_nil he2) (pk_cons (pe_glob (v := .ref a) hg h1 rfl hdb) pk_nil) (by decide) (by decide) he hpl hall hnone hks, fun H0 α0 σ H α s Q r k => qa H0 α0 σ H α s _ r ?_⟩
  unfold dSortKey at k
  cases ea : fa s with
  | bad => rw [ea] at k; exact k.elim
  | exc e s1 => rw [ea] at k; exact k
  | ok d s1 =>
    rw [ea] at k
    intro v H1 α1 r1 t1 rv
    simp only [Res.bind] at k
    split at k
    · rename_i xs exs
      split at k
      · rename_i hl
        split at k
        · rename_i ks μ ek
          exact ⟨rfl, H0, σ, α0, α1, s1, d, xs, ks, μ, r1, .cons rv .nil, exs, hl, ek, fun b H' α' r' t' rf => k b H' α' r' (t1.trans t') rf⟩
        · exact k.elim
      · exact k.elim
    · exact k.elim
end DL

namespace DL
open PySem PySem.Spec PyProof.Rows L2
variable [DLX]
/-! ### 32. The law's end -/
/-- where nothing but a locked list at a stands told, a def that gives True gives the row what it wants -/
theorem end_core {P : Program} {w : World} {K : PySem.W.Frag} {mg mb : Str → Option Value} {k : Nat} {fa a : Addr} {nm : Str} {FL : FF} {s₁ : Shared} {vs : List Value} {ns : List Int} {μ : List Cell} (KX : K.In s₁.heap) (hns : s₁.heap.Ns mainGlobals mg) (hb : s₁.heap.Ns builtinsNs mb)
    (hbb : ∀ x : Str, x ≠ "__name__" → mb x = bootBuiltins x) (hlim : s₁.heap.NoLimit) (hg : s₁.gens = #[]) (ha : s₁.heap.get? a = some { cls := .type "list", data := .seq vs.toArray }) (hr : Room k callerA) (hfa : mg nm = some (.ref fa))
    (F : ∀ base : Heap, K.In base → base.Ns mainGlobals mg → FnD P w K mg base nm k 1 FL) (hF : FL [.lst (ns.map .int)] [] = .ok (.bl true) μ)
    (H : Hp) (hO : ∀ b, H b = none ∨ ∃ xs, b = a ∧ H b = some (.frz { cls := .type "list", data := .seq vs.toArray } (.lst xs))) (hS : SqF K H a (ns.map V.int)) (hok : HOk P w H s₁.heap) (hK : H a ≠ none → K.lookup a = none) :
    codeAny (model P w) callerA (.call (.ref fa) ⟨[.ref a], []⟩) (fun r s' => r = .ok (.ret (.bool true)) ∧ OldK s₁.heap s'.heap ∧ s'.os = s₁.os ∧ AllBare s'.gens) s₁ := by
  have only : ∀ {b : Addr} {u : HO}, H b = some u → b = a := fun {b u} q => by
    rcases hO b with z | ⟨_, z, _⟩
    · rw [q] at z; cases z
    · exact z
  have dct : ∀ {b : Addr} {m : Str → Option Value}, s₁.heap.Ns b m → (hidT s₁.heap H).Ns b m := fun {b m} ⟨o, es, ep, e, d, r⟩ => by
    refine ⟨o, es, ep, hidT_get e ?_, d, r⟩
    cases q : H b with
    | none => rfl
    | some u =>
      cases only q
      rw [ha] at e
      cases e
      cases (show Data.seq vs.toArray _ = Data.dict es ep from d)
  have kin : K.In (hidT s₁.heap H) := fun b o e => hidT_get (KX b o e) <| by
    cases q : H b with
    | none => rfl
    | some u =>
      cases only q
      rw [hK (by rw [q]; exact fun z => nomatch z)] at e
      cases e
  obtain ⟨mc, l1, l2⟩ := hlim
  have e0 : Env0 P w K mg (hidT s₁.heap H) callerA [] s₁ H := ⟨rfl, ⟨kin, dct hns, ⟨mb, dct hb, hbb⟩, mc, dct l1, l2⟩, fun b o e => of_hidT e, Nat.le_of_eq (hidT_size _ _), trivial, fun b z => (nomatch z), hok, .of_eq hg⟩
  obtain ⟨f, fd, ps, h1, h2, h3, h4⟩ := (F _ kin (dct hns)).ex
  cases hfa.symm.trans h1
  have hsp : spD K 1 FL [V.ref a] H (fun v _ => v = .bl true) (fun _ _ _ => False) := by
    refine ⟨rfl, [], [.lst (ns.map .int)], [], ⟨rfl, List.nodup_nil, fun n b c e => by simp at e⟩, .single ?_, ?_⟩
    · simp only [Rv]
      exact ⟨a, _, rfl, hS, rvs_map_int ns⟩
    · rw [hF]
      intro v H' α' _ _ rv
      simpa only [Rv] using rv
  have hlen : ([Value.ref a] ++ ([] : List Value)).length = ps.length := h3.len _ _ _ _ hsp
  refine codeAny_mono (h3.run callerA [] s₁ H ⟨[.ref a], []⟩ [.ref a] [.ref a] _ _ hr rfl e0 (h4 s₁ [.ref a] KX hlen) (.cons rfl .nil) hsp) fun r s' h => ?_
  cases r with
  | error e =>
    obtain ⟨_, _, _, _, _, _, _, _, _, _, _, _, z⟩ := h
    exact z.elim
  | ok fl =>
    cases fl with
    | next => exact False.elim h
    | brk => exact False.elim h
    | cont => exact False.elim h
    | ret u =>
      obtain ⟨v, H', os, bare, un, hok', r', q⟩ := h
      cases (show v = .bl true from q)
      cases (show u = Value.bool true from r')
      refine ⟨rfl, OldK.of_keep fun b o e => ?_, os, bare⟩
      rcases hO b with z | ⟨xs, rfl, z⟩
      · exact un.keep b o e z (fun z => nomatch z) (fun z => nomatch z)
      · obtain ⟨e1, _⟩ := hok b _ z
        obtain ⟨e2, _⟩ := hok' b _ (un.frzs b _ _ z)
        rw [e] at e1
        cases e1
        exact e2
/-- the goal that k_head leaves (case hc) -/
theorem walkG {l : PySem.W.OpenLaw} {n k : Nat} {q : Program} {loose : List Str} {XP : (Str → Option Value) → Heap → Prop} {YP : World → Heap → Prop} {d : DefRec} {K : Params → PySem.W.Frag} {FL : FF} (hn : l.most = some n) (hn2 : n ≤ sizeLine) (hdf : d.params.defaults = []) (hr : Room k callerA)
    (hY : ∀ (w : World) (h : Heap), YP w h → (K w.params).In h)
    (F : ∀ (w : World) (mg : Str → Option Value) (fa : Addr) (h : Heap), (K w.params).In h → h.Ns mainGlobals mg → mg d.name = some (.ref fa) → ∀ base : Heap, (K w.params).In base → base.Ns mainGlobals mg → FnD l.prog w (K w.params) mg base d.name k 1 FL)
    (hL : ∀ ns : List Int, ns.length ≤ n → ∃ μ, FL [.lst (ns.map .int)] [] = .ok (.bl true) μ) : PySem.W.WalkO q loose XP YP l.row.toRowW d [] (fun f vs => PySem.call f vs) := by
  refine Att.attach_call hn hdf fun w s₀ s₁ mg mb fa o pm cd doc a vs ns G Y ho hd hcd hmg hobj hints hlen hg => ?_
  have KX := hY w _ Y
  have rv := vals_ints hints
  have lenV := hints.length
  have hl : ns.length ≤ sizeLine := Nat.le_trans hlen hn2
  obtain ⟨μ, hF⟩ := hL ns hlen
  have fin := end_core KX G.T.g G.T.b G.T.builtins G.T.nolimit hg hobj hr hmg (F w mg fa _ KX G.T.g hmg) hF
  cases hk : (K w.params).lookup a with
  | some o' =>
    have e := KX a o' hk
    rw [hobj] at e
    cases e
    exact fin (fun _ => none) (fun _ => .inl rfl) (.inr ⟨_, vs.toArray, _, hk, rfl, rfl, rfl, by rw [List.size_toArray, lenV]; exact hl, by simpa using rv⟩) (fun b u z => nomatch z) fun z => absurd rfl z
  | none =>
    refine fin (upd (fun _ => none) a (.frz { cls := .type "list", data := .seq vs.toArray } (.lst (ns.map V.int)))) (fun b => ?_) (.inl ⟨_, upd_same⟩) (fun b u z => ?_) fun _ => hk
    · by_cases hb : b = a
      · subst hb
        exact .inr ⟨_, rfl, upd_same⟩
      · exact .inl (upd_ne hb)
    · by_cases hb : b = a
      · subst hb
        rw [upd_same] at z
        cases z
        exact ⟨hobj, by rw [List.length_map]; exact hl, vs, _, rv, hobj⟩
      · rw [upd_ne hb] at z
        cases z
end DL

namespace DL
open PySem PySem.Spec PyProof.Rows L2
variable [DLX]
/-! ### 34. == and != that take any text -/
def twoStr : D → D → Option (Str × Str) | .str x, .str y => some (x, y) | _, _ => none
def eqS : S → D → D → Option D := fun s a b => match twoStr a b with | some (x, y) => some (.bl (x == y)) | none => gDat eqG s a b
def neS : S → D → D → Option D := fun s a b => match twoStr a b with | some (x, y) => some (.bl (!(x == y))) | none => gDat neG s a b
theorem twoStr_some {a b : D} {x y : Str} (h : twoStr a b = some (x, y)) : a = .str x ∧ b = .str y := by
  cases a <;> cases b <;> simp [twoStr] at h
  exact ⟨by rw [h.1], by rw [h.2]⟩
section
variable {X : Cx}
theorem dec_str (x y : Str) : decide (V.str x = V.str y) = (x == y) := by
  rw [Bool.eq_iff_iff]
  simp
theorem c_eqS (hu : X.A.units + 65 < cLine) : Cmp X .Eq eqS := by
  refine ⟨_, op_eq.or (op_eqX hu), fun H0 α0 σ H α s x y a b d Q r rx ry e q => ?_⟩
  unfold eqS at e
  split at e
  · rename_i u w h
    obtain ⟨rfl, rfl⟩ := twoStr_some h
    cases e
    rw [rx_str rx, rx_str ry]
    refine .inl ⟨rfl, ?_⟩
    rw [dec_str]
    exact .inl (q _ _ _ r (Stay.refl _ _) ox_bl)
  · exact .inr (os_dat H0 α0 σ H α s x y a b d Q r rx ry e q)
theorem c_neS (hu : X.A.units + 65 < cLine) : Cmp X .NotEq neS := by
  refine ⟨_, op_ne.or (op_neX hu), fun H0 α0 σ H α s x y a b d Q r rx ry e q => ?_⟩
  unfold neS at e
  split at e
  · rename_i u w h
    obtain ⟨rfl, rfl⟩ := twoStr_some h
    cases e
    rw [rx_str rx, rx_str ry]
    refine .inl ⟨rfl, ?_⟩
    rw [dec_str]
    exact .inl (q _ _ _ r (Stay.refl _ _) ox_bl)
  · exact .inr (os_dat H0 α0 σ H α s x y a b d Q r rx ry e q)
end
end DL

namespace DL
open PySem PySem.Spec PyProof.Rows L2
/-! ### 35. Reckoning with the plain functions -/
section
variable {α β : Type}
@[simp] theorem bind_ok (a : α) (s : S) (f : α → S → Res β) : Res.bind (.ok a s) f = f a s := rfl
@[simp] theorem bind_exc (e : EX) (s : S) (f : α → S → Res β) : Res.bind (.exc e s) f = .exc e s := rfl
@[simp] theorem bind_bad (f : α → S → Res β) : Res.bind .bad f = .bad := rfl
end
@[simp] theorem ap_C (d : D) (s : S) : dC d s = .ok d s := rfl
@[simp] theorem ap_Var (i : Nat) (s : S) : dVar i s = (match s.δ[i]? with | some (.val d) => .ok d s | some (.own _) => .ok (.own i) s | _ => .bad) := rfl
@[simp] theorem ap_Op (g : S → D → D → Option D) (fa fb : FE) (s : S) : dOp g fa fb s = (fa s).bind fun a s1 => (fb s1).bind fun b s2 => match g s2 a b with | some d => .ok d s2 | none => .bad := rfl
@[simp] theorem ap_CmpT (g : S → D → D → Option D) (fa fb : FE) (s : S) : dCmpT g fa fb s = (fa s).bind fun a s1 => (fb s1).bind fun b s2 => match g s2 a b with | some (.bl k) => .ok k s2 | _ => .bad := rfl
@[simp] theorem ap_Nil (s : S) : dNil s = .ok [] s := rfl
@[simp] theorem ap_Cons (fa : FE) (fr : FA) (s : S) : dCons fa fr s = (fa s).bind fun d s1 => (fr s1).bind fun ds s2 => .ok (d :: ds) s2 := rfl
@[simp] theorem ap_Tup (fa : FA) (s : S) : dTup fa s = (fa s).bind fun ds s1 => if ds.all noOwn && decide (ds.length ≤ 16777216) then .ok (.tup ds) s1 else .bad := rfl
@[simp] theorem ap_Lst (fa : FA) (s : S) : dLst fa s = (fa s).bind fun ds s1 => if ds.all noOwn && decide (ds.length ≤ 16777216) then .ok (.lst ds) s1 else .bad := rfl
@[simp] theorem ap_B (g : S → List D → Option D) (fa : FA) (s : S) : dB g fa s = (fa s).bind fun ds s1 => match g s1 ds with | some d => .ok d s1 | none => .bad := rfl
@[simp] theorem ap_BF (g : S → List D → Option Cell) (fa : FA) (s : S) : dBF g fa s = (fa s).bind fun ds s1 => match g s1 ds with | some d => .ok d s1 | none => .bad := rfl
@[simp] theorem ap_Call (F : FF) (fa : FA) (s : S) : dCall F fa s = (fa s).bind fun ds s1 => if ds.all noOwn then (match F ds s1.μ with | .ok d μ' => .ok d { s1 with μ := μ' } | .exc e μ' => .exc e { s1 with μ := μ' } | _ => .bad) else .bad := rfl
@[simp] theorem ap_CallF (F : FF) (fa : FA) (s : S) : dCallF F fa s = (fa s).bind fun ds s1 => if ds.all noOwn then (match F ds s1.μ with | .okc c μ' => .ok c { s1 with μ := μ' } | .exc e μ' => .exc e { s1 with μ := μ' } | _ => .bad) else .bad := rfl
@[simp] theorem ap_Frz (f : FC) (s : S) : dFrz f s = (f s).bind fun c s1 => match c with | .dead => .bad | .tab _ => .bad | c => .ok c.toD s1 := rfl
@[simp] theorem ap_Ret (fa : FE) (s : S) : dRet fa s = (match fa s with | .ok d s1 => if noOwn d then .rt d s1 else .bad | .exc e s1 => .exc e s1 | .bad => .bad) := rfl
@[simp] theorem ap_RetF (fa : FC) (s : S) : dRetF fa s = (match fa s with | .ok c s1 => .rtc c s1 | .exc e s1 => .exc e s1 | .bad => .bad) := rfl
@[simp] theorem ap_Skip (s : S) : dSkip s = .nx s := rfl
@[simp] theorem ap_Seq (f g : FS) (s : S) : dSeq f g s = (match f s with | .nx s1 => g s1 | r => r) := by
  unfold dSeq
  cases f s <;> rfl
@[simp] theorem ap_IfS (ft : FT) (f g : FS) (s : S) : dIfS ft f g s = (match ft s with | .ok true s1 => f s1 | .ok false s1 => g s1 | .exc e s1 => .exc e s1 | .bad => .bad) := rfl
@[simp] theorem ap_Asg (i : Nat) (fa : FE) (s : S) : dAsg i fa s = (match fa s with | .ok d s1 => if noOwn d then .nx { s1 with δ := s1.δ.set i (.val d) } else .bad | .exc e s1 => .exc e s1 | .bad => .bad) := rfl
@[simp] theorem ap_AsgO (i : Nat) (fa : FC) (s : S) : dAsgO i fa s = (match fa s with | .ok c s1 => .nx { s1 with δ := s1.δ.set i (.own c) } | .exc e s1 => .exc e s1 | .bad => .bad) := rfl
@[simp] theorem ap_Drop (fa : FE) (s : S) : dDrop fa s = (match fa s with | .ok _ s1 => .nx s1 | .exc e s1 => .exc e s1 | .bad => .bad) := by
  unfold dDrop
  cases fa s <;> rfl
@[simp] theorem ap_NotT (fa : FT) (s : S) : dNotT fa s = (fa s).bind fun b s1 => .ok (!b) s1 := rfl
@[simp] theorem ap_AndT (fa fb : FT) (s : S) : dAndT fa fb s = (fa s).bind fun b s1 => if b then fb s1 else .ok false s1 := rfl
@[simp] theorem ap_OrT (fa fb : FT) (s : S) : dOrT fa fb s = (fa s).bind fun b s1 => if b then .ok true s1 else fb s1 := rfl
@[simp] theorem ap_AndV (fa fb : FE) (s : S) : dAndV fa fb s = (fa s).bind fun d s1 => match truthD s1 d with | some true => fb s1 | some false => .ok d s1 | none => .bad := rfl
@[simp] theorem ap_OrV (fa fb : FE) (s : S) : dOrV fa fb s = (fa s).bind fun d s1 => match truthD s1 d with | some true => .ok d s1 | some false => fb s1 | none => .bad := rfl
@[simp] theorem ap_NotV (fa : FE) (s : S) : dNotV fa s = (fa s).bind fun d s1 => match truthD s1 d with | some b => .ok (.bl (!b)) s1 | none => .bad := rfl
@[simp] theorem ap_Truth (fa : FE) (s : S) : dTruth fa s = (fa s).bind fun d s1 => match truthD s1 d with | some b => .ok b s1 | none => .bad := rfl
@[simp] theorem ap_If (ft : FT) (fa fb : FE) (s : S) : dIf ft fa fb s = (ft s).bind fun b s1 => if b then fa s1 else fb s1 := rfl
@[simp] theorem ap_Yes (s : S) : dYes s = .ok true s := rfl
@[simp] theorem ap_Iter (fa : FE) (s : S) : dIter fa s = (fa s).bind fun d s1 => match fixSeq d with | some xs => .ok xs s1 | none => .bad := rfl
@[simp] theorem ap_IterEn (fa : FA) (s : S) : dIterEn fa s = (fa s).bind fun ds s1 => match ds with | [d] => (match fixSeq d with | some xs => .ok (enD 0 xs) s1 | none => .bad) | _ => .bad := rfl
@[simp] theorem ap_IterZp (fa : FA) (s : S) : dIterZp fa s = (fa s).bind fun ds s1 => match ds with | [d, e] => (match fixSeq d, fixSeq e with | some xs, some ys => .ok (zpD xs ys) s1 | _, _ => .bad) | _ => .bad := rfl
@[simp] theorem ap_Lc (vs : List Nat) (fi : FA) (g : FG) (ft : FT) (fe : FE) (s : S) : dLc vs fi g ft fe s = (fi s).bind fun ds s1 => if ds.length ≤ 16777216 && vs.all (fun v => !isOwn s1.δ v) then (match dLcGo vs g ft fe ds s1 with | .ok ys s2 => .ok (.lst ys) s2 | _ => .bad) else .bad := rfl
@[simp] theorem isOwn_c (δ : List Slot) (i : Nat) : isOwn δ i = (match δ[i]? with | some (.own _) => true | _ => false) := rfl
@[simp] theorem ap_gNm (i : Nat) (d : D) (s : S) : gNm i d s = some { s with δ := s.δ.set i (.val d) } := rfl
@[simp] theorem ap_gT (r : FGs) (ds : List D) (s : S) : gT r (.tup ds) s = r ds s := rfl
@[simp] theorem ap_gC (g : FG) (r : FGs) (d : D) (ds : List D) (s : S) : gC g r (d :: ds) s = (g d s).bind fun s1 => r ds s1 := rfl
@[simp] theorem ap_gN (s : S) : gN [] s = some s := rfl
@[simp] theorem ap_Neg (fa : FE) (s : S) : dNeg fa s = (fa s).bind fun a s1 => match a with | .int i => .ok (.int (-i)) s1 | _ => .bad := rfl
@[simp] theorem no_non : noOwn .non = true := rfl
@[simp] theorem no_bl (b : Bool) : noOwn (.bl b) = true := rfl
@[simp] theorem no_int (i : Int) : noOwn (.int i) = true := rfl
@[simp] theorem no_str (i : Str) : noOwn (.str i) = true := rfl
@[simp] theorem no_tup (i : List D) : noOwn (.tup i) = true := rfl
@[simp] theorem no_lst (i : List D) : noOwn (.lst i) = true := rfl
@[simp] theorem no_dct (i : List (D × D)) : noOwn (.dct i) = true := rfl
@[simp] theorem no_ref (i : Nat) : noOwn (.ref i) = true := rfl
@[simp] theorem no_ty (i : String) : noOwn (.ty i) = true := rfl
@[simp] theorem tr_bl (s : S) (b : Bool) : truthD s (.bl b) = some b := rfl
@[simp] theorem tr_int (s : S) (i : Int) : truthD s (.int i) = some (i != 0) := rfl
@[simp] theorem fs_tup (xs : List D) : fixSeq (.tup xs) = some xs := rfl
@[simp] theorem fs_lst (xs : List D) : fixSeq (.lst xs) = some xs := rfl
@[simp] theorem asq_tup (s : S) (xs : List D) : asSeq s (.tup xs) = some xs := rfl
@[simp] theorem asq_lst (s : S) (xs : List D) : asSeq s (.lst xs) = some xs := rfl
@[simp] theorem asl_lst (s : S) (xs : List D) : asL s (.lst xs) = some xs := rfl
@[simp] theorem toD_lst (xs : List D) : Cell.toD (.lst xs) = .lst xs := rfl
@[simp] theorem frz_lst (xs : List D) (s : S) : (match Cell.lst xs with | .dead => Res.bad | .tab _ => Res.bad | c => Res.ok c.toD s) = .ok (.lst xs) s := rfl
/-! data in plain words -/
theorem py_ints : ∀ xs : List Int, toPyL (xs.map .int) = some (xs.map .int)
  | [] => rfl
  | x :: xs => by simp [toPyL, toPy, py_ints xs]
@[simp] theorem pys_int (s : S) (i : Int) : toPyS s (.int i) = some (.int i) := rfl
@[simp] theorem pys_bl (s : S) (b : Bool) : toPyS s (.bl b) = some (.bool b) := rfl
@[simp] theorem pys_str (s : S) (x : Str) : toPyS s (.str x) = some (.str x) := rfl
@[simp] theorem pys_non (s : S) : toPyS s .non = some .none := rfl
@[simp] theorem pys_tup (s : S) (xs : List D) : toPyS s (.tup xs) = (toPyL xs).map .tuple := by simp [toPyS, toPy]
@[simp] theorem pys_lst (s : S) (xs : List D) : toPyS s (.lst xs) = (toPyL xs).map .list := by simp [toPyS, toPy]
theorem eqv_ints : ∀ xs ys : List Int, PyData.eqvAll (xs.map .int) (ys.map .int) = decide (xs = ys)
  | [], [] => by simp [PyData.eqvAll]
  | [], y :: ys => by simp [PyData.eqvAll]
  | x :: xs, [] => by simp [PyData.eqvAll]
  | x :: xs, y :: ys => by
    simp only [List.map_cons, PyData.eqvAll, PyData.eqv, eqv_ints xs ys, List.cons.injEq]
    by_cases h : x = y <;> simp [h]
theorem sh_int (i : Int) : SeqAt.shaped (.int i) = true := by simp [SeqAt.shaped, PyData.canLay0, PyData.depth]
@[simp] theorem eq_ii (s : S) (a b : Int) : eqS s (.int a) (.int b) = some (.bl (a == b)) := by
  simp [eqS, twoStr, gDat, eqG, sh_int, PyData.eqv]
@[simp] theorem ne_ii (s : S) (a b : Int) : neS s (.int a) (.int b) = some (.bl (!(a == b))) := by
  simp [neS, twoStr, gDat, neG, sh_int, PyData.eqv]
@[simp] theorem ne_ss (s : S) (a b : Str) : neS s (.str a) (.str b) = some (.bl (!(a == b))) := rfl
@[simp] theorem eq_ss (s : S) (a b : Str) : eqS s (.str a) (.str b) = some (.bl (a == b)) := rfl
theorem depth_ints : ∀ xs : List Int, PyData.depthAll (xs.map .int) = 0
  | [] => rfl
  | x :: xs => by simp [PyData.depthAll, PyData.depth, depth_ints xs]
theorem can_ints : ∀ xs : List Int, PyData.canLayAll0 (xs.map .int) = true
  | [] => by simp [PyData.canLayAll0]
  | x :: xs => by simp [PyData.canLayAll0, PyData.canLay0, can_ints xs]
/-- a row of ints -/
abbrev Ri (xs : List Int) : D := .tup (xs.map .int)
theorem sh_row (xs : List Int) : SeqAt.shaped (.tuple (xs.map .int)) = true := by simp [SeqAt.shaped, PyData.canLay0, PyData.depth, depth_ints, can_ints]
theorem sh_lsti (xs : List Int) : SeqAt.shaped (.list (xs.map .int)) = true := by simp [SeqAt.shaped, PyData.canLay0, PyData.depth, depth_ints, can_ints]
@[simp] theorem ne_rr (s : S) (a b : List Int) : neS s (.tup (a.map .int)) (.tup (b.map .int)) = some (.bl (!decide (a = b))) := by
  simp [neS, twoStr, gDat, neG, sh_row, PyData.eqv, py_ints, eqv_ints]
@[simp] theorem eq_rr (s : S) (a b : List Int) : eqS s (.tup (a.map .int)) (.tup (b.map .int)) = some (.bl (decide (a = b))) := by
  simp [eqS, twoStr, gDat, eqG, sh_row, PyData.eqv, py_ints, eqv_ints]
@[simp] theorem ne_ll (s : S) (a b : List Int) : neS s (.lst (a.map .int)) (.lst (b.map .int)) = some (.bl (!decide (a = b))) := by
  simp [neS, twoStr, gDat, neG, sh_lsti, PyData.eqv, py_ints, eqv_ints]
@[simp] theorem eq_ll (s : S) (a b : List Int) : eqS s (.lst (a.map .int)) (.lst (b.map .int)) = some (.bl (decide (a = b))) := by
  simp [eqS, twoStr, gDat, eqG, sh_lsti, PyData.eqv, py_ints, eqv_ints]
@[simp] theorem lt_ii (s : S) (a b : Int) : gLt s (.int a) (.int b) = some (.bl (decide (a < b))) := rfl
@[simp] theorem le_ii (s : S) (a b : Int) : gLe s (.int a) (.int b) = some (.bl (decide (a ≤ b))) := rfl
@[simp] theorem gt_ii (s : S) (a b : Int) : gGt s (.int a) (.int b) = some (.bl (decide (b < a))) := rfl
@[simp] theorem ge_ii (s : S) (a b : Int) : gGe s (.int a) (.int b) = some (.bl (decide (b ≤ a))) := rfl
@[simp] theorem add_ii (s : S) (a b : Int) : gAdd s (.int a) (.int b) = some (.int (a + b)) := rfl
@[simp] theorem sub_ii (s : S) (a b : Int) : gSub s (.int a) (.int b) = some (.int (a - b)) := rfl
theorem mul_ii {a b : Int} (h : mulOk a b = true) (s : S) : gMul s (.int a) (.int b) = some (.int (a * b)) := by simp [gMul, h]
theorem mod_ii {a b : Int} (h : b ≠ 0) (s : S) : gMod s (.int a) (.int b) = some (.int (a.fmod b)) := by
  show (if (b != 0) = true then _ else _) = _
  rw [if_pos (by simpa using h)]
theorem fdiv_ii {a b : Int} (h : fdivOk a b = true) (s : S) : gFdiv s (.int a) (.int b) = some (.int (a.fdiv b)) := by
  show (if fdivOk a b = true then _ else _) = _
  rw [if_pos h]
end DL

namespace DL
open PySem PySem.Spec PyProof.Rows L2
/-! ### 36. Dicts: plain -/
def eqK (a b : D) : Bool := match keyD a, keyD b with
  | some x, some y => decide (x = y)
  | _, _ => false
def lookD (kvs : List (D × D)) (k : D) : Option D := (kvs.find? fun p => eqK p.1 k).map (·.2)
def hasD (kvs : List (D × D)) (k : D) : Bool := kvs.any fun p => eqK p.1 k
def putD (kvs : List (D × D)) (k v : D) : List (D × D) := if hasD kvs k then kvs.map (fun p => if eqK p.1 k then (p.1, v) else p) else kvs ++ [(k, v)]
def dropD (kvs : List (D × D)) (k : D) : List (D × D) := kvs.filter fun p => !eqK p.1 k
def mergeD (kvs more : List (D × D)) : List (D × D) := more.foldl (fun acc p => putD acc p.1 p.2) kvs
def keysOk (kvs : List (D × D)) : Bool := kvs.all fun p => (keyD p.1).isSome
def asD (s : S) (d : D) : Option (List (D × D)) := match cellAt s d with
  | some (.dct kvs) => if keysOk kvs then some kvs else none
  | _ => none
variable [DLX]
section
variable {K : PySem.W.Frag} {H0 H H' : Hp} {α0 α α' : List Addr} {σ : Sg} {s : S}
theorem rkv_nil : Rkv K H α [] [] := by simp only [Rkv]
theorem rkv_cons {k d : D} {q : Key} {v : V} {ds : List (D × D)} {l : List (Key × V)} (h0 : keyD k = some q) (h1 : Rv K H α d v) (h2 : Rkv K H α ds l) : Rkv K H α ((k, d) :: ds) ((q, v) :: l) := by
  simp only [Rkv]
  exact ⟨q, v, l, rfl, h0, h1, h2⟩
theorem rkv_inv {k d : D} {ds : List (D × D)} {l : List (Key × V)} (h : Rkv K H α ((k, d) :: ds) l) : ∃ q v r, l = (q, v) :: r ∧ keyD k = some q ∧ Rv K H α d v ∧ Rkv K H α ds r := by
  simpa only [Rkv] using h
theorem eqK_of {a b : D} {x y : Key} (ha : keyD a = some x) (hb : keyD b = some y) : eqK a b = decide (x = y) := by
  unfold eqK
  rw [ha, hb]
theorem rkv_len : ∀ {ds : List (D × D)} {l : List (Key × V)}, Rkv K H α ds l → l.length = ds.length
  | [], _, h => by simp only [Rkv] at h; rw [h]; rfl
  | (k, d) :: ds, l, h => by
    obtain ⟨q, v, r, rfl, _, _, h2⟩ := rkv_inv h
    simp [rkv_len h2]
theorem rkv_look {k : D} {q : Key} (hk : keyD k = some q) : ∀ {ds : List (D × D)} {l : List (Key × V)}, Rkv K H α ds l → (lookD ds k = none ∧ valV l q = none) ∨ ∃ d v, lookD ds k = some d ∧ valV l q = some v ∧ Rv K H α d v
  | [], _, h => by
    simp only [Rkv] at h
    subst h
    exact .inl ⟨rfl, valV_nil⟩
  | (k2, d) :: ds, l, h => by
    obtain ⟨q2, v, r, rfl, h0, h1, h2⟩ := rkv_inv h
    have e := eqK_of h0 hk
    by_cases hq : q2 = q
    · refine .inr ⟨d, v, ?_, valV_pos hq, h1⟩
      unfold lookD
      rw [List.find?_cons_of_pos (by rw [e]; exact decide_eq_true hq)]
      rfl
    · have e2 : lookD ((k2, d) :: ds) k = lookD ds k := by
        unfold lookD
        rw [List.find?_cons_of_neg (by rw [e]; simpa using hq)]
      rw [e2, valV_neg hq]
      exact rkv_look hk h2
theorem rkv_has {k : D} {q : Key} (hk : keyD k = some q) : ∀ {ds : List (D × D)} {l : List (Key × V)}, Rkv K H α ds l → (l.any fun kv => decide (kv.1 = q)) = hasD ds k
  | [], _, h => by
    simp only [Rkv] at h
    subst h
    rfl
  | (k2, d) :: ds, l, h => by
    obtain ⟨q2, v, r, rfl, h0, h1, h2⟩ := rkv_inv h
    unfold hasD
    rw [List.any_cons, List.any_cons, eqK_of h0 hk]
    exact congrArg _ (rkv_has hk h2)
theorem look_has (ds : List (D × D)) (k : D) : (lookD ds k).isSome = hasD ds k := by
  induction ds with
  | nil => rfl
  | cons p ds ih =>
    unfold lookD hasD at *
    rw [List.any_cons]
    by_cases e : eqK p.1 k = true
    · rw [List.find?_cons_of_pos (p := fun p : D × D => eqK p.1 k) e, e]; rfl
    · rw [List.find?_cons_of_neg (p := fun p : D × D => eqK p.1 k) e, ih]
      simp [e]
theorem rkv_map {k d : D} {q : Key} {v : V} (hk : keyD k = some q) (hv : Rv K H α d v) : ∀ {ds : List (D × D)} {l : List (Key × V)}, Rkv K H α ds l → Rkv K H α (ds.map fun p => if eqK p.1 k then (p.1, d) else p) (l.map fun kv => if kv.1 = q then (kv.1, v) else kv)
  | [], _, h => by
    simp only [Rkv] at h
    subst h
    exact rkv_nil
  | (k2, d2) :: ds, l, h => by
    obtain ⟨q2, v2, r, rfl, h0, h1, h2⟩ := rkv_inv h
    rw [List.map_cons, List.map_cons, eqK_of h0 hk]
    by_cases hq : q2 = q
    · rw [if_pos hq, if_pos (decide_eq_true hq)]
      exact rkv_cons h0 hv (rkv_map hk hv h2)
    · rw [if_neg hq, if_neg (by simpa using hq)]
      exact rkv_cons h0 h1 (rkv_map hk hv h2)
theorem rkv_app {k d : D} {q : Key} {v : V} (hk : keyD k = some q) (hv : Rv K H α d v) : ∀ {ds : List (D × D)} {l : List (Key × V)}, Rkv K H α ds l → Rkv K H α (ds ++ [(k, d)]) (l ++ [(q, v)])
  | [], _, h => by
    simp only [Rkv] at h
    subst h
    exact rkv_cons hk hv rkv_nil
  | (k2, d2) :: ds, l, h => by
    obtain ⟨q2, v2, r, rfl, h0, h1, h2⟩ := rkv_inv h
    exact rkv_cons h0 h1 (rkv_app hk hv h2)
theorem rkv_put {k d : D} {q : Key} {v : V} (hk : keyD k = some q) (hv : Rv K H α d v) {ds : List (D × D)} {l : List (Key × V)} (h : Rkv K H α ds l) : Rkv K H α (putD ds k d) (putK l q v) := by
  unfold putD putK
  rw [rkv_has hk h]
  split
  · exact rkv_map hk hv h
  · exact rkv_app hk hv h
theorem rkv_drop {k : D} {q : Key} (hk : keyD k = some q) : ∀ {ds : List (D × D)} {l : List (Key × V)}, Rkv K H α ds l → Rkv K H α (dropD ds k) (dropK l q)
  | [], _, h => by
    simp only [Rkv] at h
    subst h
    exact rkv_nil
  | (k2, d2) :: ds, l, h => by
    obtain ⟨q2, v2, r, rfl, h0, h1, h2⟩ := rkv_inv h
    have ih := rkv_drop hk h2
    unfold dropD dropK at *
    have e := eqK_of h0 hk
    by_cases hq : q2 = q
    · rw [List.filter_cons_of_neg (by rw [e]; simpa using hq), List.filter_cons_of_neg (by simpa using hq)]
      exact ih
    · rw [List.filter_cons_of_pos (by rw [e]; simpa using hq), List.filter_cons_of_pos (by simpa using hq)]
      exact rkv_cons h0 h1 ih
/-- a dict with int and text keys -/
theorem dT_not {kvs : List (D × D)} {kv : List (List Key × V)} (n : kvs ≠ []) (h : RkT K H α kvs kv) : keysOk kvs = false := by
  cases kvs with
  | nil => exact absurd rfl n
  | cons p ds =>
    obtain ⟨k, d⟩ := p
    simp only [RkT] at h
    obtain ⟨q, _, _, _, h0, _⟩ := h
    unfold keysOk
    rw [List.all_cons]
    cases k <;> simp only [keyT, reduceCtorEq] at h0
    rfl
theorem cell_dK {a : Addr} {kvs : List (D × D)} (h : CellOk K H α a (.dct kvs)) (ok : keysOk kvs = true) : ∃ kv, H a = some (.dK kv) ∧ Rkv K H α kvs kv := by
  rcases h with h | ⟨kv, n, _, h⟩
  · exact h
  · rw [dT_not n h] at ok; cases ok
theorem asD_ok {d : D} {v : V} {kvs : List (D × D)} (r : Rel K H0 α0 H α σ s) (h : Rx K H α σ d v) (e : asD s d = some kvs) : ∃ a kv, v = .ref a ∧ Rd H a (.dK kv) ∧ Rkv K H α kvs kv ∧ keysOk kvs = true := by
  unfold asD at e
  split at e
  · rename_i kvs' ec
    split at e
    · rename_i ok
      cases e
      cases d <;> simp only [cellAt, reduceCtorEq] at ec
      case ref n =>
        have h' : Rv K H α (.ref n) v := h
        simp only [Rv] at h'
        obtain ⟨a, ha, rfl⟩ := h'
        obtain ⟨kv, q, rr⟩ := cell_dK (r.cells.at_ n a _ ha ec) ok
        exact ⟨a, kv, rfl, .of q, rr, ok⟩
      case own i =>
        cases hc : s.δ[i]? with
        | none => rw [hc] at ec; simp at ec
        | some c =>
          rw [hc] at ec
          cases c with
          | no => simp at ec
          | val _ => simp at ec
          | own c =>
            simp only [Option.some.injEq] at ec
            subst ec
            have h' : σ[i]? = some (some v) := h
            obtain ⟨a, ha, _, _, q⟩ := r.slots.own i _ hc
            rw [h'] at ha
            cases ha
            obtain ⟨kv, q, rr⟩ := cell_dK q ok
            exact ⟨a, kv, rfl, .of q, rr, ok⟩
      case lst ys => simp at ec
      case dct ys =>
        simp only [Option.some.injEq, Cell.dct.injEq] at ec
        subst ec
        have h' : Rv K H α (.dct ys) v := h
        simp only [Rv] at h'
        obtain ⟨a, o, rfl, ⟨kv, q, rr⟩ | ⟨kv, n, _, rr⟩⟩ := h'
        · exact ⟨a, kv, rfl, .inr ⟨o, q⟩, rr, ok⟩
        · rw [dT_not n rr] at ok; cases ok
      case obj C fs => simp at ec
    · cases e
  · cases e
theorem key_kV {k : D} {q : Key} {v : V} (h : Rx K H α σ k v) (e : keyD k = some q) : v = kV q := by
  cases k <;> simp only [keyD, reduceCtorEq, Option.some.injEq] at e
  · subst e; exact rx_int h
  · subst e; exact rx_str h
theorem dget_of {a : Addr} {kv : List (Key × V)} {q : Key} (h : Rd H a (.dK kv)) : DGet H a (kV q) (valV kv q) := .inl ⟨kv, q, h, rfl, rfl⟩
end
/-! ### 37. Reading dicts: d[k], in, len -/
def rDGet : R2 := fun x y H Q => ∃ a v, x = .ref a ∧ DGet H a y (some v) ∧ Q v H
def rDIn (b : Bool) : R2 := fun x y H Q => ∃ a o, y = .ref a ∧ DGet H a x o ∧ Q (.bl (b == o.isSome)) H
def gIxD : S → D → D → Option D := fun s a b => (asD s a).bind fun kvs => if (keyD b).isSome then lookD kvs b else none
def gIxA : S → D → D → Option D := fun s a b => (gIx s a b).or (gIxD s a b)
def gInD : S → D → D → Option D := fun s a b => (asD s b).bind fun kvs => if (keyD a).isSome then some (.bl (hasD kvs a)) else none
def gNiD : S → D → D → Option D := fun s a b => (asD s b).bind fun kvs => if (keyD a).isSome then some (.bl (!hasD kvs a)) else none
def gInA : S → D → D → Option D := fun s a b => (gDat inG s a b).or (gInD s a b)
def gNiA : S → D → D → Option D := fun s a b => (gDat niG s a b).or (gNiD s a b)
section
variable {X : Cx}
theorem ix_dget (hu : X.A.units + 1 < cLine) : IxR X rDGet := by
  intro value slice pins s σ H x y v u Q I rx ry h hs
  obtain ⟨a, z, rfl, g, q⟩ := h
  cases (show v = Value.ref a from rx)
  exact tail_any (dict_typeIs I g) slot_dict_getitem.lookup (d_getItem hu I g ry fun w' s' I' rw' => ⟨z, H, I', rw', q⟩) hs
theorem os_dget : OpS X rDGet gIxD := fun H0 α0 σ H α s x y a b d Q r rx ry e q => by
  unfold gIxD at e
  cases ea : asD s a with
  | none => rw [ea] at e; cases e
  | some kvs =>
    rw [ea] at e
    simp only [Option.bind_some] at e
    obtain ⟨p, kv, rfl, h1, h2, _⟩ := asD_ok r rx ea
    split at e
    · rename_i hk
      obtain ⟨k, ek⟩ := Option.isSome_iff_exists.mp hk
      cases key_kV ry ek
      rcases rkv_look ek h2 with ⟨z, _⟩ | ⟨d', v, h3, h4, h5⟩
      · rw [z] at e; cases e
      · rw [h3] at e
        cases e
        exact ⟨p, v, rfl, by rw [← h4]; exact dget_of h1, .inl (q _ _ _ r (Stay.refl _ _) (Rv.x h5))⟩
    · cases e
theorem pd_ixA {a b : Expr} {pos : Pos} {fa fb : FE} (hu : X.A.units + 65 < cLine) (ha : PED X a fa) (hb : PED X b fb) (hs : PlainIx b := by exact fun _ _ => rfl) : PED X (.Subscript a b pos) (dOp gIxA fa fb) :=
  pd_opG (fun _ _ pa pb => pe_ix (ixGh (ix_seq.or (ix_dget (by omega)))) pa pb hs) (OpS.or os_ix os_dget) ha hb
theorem op_dIn (hu : X.A.units + 1 < cLine) : OpR X (compareOp .In) (rDIn true) := by
  intro pins s σ H x y v u Q I rx ry h
  obtain ⟨a, o, rfl, g, q⟩ := h
  cases (show u = Value.ref a from ry)
  exact d_in hu I g rx fun s' I' => ⟨.bl o.isSome, H, I', rfl, by simpa using q⟩
theorem op_dNi (hu : X.A.units + 1 < cLine) : OpR X (compareOp .NotIn) (rDIn false) := by
  intro pins s σ H x y v u Q I rx ry h
  obtain ⟨a, o, rfl, g, q⟩ := h
  cases (show u = Value.ref a from ry)
  exact d_notIn hu I g rx fun s' I' => ⟨.bl (!o.isSome), H, I', rfl, by
    have e : (false == o.isSome) = !o.isSome := by cases o.isSome <;> rfl
    rw [e] at q
    exact q⟩
theorem os_dIn : OpS X (rDIn true) gInD := fun H0 α0 σ H α s x y a b d Q r rx ry e q => by
  unfold gInD at e
  cases eb : asD s b with
  | none => rw [eb] at e; cases e
  | some kvs =>
    rw [eb] at e
    simp only [Option.bind_some] at e
    obtain ⟨p, kv, rfl, h1, h2, _⟩ := asD_ok r ry eb
    split at e
    · rename_i hk
      cases e
      obtain ⟨k, ek⟩ := Option.isSome_iff_exists.mp hk
      cases key_kV rx ek
      refine ⟨p, _, rfl, dget_of h1, .inl (q _ _ _ r (Stay.refl _ _) ?_)⟩
      rw [← rkv_has ek h2, valV_any]
      simpa using ox_bl
    · cases e
theorem os_dNi : OpS X (rDIn false) gNiD := fun H0 α0 σ H α s x y a b d Q r rx ry e q => by
  unfold gNiD at e
  cases eb : asD s b with
  | none => rw [eb] at e; cases e
  | some kvs =>
    rw [eb] at e
    simp only [Option.bind_some] at e
    obtain ⟨p, kv, rfl, h1, h2, _⟩ := asD_ok r ry eb
    split at e
    · rename_i hk
      cases e
      obtain ⟨k, ek⟩ := Option.isSome_iff_exists.mp hk
      cases key_kV rx ek
      refine ⟨p, _, rfl, dget_of h1, .inl (q _ _ _ r (Stay.refl _ _) ?_)⟩
      rw [← rkv_has ek h2, valV_any]
      have e : ∀ b : Bool, (false == b) = !b := by decide
      rw [e]
      exact ox_bl
    · cases e
theorem c_inA (hu : X.A.units + 65 < cLine) : Cmp X .In gInA := ⟨_, (op_inX hu).or (op_dIn (by omega)), OpS.or os_dat os_dIn⟩
theorem c_niA (hu : X.A.units + 65 < cLine) : Cmp X .NotIn gNiA := ⟨_, (op_niX hu).or (op_dNi (by omega)), OpS.or os_dat os_dNi⟩
end
end DL

namespace DL
open PySem PySem.Spec PyProof.Rows L2
/-! ### 38. Walks over whatever stands still -/
def chD (z : Str) : List D := z.cps.toList.map fun c => .str ⟨#[c]⟩
def iterD : D → Option (List D)
  | .tup xs => some xs
  | .lst xs => some xs
  | .dct kvs => if keysOk kvs then some (kvs.map (·.1)) else none
  | .str z => some (chD z)
  | _ => none
def frzD : D → Option (List (D × D))
  | .dct kvs => if keysOk kvs then some kvs else none
  | _ => none
def dIterA (fa : FE) : FA := fun s => (fa s).bind fun d s1 => match iterD d with | some xs => .ok xs s1 | none => .bad
def dItVals (fa : FE) : FA := fun s => (fa s).bind fun d s1 => match frzD d with | some kvs => .ok (kvs.map (·.2)) s1 | none => .bad
def dItItems (fa : FE) : FA := fun s => (fa s).bind fun d s1 => match frzD d with | some kvs => .ok (kvs.map fun p => .tup [p.1, p.2]) s1 | none => .bad
variable [DLX]
section
variable {K : PySem.W.Frag} {H H1 : Hp} {α α1 : List Addr}
theorem rv_key {k : D} {q : Key} (e : keyD k = some q) : Rv K H α k (kV q) := by
  cases k <;> simp only [keyD, reduceCtorEq, Option.some.injEq] at e
  · subst e; simp only [Rv, kV]
  · subst e; simp only [Rv, kV]
theorem rkv_at : ∀ {ds : List (D × D)} {l : List (Key × V)} {i : Nat} {k d : D}, Rkv K H α ds l → ds[i]? = some (k, d) → ∃ q v, l[i]? = some (q, v) ∧ keyD k = some q ∧ Rv K H α d v
  | [], _, _, _, _, _, e => by simp at e
  | (k2, d2) :: ds, l, i, k, d, h, e => by
    obtain ⟨q, v, r, rfl, h0, h1, h2⟩ := rkv_inv h
    cases i with
    | zero => simp at e; obtain ⟨rfl, rfl⟩ := e; exact ⟨q, v, rfl, h0, h1⟩
    | succ i => simpa using rkv_at (i := i) h2 (by simpa using e)
theorem walk_keys {a : Addr} {o : Obj} {kvs : List (D × D)} {kv : List (Key × V)} (h : H1 a = some (.frz o (.dK kv))) (rr : Rkv K H1 α1 kvs kv) : WalkD K (Itk a o kv) (kvs.map (·.1)) H1 α1 := by
  refine ⟨fun H α t => ⟨t.im _ _ h trivial, by rw [List.length_map, rkv_len rr]; exact Nat.le_refl _⟩, fun H α i d t e => ⟨t.im _ _ h trivial, ?_⟩, fun H0 α0 H α σ s i d x H' t r e y => ?_⟩
  · have := (List.getElem?_eq_some_iff.mp e).1
    rw [rkv_len rr]
    simpa using this
  · rw [List.getElem?_map, Option.map_eq_some_iff] at e
    obtain ⟨⟨k, d'⟩, e, rfl⟩ := e
    obtain ⟨q, v, e1, e2, _⟩ := rkv_at rr e
    obtain ⟨rfl, k', v', y1, rfl⟩ := y
    rw [e1] at y1
    cases y1
    exact ⟨r, Stay.refl _ _, rv_key e2⟩
theorem walk_vals {a : Addr} {o : Obj} {kvs : List (D × D)} {kv : List (Key × V)} (h : H1 a = some (.frz o (.dK kv))) (rr : Rkv K H1 α1 kvs kv) : WalkD K (Itd a o kv) (kvs.map (·.2)) H1 α1 := by
  refine ⟨fun H α t => ⟨t.im _ _ h trivial, by rw [List.length_map, rkv_len rr]; exact Nat.le_refl _⟩, fun H α i d t e => ⟨t.im _ _ h trivial, ?_⟩, fun H0 α0 H α σ s i d x H' t r e y => ?_⟩
  · have := (List.getElem?_eq_some_iff.mp e).1
    rw [rkv_len rr]
    simpa using this
  · rw [List.getElem?_map, Option.map_eq_some_iff] at e
    obtain ⟨⟨k, d'⟩, e, rfl⟩ := e
    obtain ⟨q, v, e1, e2, e3⟩ := rkv_at rr e
    obtain ⟨rfl, k', y1⟩ := y
    rw [e1] at y1
    cases y1
    exact ⟨r, Stay.refl _ _, Rv.stay t _ _ e3⟩
theorem walk_items {a : Addr} {o : Obj} {kvs : List (D × D)} {kv : List (Key × V)} (h : H1 a = some (.frz o (.dK kv))) (rr : Rkv K H1 α1 kvs kv) : WalkD K (Iti a o kv) (kvs.map fun p => .tup [p.1, p.2]) H1 α1 := by
  refine ⟨fun H α t => ⟨t.im _ _ h trivial, by rw [List.length_map, rkv_len rr]; exact Nat.le_refl _⟩, fun H α i d t e => ⟨t.im _ _ h trivial, ?_⟩, fun H0 α0 H α σ s i d x H' t r e y => ?_⟩
  · have := (List.getElem?_eq_some_iff.mp e).1
    rw [rkv_len rr]
    simpa using this
  · rw [List.getElem?_map, Option.map_eq_some_iff] at e
    obtain ⟨⟨k, d'⟩, e, rfl⟩ := e
    obtain ⟨q, v, e1, e2, e3⟩ := rkv_at rr e
    obtain ⟨T, k', v', y1, rfl, hT, rfl⟩ := y
    rw [e1] at y1
    cases y1
    have t2 : Stay H α (upd H T (.tup [kV q, v])) α := Stay.upd_new hT
    refine ⟨r.new hT, t2, ?_⟩
    simp only [Rv]
    exact ⟨T, _, rfl, .inl (.inl upd_same), .cons (rv_key e2) (.single (Rv.stay (t.trans t2) _ _ e3))⟩
theorem walk_chars {z : Str} : WalkD K (Its z) (chD z) H1 α1 := by
  have hl : (chD z).length = z.cps.size := by simp [chD]
  refine ⟨fun H α t => by rw [hl]; exact Nat.le_refl z.cps.size, fun H α i d t e => ?_, fun H0 α0 H α σ s i d x H' t r e y => ?_⟩
  · have := (List.getElem?_eq_some_iff.mp e).1
    rw [hl] at this
    exact this
  · obtain ⟨rfl, c, hc, rfl⟩ := y
    refine ⟨r, Stay.refl _ _, ?_⟩
    unfold chD at e
    rw [List.getElem?_map, Array.getElem?_toList, hc] at e
    cases e
    simp only [Rv]
end
section
variable {X : Cx}
def iAny (K : PySem.W.Frag) (tl : TE) : TI := fun σ H R => iSeq K tl σ H R ∨ iKeys tl σ H R ∨ iStr tl σ H R
theorem PIany {tg e : Expr} {tl : TE} (h : PE X e tl) : PI X tg e (iAny X.K tl) := ⟨fun pins s σ H R I q => by
  rcases q with q | q | q
  · exact (PIorT h).run pins s σ H R I q
  · exact (pi_keys h).run pins s σ H R I q
  · exact (pi_str h).run pins s σ H R I q⟩
theorem frz_at {K : PySem.W.Frag} {H : Hp} {α : List Addr} {kvs : List (D × D)} {v : V} (h : Rv K H α (.dct kvs) v) (ok : keysOk kvs = true) : ∃ a o kv, v = .ref a ∧ H a = some (.frz o (.dK kv)) ∧ Rkv K H α kvs kv := by
  simp only [Rv] at h
  obtain ⟨a, o, rfl, ⟨kv, q, rr⟩ | ⟨kv, n, _, rr⟩⟩ := h
  · exact ⟨a, o, kv, rfl, q, rr⟩
  · rw [dT_not n rr] at ok; cases ok
theorem frzD_at {K : PySem.W.Frag} {H : Hp} {α : List Addr} {σ : Sg} {d : D} {kvs : List (D × D)} {v : V} (h : Rx K H α σ d v) (e : frzD d = some kvs) : ∃ a o kv, v = .ref a ∧ H a = some (.frz o (.dK kv)) ∧ Rkv K H α kvs kv := by
  unfold frzD at e
  split at e
  · split at e
    · rename_i ok
      cases e
      exact frz_at h ok
    · cases e
  · cases e
theorem id_any {tg e : Expr} {fa : FE} (ha : PED X e fa) : PID X tg e (dIterA fa) := by
  refine ⟨fun W tk => ?_⟩
  obtain ⟨t, p, q⟩ := ha.run W tk
  refine ⟨_, PIany p, fun H0 α0 σ H α s R r k => ?_⟩
  unfold dIterA at k
  cases ea : fa s with
  | bad => rw [ea] at k; exact k.elim
  | exc e s1 =>
    rw [ea] at k
    refine .inl (q H0 α0 σ H α s _ r ?_)
    rw [ea]
    exact k
  | ok d s1 =>
    rw [ea] at k
    simp only [Res.bind] at k
    have go : ∀ Q : VK, (∀ v H' α', Rel X.K H0 α0 H' α' σ s1 → Stay H α H' α' → Rx X.K H' α' σ d v → Q v H') → t σ H Q := fun Q hq => q H0 α0 σ H α s Q r (by rw [ea]; exact hq)
    cases d <;> simp only [iterD] at k <;> try exact k.elim
    case tup xs =>
      refine .inl (go _ fun v H1 α1 r1 t1 rv => ?_)
      obtain ⟨a, vs, rfl, h1, rr⟩ := asT_ok rv
      exact .inr ⟨a, rfl, ⟨vs, h1⟩, k _ H1 α1 r1 t1 (walk_fixT h1 rr)⟩
    case lst xs =>
      refine .inl (go _ fun v H1 α1 r1 t1 rv => ?_)
      have rv' : Rv X.K H1 α1 (.lst _) v := rv
      simp only [Rv] at rv'
      obtain ⟨a, vs, rfl, h1, rr⟩ := rv'
      exact .inl ⟨a, rfl, ⟨vs, h1.sq⟩, k _ H1 α1 r1 t1 (walk_fixL h1 rr)⟩
    case dct kvs =>
      by_cases ok : keysOk kvs = true
      · rw [if_pos ok] at k
        refine .inr (.inl (go _ fun v H1 α1 r1 t1 rv => ?_))
        obtain ⟨a, o, kv, rfl, h1, rr⟩ := frz_at (show Rv X.K H1 α1 (.dct kvs) v from rv) ok
        exact ⟨a, o, rfl, .inl ⟨kv, h1, k _ H1 α1 r1 t1 (walk_keys h1 rr)⟩⟩
      · rw [if_neg ok] at k
        exact k.elim
    case str z =>
      refine .inr (.inr (go _ fun v H1 α1 r1 t1 rv => ?_))
      exact ⟨z, rx_str rv, k _ H1 α1 r1 t1 walk_chars⟩
theorem id_vals {tg e : Expr} {fa : FE} {apos cpos : Pos} (ha : PED X e fa) (hbase : attributeBase e "values" X.env (eval e X.env) = eval e X.env := by rfl) (hline : (apos.endLine == cpos.line) = true := by rfl) : PID X tg (.Call (.Attribute e "values" apos) [] [] cpos) (dItVals fa) := by
  refine ⟨fun W tk => ?_⟩
  obtain ⟨t, p, q⟩ := ha.run W tk
  refine ⟨_, pi_values p hbase hline, fun H0 α0 σ H α s R r k => q H0 α0 σ H α s _ r ?_⟩
  unfold dItVals at k
  cases ea : fa s with
  | bad => rw [ea] at k; exact k.elim
  | exc e s1 => rw [ea] at k; exact k
  | ok d s1 =>
    rw [ea] at k
    intro v H1 α1 r1 t1 rv
    simp only [Res.bind] at k
    cases ed : frzD d with
    | none => rw [ed] at k; exact k.elim
    | some kvs =>
      rw [ed] at k
      obtain ⟨a, o, kv, rfl, h1, rr⟩ := frzD_at rv ed
      exact ⟨a, o, kv, rfl, h1, k _ H1 α1 r1 t1 (walk_vals h1 rr)⟩
theorem id_items {elts : List Expr} {kk : Nat} {tpos : Pos} {e : Expr} {fa : FE} {apos cpos : Pos} (ha : PED X e fa) (hbase : attributeBase e "items" X.env (eval e X.env) = eval e X.env := by rfl) (hline : (apos.endLine == cpos.line) = true := by rfl) : PID X (.Tuple elts kk tpos) (.Call (.Attribute e "items" apos) [] [] cpos) (dItItems fa) := by
  refine ⟨fun W tk => ?_⟩
  obtain ⟨t, p, q⟩ := ha.run W tk
  refine ⟨_, pi_items p hbase hline, fun H0 α0 σ H α s R r k => q H0 α0 σ H α s _ r ?_⟩
  unfold dItItems at k
  cases ea : fa s with
  | bad => rw [ea] at k; exact k.elim
  | exc e s1 => rw [ea] at k; exact k
  | ok d s1 =>
    rw [ea] at k
    intro v H1 α1 r1 t1 rv
    simp only [Res.bind] at k
    cases ed : frzD d with
    | none => rw [ed] at k; exact k.elim
    | some kvs =>
      rw [ed] at k
      obtain ⟨a, o, kv, rfl, h1, rr⟩ := frzD_at rv ed
      exact ⟨a, o, kv, rfl, h1, k _ H1 α1 r1 t1 (walk_items h1 rr)⟩
/-! ### 39. Methods: get, pop, index -/
theorem mtm_get2 (hu : X.A.units + 1 < cLine) : MtM X "dict.get" (fun x xs H Q => ∃ a y d o, x = .ref a ∧ xs = [y, d] ∧ DGet H a y o ∧ Q (o.getD d) H) := fun pins s σ H x xs v us Q I rv rvs h => by
  obtain ⟨a, y, d, o, rfl, rfl, g, q⟩ := h
  cases (show v = Value.ref a from rv)
  cases rvs with
  | cons r1 r2 =>
    obtain ⟨u2, rfl, r3⟩ := vals1 r2
    exact d_get2 hu I g r1 r3 fun w' s' I' rw' => ⟨_, H, I', rw', q⟩
def gGet2 : S → D → List D → Option (D × S) := fun s o ds => match ds with
  | [k, x] => (asD s o).bind fun kvs => if (keyD k).isSome && noOwn x then some ((lookD kvs k).getD x, s) else none
  | _ => none
theorem mb_get2 (hu : X.A.units + 1 < cLine) : MB X "dict.get" gGet2 := .of (mtm_get2 hu) fun H0 α0 σ H α s xv xs o ds d s' Q r rx rxs e q => by
  unfold gGet2 at e
  split at e
  · rename_i k x
    cases ea : asD s o with
    | none => rw [ea] at e; cases e
    | some kvs =>
      rw [ea] at e
      simp only [Option.bind_some] at e
      split at e
      · rename_i hk
        cases e
        rw [Bool.and_eq_true] at hk
        obtain ⟨v1, v2, rfl, r1, r2⟩ := rxs.two
        obtain ⟨q0, ek⟩ := Option.isSome_iff_exists.mp hk.1
        obtain ⟨a, kv, rfl, h1, h2, _⟩ := asD_ok r rx ea
        cases key_kV r1 ek
        refine ⟨a, _, v2, _, rfl, rfl, dget_of h1, q _ _ _ r (Stay.refl _ _) ?_⟩
        rcases rkv_look ek h2 with ⟨z1, z2⟩ | ⟨d', v, h3, h4, h5⟩
        · rw [z1, z2]; exact r2
        · rw [h3, h4]; exact Rv.x h5
      · cases e
  · cases e
theorem pd_get2 {o e f : Expr} {apos cpos : Pos} {fo : FE} {fa : FA} (hu : X.A.units + 65 < cLine) (ho : PED X o fo) (ha : PAD X [e, f] fa) (hbase : attributeBase o "get" X.env (eval o X.env) = eval o X.env := by rfl)
    (hfew : ((backTo cpos (starEach [e, f] X.env)).all (fun x => !x.1) && (backToKw cpos (keywordEach [] X.env)).all (fun x => x.1.isSome)
      && decide ([e, f].length + ([] : List Keyword).length + (if ([] : List Keyword).isEmpty then 0 else 1) < 30)) = true := by rfl)
    (hline : (apos.endLine == cpos.line) = true := by rfl) (hs : starEach [e, f] X.env = (false, eval e X.env) :: starEach [f] X.env := by rfl) (hplain : (backTo cpos (starEach [f] X.env)).any (·.1) = false := by rfl) :
    PED X (.Call (.Attribute o "get" apos) [e, f] [] cpos) (dM "dict" gGet2 fo fa) := pd_m (.inr (.inl rfl)) F.plainAttrs_dict F.slot_dict_get F.type_dict_get (mb_get2 (by omega)) ho ha hbase hfew hline hs hplain
theorem mtm_pop2 : MtM X "dict.pop" (fun x xs H Q => ∃ a kvs k d, x = .ref a ∧ xs = [kV k, d] ∧ H a = some (.dK kvs) ∧ (∀ v, valV kvs k = some v → Q v (upd H a (.dK (dropK kvs k)))) ∧ (valV kvs k = none → Q d H)) := fun pins s σ H x xs v us Q I rv rvs h => by
  obtain ⟨a, kvs, k, d, rfl, rfl, e, q1, q2⟩ := h
  cases (show v = Value.ref a from rv)
  cases rvs with
  | cons r1 r2 =>
    obtain ⟨u2, rfl, r3⟩ := vals1 r2
    cases l : valV kvs k with
    | some v => exact d_pop I e r1 l (.inr ⟨u2, rfl⟩) fun w' s' I' rw' => ⟨v, _, I', rw', q1 v l⟩
    | none => exact d_popD I e r1 l fun s' I' => ⟨d, H, I', r3, q2 l⟩
def gPop2 : S → D → List D → Option (D × S) := fun s o ds => match ds, mutAt s o with
  | [k, x], some (.dct kvs) => if keysOk kvs && (keyD k).isSome && noOwn x then some (match lookD kvs k with | some v => (v, setAt s o (.dct (dropD kvs k))) | none => (x, s)) else none
  | _, _ => none
theorem mb_pop2 : MB X "dict.pop" gPop2 := .of mtm_pop2 fun H0 α0 σ H α s xv xs o ds d s' Q r rx rxs e q => by
  unfold gPop2 at e
  split at e
  · rename_i k x kvs em
    split at e
    · rename_i hk
      rw [Bool.and_eq_true, Bool.and_eq_true] at hk
      obtain ⟨v1, v2, rfl, r1, r2⟩ := rxs.two
      obtain ⟨q0, ek⟩ := Option.isSome_iff_exists.mp hk.1.2
      obtain ⟨a, rfl, hcell, kk⟩ := mut_at r rx em
      obtain ⟨kv, hv, rr⟩ := cell_dK hcell hk.1.1
      cases key_kV r1 ek
      obtain ⟨k1, t⟩ := mut_upd (α := α) (o := .dK (dropK kv q0)) hv (fun z => z)
      refine ⟨a, kv, q0, v2, rfl, rfl, hv, fun v l => ?_, fun l => ?_⟩
      · rcases rkv_look ek rr with ⟨z1, z2⟩ | ⟨d', w, h3, h4, h5⟩
        · rw [l] at z2; cases z2
        · rw [l] at h4
          cases h4
          rw [h3] at e
          cases e
          exact q _ _ α (kk _ _ k1 t (.inl ⟨_, upd_same, rkv_drop ek (Rkv.stay t _ _ rr)⟩)) t (Rv.x (Rv.stay t _ _ h5))
      · rcases rkv_look ek rr with ⟨z1, z2⟩ | ⟨d', w, h3, h4, h5⟩
        · rw [z1] at e
          cases e
          exact q _ _ _ r (Stay.refl _ _) r2
        · rw [l] at h4; cases h4
    · cases e
  · cases e
theorem pd_pop2 {o e f : Expr} {apos cpos : Pos} {fo : FE} {fa : FA} (ho : PED X o fo) (ha : PAD X [e, f] fa) (hbase : attributeBase o "pop" X.env (eval o X.env) = eval o X.env := by rfl)
    (hfew : ((backTo cpos (starEach [e, f] X.env)).all (fun x => !x.1) && (backToKw cpos (keywordEach [] X.env)).all (fun x => x.1.isSome)
      && decide ([e, f].length + ([] : List Keyword).length + (if ([] : List Keyword).isEmpty then 0 else 1) < 30)) = true := by rfl)
    (hline : (apos.endLine == cpos.line) = true := by rfl) (hs : starEach [e, f] X.env = (false, eval e X.env) :: starEach [f] X.env := by rfl) (hplain : (backTo cpos (starEach [f] X.env)).any (·.1) = false := by rfl) :
    PED X (.Call (.Attribute o "pop" apos) [e, f] [] cpos) (dM "dict" gPop2 fo fa) := pd_m (.inr (.inl rfl)) F.plainAttrs_dict F.slot_dict_pop F.type_dict_pop mb_pop2 ho ha hbase hfew hline hs hplain
/-- xs.pop(i) -/
def gPopAt : S → D → List D → Option (D × S) := fun s o ds => match ds, mutAt s o with
  | [.int i], some (.lst xs) => (seqIndex? i xs.length).bind fun k => if decide (-(2 ^ 63) ≤ i) && decide (i < 2 ^ 63) then xs[k]?.map fun d => (d, setAt s o (.lst (xs.eraseIdx k))) else none
  | _, _ => none
theorem rvs_erase {K : PySem.W.Frag} {H : Hp} {α : List Addr} : ∀ {ds : List D} {vs : List V} (k : Nat), Rvs K H α ds vs → Rvs K H α (ds.eraseIdx k) (vs.eraseIdx k)
  | [], _, k, h => by simp only [Rvs] at h; subst h; simp [Rvs]
  | d :: ds, l, k, h => by
    simp only [Rvs] at h
    obtain ⟨v, r, rfl, h1, h2⟩ := h
    cases k with
    | zero => exact h2
    | succ k => exact .cons h1 (rvs_erase k h2)
theorem mb_popAt : MB X "list.pop" gPopAt := .of mt_popAt fun H0 α0 σ H α s xv xs o ds d s' Q r rx rxs e q => by
  unfold gPopAt at e
  split at e
  · rename_i i ys em
    rw [Option.bind_eq_some_iff] at e
    obtain ⟨k, ek, e⟩ := e
    split at e
    · rename_i hi
      rw [Bool.and_eq_true, decide_eq_true_eq, decide_eq_true_eq] at hi
      rw [Option.map_eq_some_iff] at e
      obtain ⟨d', ed, e⟩ := e
      cases e
      obtain ⟨w, rfl, rw⟩ := rxs.one
      obtain ⟨a, rfl, hcell, kk⟩ := mut_at r rx em
      obtain ⟨vs, hv, rr⟩ := hcell
      obtain ⟨y, ey, ry⟩ := rr.at_ ed
      obtain ⟨k1, t⟩ := mut_upd (α := α) (o := .lst (vs.eraseIdx k)) hv (fun z => z)
      rw [rx_int rw]
      exact ⟨a, vs, i, k, y, rfl, rfl, hv, hi.1, hi.2, by rw [rr.length]; exact ek, ey, q _ _ α (kk _ _ k1 t ⟨_, upd_same, rvs_erase k (Rvs.stay t _ _ rr)⟩) t (Rv.x (Rv.stay t _ _ ry))⟩
    · cases e
  · cases e
theorem pd_popAt {o e : Expr} {apos cpos : Pos} {fo : FE} {fa : FA} (ho : PED X o fo) (ha : PAD X [e] fa) (hbase : attributeBase o "pop" X.env (eval o X.env) = eval o X.env := by rfl)
    (hfew : ((backTo cpos (starEach [e] X.env)).all (fun x => !x.1) && (backToKw cpos (keywordEach [] X.env)).all (fun x => x.1.isSome)
      && decide ([e].length + ([] : List Keyword).length + (if ([] : List Keyword).isEmpty then 0 else 1) < 30)) = true := by rfl)
    (hline : (apos.endLine == cpos.line) = true := by rfl) (hs : starEach [e] X.env = (false, eval e X.env) :: starEach [] X.env := by rfl) (hplain : (backTo cpos (starEach [] X.env)).any (·.1) = false := by rfl) :
    PED X (.Call (.Attribute o "pop" apos) [e] [] cpos) (dM "list" gPopAt fo fa) := pd_m (.inl rfl) F.plainAttrs_list F.slot_list_pop F.type_list_pop mb_popAt ho ha hbase hfew hline hs hplain
end
end DL

namespace DL
open PySem PySem.Spec PyProof.Rows L2
variable [DLX]
/-! ### 40. Stores: d[k] = v, d[k] += v -/
def gSetD : S → D → D → D → Option S := fun s o i d => match mutAt s o with
  | some (.dct kvs) => if keysOk kvs && (keyD i).isSome && decide (kvs.length < 16777216) then some (setAt s o (.dct (putD kvs i d))) else none
  | _ => none
def gSetA : S → D → D → D → Option S := fun s o i d => (gSetI s o i d).or (gSetD s o i d)
section
variable {X : Cx}
theorem PSet.or {t t' : TSet} (h : PSet X t) (h' : PSet X t') : PSet X (fun o i v H Q => t o i v H Q ∨ t' o i v H Q) := fun pins s σ H o i v ov iv u Q I ro ri rv q => by
  rcases q with q | q
  · exact h pins s σ H o i v ov iv u Q I ro ri rv q
  · exact h' pins s σ H o i v ov iv u Q I ro ri rv q
theorem dput_core {K : PySem.W.Frag} {H0 H : Hp} {α0 α : List Addr} {σ : Sg} {s s' : S} {x y v : V} {a b d : D} {Q : Hp → Prop} (r : Rel K H0 α0 H α σ s) (rx : Rx K H α σ a x) (ry : Rx K H α σ b y) (rv : Rv K H α d v) (e : gSetD s a b d = some s') (q : ∀ H' α', Rel K H0 α0 H' α' σ s' → Stay H α H' α' → Q H') :
    ∃ p H', x = .ref p ∧ DPut H p y v H' ∧ Q H' := by
  unfold gSetD at e
  split at e
  · rename_i kvs em
    split at e
    · rename_i hk
      cases e
      rw [Bool.and_eq_true, Bool.and_eq_true, decide_eq_true_eq, ← sizeLine_eq] at hk
      obtain ⟨q0, ek⟩ := Option.isSome_iff_exists.mp hk.1.2
      obtain ⟨p, rfl, hcell, kk⟩ := mut_at r rx em
      obtain ⟨kv, hv, rr⟩ := cell_dK hcell hk.1.1
      cases key_kV ry ek
      obtain ⟨k1, t⟩ := mut_upd (α := α) (o := .dK (putK kv q0 v)) hv (fun z => z)
      exact ⟨p, _, rfl, DPut.k hv (by rw [rkv_len rr]; exact hk.2), q _ α (kk _ _ k1 t (.inl ⟨_, upd_same, rkv_put ek (Rv.stay t _ _ rv) (Rkv.stay t _ _ rr)⟩)) t⟩
    · cases e
  · cases e
theorem ss_dict : SetS X rSetD gSetD := fun H0 α0 σ H α s x y v a b d s' Q r rx ry rv e q => dput_core r rx ry rv e q
theorem SetS.or {t t' : TSet} {g g' : S → D → D → D → Option S} (h : SetS X t g) (h' : SetS X t' g') : SetS X (fun o i v H Q => t o i v H Q ∨ t' o i v H Q) (fun s a b d => (g s a b d).or (g' s a b d)) := fun H0 α0 σ H α s x y v a b d s' Q r rx ry rv e q => by
  dsimp only at e
  cases eg : g s a b d with
  | some s2 =>
    rw [eg] at e
    obtain rfl : s2 = s' := Option.some.inj e
    exact .inl (h H0 α0 σ H α s x y v a b d s2 Q r rx ry rv eg q)
  | none =>
    rw [eg] at e
    exact .inr (h' H0 α0 σ H α s x y v a b d s' Q r rx ry rv e q)
theorem sd_setA {a b e : Expr} {st : Stmt} {tpos : Pos} {fe fo fi : FE} (hu : X.A.units + 65 < cLine) (hp : ∀ te t, PE X e te → PG X (.Subscript a b tpos) t → PS X st (tAsg te t)) (he : PED X e fe) (ho : PED X a fo) (hi : PED X b fi)
    (ha : ∀ v, assign (.Subscript a b tpos) X.env v = (do
      let ov ← holding [v] (eval a X.env)
      let iv ← holding [v, ov] (eval b X.env)
      standAt tpos
      holding [v, ov, iv] (setItem ov iv v)
      release [v, ov, iv] []) := by intro _; rfl) : PSD X st (dSetI gSetA fe fo fi) :=
  sd_setI hp (PSet.or set_list (set_dict (by omega))) (SetS.or ss_list ss_dict) he ho hi ha
/-- d[k] += v, ints -/
def dAugD (fo fi fe : FE) : FS := fun s => match ((fo s).bind fun o s1 => (fi s1).bind fun i s2 => match (asD s2 o).bind fun kvs => if (keyD i).isSome then lookD kvs i else none with
    | some (.int n) => (fe s2).bind fun e s3 => (match e with
      | .int m => (match gSetD s3 o i (.int (n + m)) with | some s4 => Res.ok () s4 | none => .bad)
      | _ => .bad)
    | _ => .bad) with
  | .ok _ s4 => .nx s4
  | .exc e s4 => .exc e s4
  | .bad => .bad
theorem sd_augD {o i value : Expr} {pos tpos : Pos} {fo fi fe : FE} (hu : X.A.units + 65 < cLine) (ho : PED X o fo) (hi : PED X i fi) (he : PED X value fe)
    (ha : ∀ ov iv new, augStore i ov iv new = (do holding [new, ov, iv] (setItem ov iv new); release [new, ov, iv] []; pure .next) := by intro _ _ _; rfl) : PSD X (.AugAssign (.Subscript o i tpos) .Add value pos) (dAugD fo fi fe) := by
  refine ⟨fun W tk => ?_⟩
  obtain ⟨to, po, qo⟩ := ho.run W tk
  obtain ⟨ti, pi, qi⟩ := hi.run W tk
  obtain ⟨te, pe, qe⟩ := he.run W tk
  refine ⟨_, ps_daug (by omega) po pi pe in_add ha, fun H0 α0 σ H α s D rl k => qo H0 α0 σ H α s _ rl ?_⟩
  unfold dAugD at k
  cases eo : fo s with
  | bad => rw [eo] at k; exact k.elim
  | exc e s1 => rw [eo] at k; exact fun cls dd H' α' r' x => k cls dd σ H' α' r' x
  | ok od s1 =>
    rw [eo] at k
    simp only [Res.bind] at k
    intro x H1 α1 r1 t1 rx
    refine qi H0 α0 σ H1 α1 s1 _ r1 ?_
    cases ei : fi s1 with
    | bad => rw [ei] at k; exact k.elim
    | exc e s2 => rw [ei] at k; exact fun cls dd H' α' r' x => k cls dd σ H' α' r' x
    | ok id s2 =>
      rw [ei] at k
      simp only at k
      intro y H2 α2 r2 t2 ry
      cases el : (asD s2 od).bind fun kvs => if (keyD id).isSome then lookD kvs id else none with
      | none => rw [el] at k; exact k.elim
      | some dv =>
        rw [el] at k
        cases dv <;> simp only at k <;> try exact k.elim
        rename_i n
        rw [Option.bind_eq_some_iff] at el
        obtain ⟨kvs, ea, el⟩ := el
        split at el
        · rename_i hk
          obtain ⟨q0, ek⟩ := Option.isSome_iff_exists.mp hk
          obtain ⟨a, kv, rfl, h1, h2, _⟩ := asD_ok r2 (rx.stay t2) ea
          cases key_kV ry ek
          rcases rkv_look ek h2 with ⟨z, _⟩ | ⟨d', v, h3, h4, h5⟩
          · rw [z] at el; cases el
          · rw [h3] at el
            cases el
            refine ⟨a, v, rfl, by rw [← h4]; exact dget_of h1, ?_⟩
            refine qe H0 α0 σ H2 α2 s2 _ r2 ?_
            cases ee : fe s2 with
            | bad => rw [ee] at k; exact k.elim
            | exc e s3 => rw [ee] at k; exact fun cls dd H' α' r' x => k cls dd σ H' α' r' x
            | ok ed s3 =>
              rw [ee] at k
              simp only at k
              intro y2 H3 α3 r3 t3 ry2
              cases ed <;> simp only at k <;> try exact k.elim
              rename_i m
              cases eg : gSetD s3 od id (.int (n + m)) with
              | none => rw [eg] at k; exact k.elim
              | some s4 =>
                rw [eg] at k
                have hv : v = .int n := by simpa only [Rv] using h5
                have hy : y2 = .int m := rx_int ry2
                subst hv
                subst hy
                refine ⟨n, m, rfl, rfl, ?_⟩
                obtain ⟨p, H5, e5, g5, q5⟩ := dput_core (Q := fun H' => D.nx σ H') (v := .int (n + m)) r3 ((rx.stay t2).stay t3) (ry.stay t3) (by simp only [Rv]) eg fun H' α' r' t' => k σ H' α' r' (((t1.trans t2).trans t3).trans t')
                cases e5
                exact ⟨H5, g5, q5⟩
        · cases el
end
/-! ### 41. Making dicts -/
theorem rkv_merge {K : PySem.W.Frag} {H : Hp} {α : List Addr} : ∀ {ps : List (D × D)} {kvs : List (Key × V)} {acc : List (D × D)} {acv : List (Key × V)}, Rkv K H α ps kvs → Rkv K H α acc acv → Rkv K H α (mergeD acc ps) (mergeK acv kvs)
  | [], _, _, _, h, h' => by
    simp only [Rkv] at h
    subst h
    exact h'
  | (k, d) :: ps, l, acc, acv, h, h' => by
    obtain ⟨q, v, r, rfl, h0, h1, h2⟩ := rkv_inv h
    show Rkv K H α (mergeD (putD acc k d) ps) (mergeK (putK acv q v) r)
    exact rkv_merge h2 (rkv_put h0 h1 h')
theorem new_dct {K : PySem.W.Frag} {H0 H : Hp} {α0 α : List Addr} {σ : Sg} {s : S} {p : Addr} {xs : List (D × D)} {vs : List (Key × V)} {Q : VK} (r : Rel K H0 α0 H α σ s) (h : H p = none) (rr : Rkv K H α xs vs)
    (q : ∀ a H' α', Rel K H0 α0 H' α' σ s → Stay H α H' α' → RF K H0 H' α' σ s a (.dct xs) → Q (.ref a) H') : Q (.ref p) (upd H p (.dK vs)) := by
  have t : Stay H α (upd H p (.dK vs)) α := Stay.upd_new h
  refine q p _ α (r.new h) t ⟨.inl ⟨vs, upd_same, Rkv.stay t _ _ rr⟩, r.nota h, r.free0 h, fun i c' h1 h2 => ?_⟩
  obtain ⟨a, e1, _, _, e2⟩ := r.slots.own i c' h1
  rw [h2] at e1
  cases e1
  obtain ⟨o, e3⟩ := e2.some
  rw [h] at e3
  cases e3
def pairOf : D → Option (D × D)
  | .tup [k, v] => if (keyD k).isSome then some (k, v) else none
  | _ => none
def gDictP : S → List D → Option Cell := fun s ds => match ds with
  | [d] => (asL s d).bind fun xs => (xs.mapM pairOf).map fun ps => .dct (mergeD [] ps)
  | _ => none
section
variable {X : Cx}
theorem pairs_at {K : PySem.W.Frag} {H : Hp} {α : List Addr} : ∀ {xs : List D} {vs : List V} {ps : List (D × D)}, Rvs K H α xs vs → xs.mapM pairOf = some ps → ∃ (as : List Addr) (kvs : List (Key × V)), vs = as.map V.ref ∧ Paired (fun p kv => SqT K H p [kV kv.1, kv.2]) as kvs ∧ Rkv K H α ps kvs
  | [], vs, ps, h, e => by
    simp only [Rvs] at h
    subst h
    simp only [List.mapM_nil, Option.pure_def, Option.some.injEq] at e
    subst e
    exact ⟨[], [], rfl, .nil, rkv_nil⟩
  | x :: xs, vs, ps, h, e => by
    simp only [Rvs] at h
    obtain ⟨v, r, rfl, h1, h2⟩ := h
    rw [List.mapM_cons] at e
    simp only [Option.bind_eq_bind, Option.bind_eq_some_iff, Option.pure_def, Option.some.injEq] at e
    obtain ⟨p, ep, qs, eq, rfl⟩ := e
    obtain ⟨as, kvs, rfl, g1, g2⟩ := pairs_at h2 eq
    unfold pairOf at ep
    split at ep
    · rename_i k d
      split at ep
      · rename_i hk
        cases ep
        obtain ⟨q0, ek⟩ := Option.isSome_iff_exists.mp hk
        simp only [Rv] at h1
        obtain ⟨a, l, rfl, hs, rr⟩ := h1
        simp only [Rvs] at rr
        obtain ⟨v1, r1, rfl, z1, v2, r2, rfl, z2, rfl⟩ := rr
        cases key_kV (σ := []) (Rv.x z1) ek
        exact ⟨a :: as, (q0, v2) :: kvs, rfl, .cons hs g1, rkv_cons ek z2 g2⟩
      · cases ep
    · cases ep
theorem bif_dictP (hc : X.calm = true) : BIF X (.type "dict") gDictP := .of (call_dictP hc) fun H0 α0 σ H α s xs ds c Q r rx e q => by
  unfold gDictP at e
  split at e
  · rename_i d
    obtain ⟨v, rfl, rx1⟩ := rx.one
    rw [Option.bind_eq_some_iff] at e
    obtain ⟨ys, ea, e⟩ := e
    rw [Option.map_eq_some_iff] at e
    obtain ⟨ps, ep, rfl⟩ := e
    obtain ⟨a, vs, rfl, h1, rr⟩ := asL_ok r rx1 ea
    obtain ⟨as, kvs, rfl, g1, g2⟩ := pairs_at rr ep
    exact ⟨a, as, kvs, rfl, h1, g1, fun p hp => new_dct r hp (rkv_merge g2 rkv_nil) q⟩
  · cases e
end
/-! {k: v, ..} -/
abbrev FP := S → Res (List (D × D))
structure PPD (X : Cx) (pos : Pos) (keys : List (Option Expr)) (values : List Expr) (f : FP) : Prop where
  run : ∀ W, Takes X W → ∃ trs, PPs X pos keys values trs ∧ ∀ H0 α0 σ H α s (Q : List (V × V) → Hp → Prop), Rel X.K H0 α0 H α σ s → (match f s with
    | .ok ps s' => ∀ vs H' α', Rel X.K H0 α0 H' α' σ s' → Stay H α H' α' → Paired (fun (p : D × D) (q : V × V) => Rv X.K H' α' p.1 q.1 ∧ Rv X.K H' α' p.2 q.2) ps vs → Q vs H'
    | .exc e s' => ∀ cls dd H' α', Rel X.K H0 α0 H' α' σ s' → ExR X.K H' α' e cls dd → W cls dd σ H'
    | .bad => False) → tPairs trs σ H Q
def dPn : FP := fun s => .ok [] s
def dPc (fk fv : FE) (r : FP) : FP := fun s => (fk s).bind fun k s1 => (fv s1).bind fun v s2 => if noOwn k && noOwn v then (r s2).bind fun ps s3 => .ok ((k, v) :: ps) s3 else .bad
section
variable {X : Cx} {pos : Pos}
theorem pp_n : PPD X pos [] [] dPn := ⟨fun W _ => ⟨_, pps_nil, fun H0 α0 σ H α s Q r q => q [] H α r (Stay.refl _ _) .nil⟩⟩
theorem pp_c {k v : Expr} {ks : List (Option Expr)} {vs : List Expr} {fk fv : FE} {fr : FP} (hk : PED X k fk) (hv : PED X v fv) (hr : PPD X pos ks vs fr) : PPD X pos (some k :: ks) (v :: vs) (dPc fk fv fr) := by
  refine ⟨fun W tk => ?_⟩
  obtain ⟨t1, p1, q1⟩ := hk.run W tk
  obtain ⟨t2, p2, q2⟩ := hv.run W tk
  obtain ⟨t3, p3, q3⟩ := hr.run W tk
  refine ⟨_, pps_cons p1 p2 p3, fun H0 α0 σ H α s Q r q => q1 H0 α0 σ H α s _ r ?_⟩
  unfold dPc at q
  cases e1 : fk s with
  | bad => rw [e1] at q; exact q.elim
  | exc e s1 => rw [e1] at q; exact q
  | ok dk s1 =>
    rw [e1] at q
    simp only [Res.bind] at q
    intro x H1 α1 r1 t1 rx
    refine q2 H0 α0 σ H1 α1 s1 _ r1 ?_
    cases e2 : fv s1 with
    | bad => rw [e2] at q; exact q.elim
    | exc e s2 => rw [e2] at q; exact q
    | ok dv s2 =>
      rw [e2] at q
      simp only at q
      intro y H2 α2 r2 t2 ry
      by_cases hn : (noOwn dk && noOwn dv) = true
      · simp only [hn, if_true] at q
        rw [Bool.and_eq_true] at hn
        refine q3 H0 α0 σ H2 α2 s2 _ r2 ?_
        cases e3 : fr s2 with
        | bad => rw [e3] at q; exact q.elim
        | exc e s3 => rw [e3] at q; exact q
        | ok ps s3 =>
          rw [e3] at q
          intro vs' H3 α3 r3 t3 rr
          exact q _ H3 α3 r3 ((t1.trans t2).trans t3) (.cons ⟨Rv.stay (t2.trans t3) _ _ (noOwn_rv rx hn.1), Rv.stay t3 _ _ (noOwn_rv ry hn.2)⟩ rr)
      · rw [Bool.not_eq_true] at hn
        simp only [hn, Bool.false_eq_true, if_false] at q
def dDisp (fp : FP) : FC := fun s => (fp s).bind fun ps s1 => if ps.all (fun p => (keyD p.1).isSome) && decide (ps.length ≤ 15) then .ok (.dct (mergeD [] ps)) s1 else .bad
theorem prs_at {K : PySem.W.Frag} {H : Hp} {α : List Addr} : ∀ {ps : List (D × D)} {vs : List (V × V)}, Paired (fun (p : D × D) (q : V × V) => Rv K H α p.1 q.1 ∧ Rv K H α p.2 q.2) ps vs → ps.all (fun p => (keyD p.1).isSome) = true →
    ∃ kvs : List (Key × V), vs = kvs.map (fun kv => (kV kv.1, kv.2)) ∧ Rkv K H α ps kvs
  | [], _, .nil, _ => ⟨[], rfl, rkv_nil⟩
  | (k, d) :: ps, _, .cons (b := (x, y)) a t, h => by
    rw [List.all_cons, Bool.and_eq_true] at h
    obtain ⟨kvs, rfl, g⟩ := prs_at t h.2
    obtain ⟨q0, ek⟩ := Option.isSome_iff_exists.mp h.1
    cases key_kV (σ := []) (Rv.x a.1) ek
    exact ⟨(q0, y) :: kvs, rfl, rkv_cons ek a.2 g⟩
theorem pf_disp {keys : List (Option Expr)} {values : List Expr} {fp : FP} (h : PPD X pos keys values fp) (hall : keys.all (·.isSome) = true := by rfl) (hl : keys.length = values.length := by rfl) (h0 : keys ≠ [] := by exact fun z => nomatch z)
    (h15 : keys.length ≤ 15 := by decide) : PFD X (.Dict keys values pos) (dDisp fp) := by
  refine ⟨fun W tk => ?_⟩
  obtain ⟨trs, p, q⟩ := h.run W tk
  refine ⟨_, pe_disp p hall hl h0 h15, fun H0 α0 σ H α s Q r k a ha => ?_⟩
  have hn : H0 a = none := r.free0 ha
  have n0 : a ∉ α0 := fun z => r.nota ha (r.st.pre.subset z)
  refine q (upd H0 a (.dK [])) α0 σ _ α s _ (r.pin ha (fun z => z)) ?_
  unfold dDisp at k
  cases e : fp s with
  | bad => rw [e] at k; exact k.elim
  | exc e2 s1 =>
    rw [e] at k
    exact fun cls dd H' α' r' x => k cls dd H' α' (r'.unpin hn) x
  | ok ps s1 =>
    rw [e] at k
    simp only [Res.bind] at k
    intro vs H1 α1 r1 t1 rr
    split at k
    · rename_i hc
      rw [Bool.and_eq_true, decide_eq_true_eq] at hc
      obtain ⟨kvs, rfl, g⟩ := prs_at rr hc.1
      refine ⟨r1.pinned n0, kvs, rfl, by rw [rkv_len g]; exact hc.2, ?_⟩
      obtain ⟨rp, tp⟩ := r1.repin (o' := .dK (mergeK [] kvs)) n0 (fun z => z) (fun z => z)
      exact k a _ α1 (rp.unpin hn) ((Stay.upd_new ha).trans (t1.trans tp)) (rp.pinRF hn n0 (.inl ⟨_, upd_same, rkv_merge (Rkv.stay tp _ _ g) rkv_nil⟩))
    · exact k.elim
end
end DL

namespace DL
open PySem PySem.Spec PyProof.Rows L2
/-! ### 42. {k: v for t in it if c} -/
def dDcGo (vs : List Nat) (g : FG) (ft : FT) (fk fv : FE) : List D → List (D × D) → S → Res (List (D × D))
  | [], acc, s => .ok acc s
  | d :: ds, acc, s => match g d { s with δ := wipeD s.δ vs } with
    | none => .bad
    | some s1 => match ft s1 with
      | .ok true s2 => (match fk s2 with
        | .ok k s3 => (match fv s3 with
          | .ok v s4 => if (keyD k).isSome && noOwn v then dDcGo vs g ft fk fv ds (putD acc k v) { δ := backD s.δ s4.δ vs, μ := s4.μ } else .bad
          | _ => .bad)
        | _ => .bad)
      | .ok false s2 => dDcGo vs g ft fk fv ds acc { δ := backD s.δ s2.δ vs, μ := s2.μ }
      | _ => .bad
def dDc (vs : List Nat) (fi : FA) (g : FG) (ft : FT) (fk fv : FE) : FC := fun s => (fi s).bind fun ds s1 => if ds.length ≤ 16777216 && vs.all (fun v => !isOwn s1.δ v) then (match dDcGo vs g ft fk fv ds [] s1 with | .ok ys s2 => .ok (.dct ys) s2 | _ => .bad) else .bad
theorem putD_len (acc : List (D × D)) (k v : D) : (putD acc k v).length ≤ acc.length + 1 := by
  unfold putD
  split
  · rw [List.length_map]; omega
  · rw [List.length_append]; simp
variable [DLX]
section
variable {X : Cx} {kx vx tg iter : Expr} {ifs : List Expr} {scope : Scope} {own : List (Str × Nat)} {pos : Pos} {fi : FA} {g : FG} {ft : FT} {fk fv : FE} {ws : List Nat}
theorem dc_ex (hi : PID X tg iter fi) (hw : ws.all (fun i => (own.map (·.2)).contains i) = true) (hg : ∀ b, PGD (CxB X scope b) tg ws g) (ht : ∀ b, PTsD (CxB X scope b) ifs ft) (hk : ∀ b, PED (CxB X scope b) kx fk) (he : ∀ b, PED (CxB X scope b) vx fv) (W : WX) (tk : Takes X W) :
    ∃ wi tg' tt tkx te, PI X tg iter wi ∧ (∀ b, PG (CxB X scope b) tg tg') ∧ (∀ b, PTs (CxB X scope b) ifs tt) ∧ (∀ b, PE (CxB X scope b) kx tkx) ∧ (∀ b, PE (CxB X scope b) vx te) ∧ ∀ H0 α0 σ H α s Q, Rel X.K H0 α0 H α σ s → PostF X.K H0 α0 σ W H α Q (dDc (own.map (·.2)) fi g ft fk fv s) → tDc wi tg' tt tkx te (own.map (·.2)) σ H Q := by
  obtain ⟨wi, pi, qi⟩ := hi.run W tk
  have hg' := fun b => (hg b).ex
  have ht' := fun b => (ht b).run _ Takes.none
  have hk' := fun b => (hk b).run _ Takes.none
  have he' := fun b => (he b).run _ Takes.none
  obtain ⟨tg1, hg2⟩ := Classical.axiomOfChoice hg'
  obtain ⟨tt1, ht2⟩ := Classical.axiomOfChoice ht'
  obtain ⟨tk1, hk2⟩ := Classical.axiomOfChoice hk'
  obtain ⟨te1, he2⟩ := Classical.axiomOfChoice he'
  refine ⟨wi, fun v σ H Q => ∀ b, tg1 b v σ H Q, fun σ H Q => ∀ b, tt1 b σ H Q, fun σ H Q => ∀ b, tk1 b σ H Q, fun σ H Q => ∀ b, te1 b σ H Q, pi, fun b => ⟨fun pins s v u σ H Q I r h => (hg2 b).1.run pins s v u σ H Q I r (h b)⟩, fun b => ⟨fun pins s σ H Q I h => (ht2 b).1.run pins s σ H Q I (h b)⟩,
    fun b => ⟨fun pins s σ H Q I h => (hk2 b).1.run pins s σ H Q I (h b)⟩, fun b => ⟨fun pins s σ H Q I h => (he2 b).1.run pins s σ H Q I (h b)⟩, fun H0 α0 σ H α s Q r q => qi H0 α0 σ H α s _ r ?_⟩
  unfold dDc at q
  cases ei : fi s with
  | bad => rw [ei] at q; exact q.elim
  | exc e s1 => rw [ei] at q; exact q
  | ok ds s1 =>
    rw [ei] at q
    intro J H1 α1 r1 t1 w
    simp only [Res.bind] at q
    split at q
    · rename_i hc
      rw [Bool.and_eq_true, decide_eq_true_eq] at hc
      obtain ⟨hl, hno⟩ := hc
      have no1 : ∀ v ∈ own.map (·.2), isOwn s1.δ v = false := fun v hv => by simpa using List.all_eq_true.mp hno v hv
      have hws : ∀ i ∈ ws, i ∈ own.map (·.2) := fun i h => by simpa using List.all_eq_true.mp hw i h
      generalize own.map (·.2) = vs at *
      intro Dd hD
      have h0 : H0 Dd = none := r1.free0 hD
      have n0 : Dd ∉ α0 := fun z => r1.nota hD (r1.st.pre.subset z)
      refine ⟨fun i m H => i + m = ds.length ∧ ∃ s' α' acc vacc, Rel X.K (upd H0 Dd (.dK vacc)) α0 H α' σ s' ∧ Stay H1 α1 H α' ∧ Rkv X.K H α' acc vacc ∧ acc.length ≤ i ∧ (∀ v ∈ vs, isOwn s'.δ v = false) ∧
        PostF X.K H0 α0 σ W H α' Q (match dDcGo vs g ft fk fv (ds.drop i) acc s' with | .ok ys s2 => .ok (.dct ys) s2 | _ => .bad), ⟨ds.length, Nat.zero_add _, s1, α1, [], [], r1.pin hD (fun z => z), Stay.upd_new hD, rkv_nil, Nat.zero_le _, no1, ?_⟩, ?_⟩
      · rw [List.drop_zero]
        have q2 : PostF X.K H0 α0 σ W H α Q (match dDcGo vs g ft fk fv ds [] s1 with | .ok ys s2 => .ok (.dct ys) s2 | _ => .bad) := q
        cases eg : dDcGo vs g ft fk fv ds [] s1 <;> rw [eg] at q2 <;> simp only at q2 ⊢
        · exact fun a H' α' r' t' rf => q2 a H' α' r' (t1.trans ((Stay.upd_new hD).trans t')) rf
        · exact q2
        · exact q2
      · rintro i m H2 ⟨hm, s', α', acc, vacc, rl, st, ra, hai, no, k⟩
        cases m with
        | zero =>
          have e : i = ds.length := by omega
          subst e
          rw [List.drop_length] at k
          simp only [dDcGo] at k
          exact .inl ⟨w.stop H2 α' st, k Dd H2 α' (rl.unpin h0) (Stay.refl _ _) (rl.pinRF h0 n0 (.inl ⟨vacc, rl.pinned n0, ra⟩))⟩
        | succ m =>
          have hi : i < ds.length := by omega
          have ed := List.getElem?_eq_getElem hi
          rw [List.drop_eq_getElem_cons hi] at k
          refine .inr ⟨w.go H2 α' i _ st ed, fun H' => ∃ m', m' < m + 1 ∧ (i + 1) + m' = ds.length ∧ ∃ s' α' acc vacc, Rel X.K (upd H0 Dd (.dK vacc)) α0 H' α' σ s' ∧ Stay H1 α1 H' α' ∧ Rkv X.K H' α' acc vacc ∧ acc.length ≤ i + 1 ∧ (∀ v ∈ vs, isOwn s'.δ v = false) ∧
            PostF X.K H0 α0 σ W H' α' Q (match dDcGo vs g ft fk fv (ds.drop (i + 1)) acc s' with | .ok ys s2 => .ok (.dct ys) s2 | _ => .bad), fun _ z => z, fun x H3 hy => ?_⟩
          obtain ⟨r3, t3, rv⟩ := w.yld _ α0 H2 α' σ s' i _ x H3 st rl ed hy
          unfold dDcGo at k
          cases eg : g ds[i] { s' with δ := wipeD s'.δ vs } with
          | none => rw [eg] at k; exact k.elim
          | some s4 =>
            rw [eg] at k
            intro b
            refine (hg2 b).2 _ α0 _ H3 α' _ _ x s4 _ (r3.wipe vs) rv eg fun σ4 H4 r4 t4 b4 => ⟨by rw [wipe_but b4 hws]; exact wipe_wipe σ vs, fun b => ?_⟩
            refine (ht2 b).2 _ α0 σ4 H4 α' s4 _ r4 ?_
            simp only at k
            cases et : ft s4 with
            | bad => rw [et] at k; exact k.elim
            | exc e s5 => rw [et] at k; exact k.elim
            | ok bb s5 =>
              rw [et] at k
              intro H5 α5 r5 t5
              have t35 := (t3.trans t4).trans t5
              cases bb with
              | false =>
                simp only at k
                rw [if_neg Bool.false_ne_true]
                refine ⟨m, Nat.lt_succ_self m, by omega, _, α5, acc, vacc, r3.back no (t4.trans t5) r5 b4 hws, st.trans t35, Rkv.stay t35 _ _ ra, by omega, back_no no, ?_⟩
                cases eq : dDcGo vs g ft fk fv (ds.drop (i + 1)) acc { δ := backD s'.δ s5.δ vs, μ := s5.μ } <;> rw [eq] at k <;> simp only at k ⊢
                · exact fun a H' α' r' t' rf => k a H' α' r' (t35.trans t') rf
                · exact k
                · exact k
              | true =>
                simp only at k
                rw [if_pos rfl]
                intro b
                refine (hk2 b).2 _ α0 σ4 H5 α5 s5 _ r5 ?_
                cases ek : fk s5 with
                | bad => rw [ek] at k; exact k.elim
                | exc e s6 => rw [ek] at k; exact k.elim
                | ok kd s6 =>
                rw [ek] at k
                simp only at k
                intro vk H6 α6 r6 t6 rk b
                refine (he2 b).2 _ α0 σ4 H6 α6 s6 _ r6 ?_
                cases ee : fv s6 with
                | bad => rw [ee] at k; exact k.elim
                | exc e s7 => rw [ee] at k; exact k.elim
                | ok y s7 =>
                  rw [ee] at k
                  intro v H7 α7 r7 t7 rx
                  simp only at k
                  cases hny : ((keyD kd).isSome && noOwn y) with
                  | false => rw [hny, if_neg Bool.false_ne_true] at k; exact k.elim
                  | true =>
                    rw [hny, if_pos rfl] at k
                    rw [Bool.and_eq_true] at hny
                    obtain ⟨q0, eq0⟩ := Option.isSome_iff_exists.mp hny.1
                    have rvy := noOwn_rv rx hny.2
                    have ekv := key_kV rk eq0
                    have rb := r3.back no (((t4.trans t5).trans t6).trans t7) r7 b4 hws
                    obtain ⟨rp, tp⟩ := rb.repin (o' := .dK (putK vacc q0 v)) n0 (fun z => z) (fun z => z)
                    have t37 := ((t35.trans t6).trans t7).trans tp
                    have hlen : acc.length < sizeLine := by rw [sizeLine_eq]; omega
                    refine ⟨vacc, q0, ekv, r7.pinned n0, by rw [rkv_len ra]; exact hlen, m, Nat.lt_succ_self m, by omega, _, α7, putD acc kd y, putK vacc q0 v, rp, st.trans t37, rkv_put eq0 (Rv.stay tp _ _ rvy) (Rkv.stay t37 _ _ ra), Nat.le_trans (putD_len acc kd y) (by omega), back_no no, ?_⟩
                    cases eq : dDcGo vs g ft fk fv (ds.drop (i + 1)) (putD acc kd y) { δ := backD s'.δ s7.δ vs, μ := s7.μ } <;> rw [eq] at k <;> simp only at k ⊢
                    · exact fun a H' α' r' t' rf => k a H' α' r' (t37.trans t') rf
                    · exact k
                    · exact k
    · exact q.elim
theorem pf_dc (hc : X.calm = true) (hN : X.N.Nodup) (ok : blkC X.N X.env.scope scope own = true) (hi : PID X tg iter fi) (hg : ∀ b, PGD (CxB X scope b) tg ws g) (ht : ∀ b, PTsD (CxB X scope b) ifs ft) (hk : ∀ b, PED (CxB X scope b) kx fk) (he : ∀ b, PED (CxB X scope b) vx fv) (hw : ws.all (fun i => (own.map (·.2)).contains i) = true := by rfl)
    (hs : ∀ x, foldedSetIterable iter X.env x = pure x := by intro _; rfl) : PFD X (.DictComp kx vx [⟨tg, iter, ifs, 0⟩] scope pos) (dDc (own.map (·.2)) fi g ft fk fv) := by
  refine ⟨fun W tk => ?_⟩
  obtain ⟨wi, tg', tt, tkx, te, h1, h2, h3, h4, h5, h6⟩ := dc_ex hi hw hg ht hk he W tk
  exact ⟨_, pe_dc hc hN h1 (blkOk_by ok) (fun s H C cl fp => h2 ⟨s, H, C, cl, fp⟩) (fun s H C cl fp => h3 ⟨s, H, C, cl, fp⟩) (fun s H C cl fp => h4 ⟨s, H, C, cl, fp⟩) (fun s H C cl fp => h5 ⟨s, H, C, cl, fp⟩) hs, h6⟩
end
end DL

namespace DL
open PySem PySem.Spec PyProof.Rows L2
/-! ### 43. Starred items -/
def dStar (fa : FE) (fr : FA) : FA := fun s => (fa s).bind fun d s1 => match asSeq s1 d with
  | some xs => (fr s1).bind fun ys s2 => .ok (xs ++ ys) s2
  | none => .bad
/-- list(range(n)) -/
def dLRg (fa : FE) : FC := fun s => (fa s).bind fun d s1 => match d with | .int j => if smallI j && decide (j ≤ 1000000) then .ok (.lst (rngD 0 j.toNat)) s1 else .bad | _ => .bad
/-- a, b, .. = a list or a tuple -/
def gL (r : FGs) : FG := fun d s => match d with | .tup ds => r ds s | .lst ds => r ds s | _ => none
inductive MV where
  | v (d : D) | c (c : Cell)
abbrev FM := S → Res (List MV)
def dMn : FM := fun s => .ok [] s
def dMv (fa : FE) (r : FM) : FM := fun s => (fa s).bind fun d s1 => if noOwn d then (r s1).bind fun ms s2 => .ok (.v d :: ms) s2 else .bad
def dMc (fa : FC) (r : FM) : FM := fun s => (fa s).bind fun c s1 => match c with
  | .lst xs => (r s1).bind fun ms s2 => .ok (.c (.lst xs) :: ms) s2
  | .dct xs => (r s1).bind fun ms s2 => .ok (.c (.dct xs) :: ms) s2
  | _ => .bad
def slotOf : MV → Slot | .v d => .val d | .c c => .own c
def dParM (i j : Nat) (fm : FM) : FS := fun s => match fm s with
  | .ok [a, b] s1 => .nx { s1 with δ := (s1.δ.set i (slotOf a)).set j (slotOf b) }
  | .exc e s1 => .exc e s1
  | _ => .bad
def dParM3 (i j l : Nat) (fm : FM) : FS := fun s => match fm s with
  | .ok [a, b, c] s1 => .nx { s1 with δ := ((s1.δ.set i (slotOf a)).set j (slotOf b)).set l (slotOf c) }
  | .exc e s1 => .exc e s1
  | _ => .bad
variable [DLX]
section
variable {X : Cx}
theorem pa_st {e : Expr} {p : Pos} {es : List Expr} {fa : FE} {fr : FA} (ha : PED X e fa) (hr : PAD X es fr) (hs : starEach (.Starred e p :: es) X.env = (true, eval e X.env) :: starEach es X.env := by rfl) : PAD X (.Starred e p :: es) (dStar fa fr) := by
  refine ⟨fun W tk => ?_⟩
  obtain ⟨t, p1, q1⟩ := ha.run W tk
  obtain ⟨u, p2, q2⟩ := hr.run W tk
  refine ⟨_, StX.pa_star p1 p2 hs, fun H0 α0 σ H α s Q r q => q1 H0 α0 σ H α s _ r ?_⟩
  unfold dStar at q
  cases e1 : fa s with
  | bad => rw [e1] at q; exact q.elim
  | exc e s1 => rw [e1] at q; exact q
  | ok d s1 =>
    rw [e1] at q
    intro v H1 α1 r1 t1 rv
    simp only [Res.bind] at q
    cases ed : asSeq s1 d with
    | none => rw [ed] at q; exact q.elim
    | some xs =>
      rw [ed] at q
      obtain ⟨a, vs, rfl, hs, rr⟩ := asSeq_ok r1 rv ed
      refine ⟨a, vs, rfl, hs.symm, q2 H0 α0 σ H1 α1 s1 _ r1 ?_⟩
      simp only at q
      cases e2 : fr s1 with
      | bad => rw [e2] at q; exact q.elim
      | exc e s2 => rw [e2] at q; exact q
      | ok ys s2 =>
        rw [e2] at q
        intro ws H2 α2 r2 t2 rw
        have app : ∀ {ds es : List D} {vs us : List V}, Rvs X.K H2 α2 ds vs → Rxs X.K H2 α2 σ es us → Rxs X.K H2 α2 σ (ds ++ es) (vs ++ us) := by
          intro ds
          induction ds with
          | nil => intro es vs us h g; simp only [Rvs] at h; subst h; exact g
          | cons d ds ih =>
            intro es vs us h g
            simp only [Rvs] at h
            obtain ⟨v, r, rfl, h1, h2⟩ := h
            exact .cons (Rv.x h1) (ih h2 g)
        exact q _ H2 α2 r2 (t1.trans t2) (app (Rvs.stay t2 _ _ rr) rw)
theorem pf_lrg {e : Expr} {p p2 q pos : Pos} {fa : FE} (hc : X.calm = true) (hg : Gl X "list") (hm : X.mg "list" = none) (hg2 : Gl X "range") (hm2 : X.mg "range" = none) (ha : PED X e fa)
    (n1 : starEach [e] X.env = (false, eval e X.env) :: starEach [] X.env := by rfl) (n2 : starEach [.Call (.Name "range" p2) [e] [] q] X.env = (false, eval (.Call (.Name "range" p2) [e] [] q) X.env) :: starEach [] X.env := by rfl) :
    PFD X (.Call (.Name "list" p) [.Call (.Name "range" p2) [e] [] q] [] pos) (dLRg fa) := by
  refine ⟨fun W tk => ?_⟩
  obtain ⟨t, pe, qe⟩ := ha.run W tk
  refine ⟨_, pe_listRg hc hg hm (prg_1 hg2 hm2 pe n1) n2, fun H0 α0 σ H α s Q r k => qe H0 α0 σ H α s _ r ?_⟩
  unfold dLRg at k
  cases ea : fa s with
  | bad => rw [ea] at k; exact k.elim
  | exc e s1 => rw [ea] at k; exact k
  | ok d s1 =>
    rw [ea] at k
    intro v H1 α1 r1 t1 rv
    cases d <;> simp only [Res.bind] at k <;> try exact k.elim
    rename_i j
    split at k
    · rename_i hj
      rw [Bool.and_eq_true, decide_eq_true_eq] at hj
      obtain ⟨hj, hj2⟩ := hj
      unfold smallI at hj
      simp only [Bool.and_eq_true, decide_eq_true_eq] at hj
      have fin : ∀ q, H1 q = none → Q (.ref q) (upd H1 q (.lst (rgV 0 j))) := fun p hp => by
        refine new_lst r1 hp ?_ fun a H' α' r' t' rf => k a H' α' r' (t1.trans t') rf
        have e : rgV 0 j = (List.range j.toNat).map fun i => V.int (0 + (i : Nat)) := by
          unfold rgV
          simp
        rw [e]
        unfold rngD
        generalize List.range j.toNat = l
        induction l with
        | nil => exact .nil
        | cons i l ih => exact .cons (by simp only [Rv]) ih
      rw [rx_int rv]
      refine ⟨j, rfl, ?_⟩
      first
        | exact ⟨by refine ⟨?_, ?_, ?_, ?_, ?_⟩ <;> (try rw [sizeLine_eq]) <;> omega, fin⟩
        | (refine ⟨?_, fin⟩; unfold RgOk; rw [sizeLine_eq]; omega)
    · exact k.elim
/-- targets that a list or a tuple gives -/
theorem PGs.orL {es : List Expr} {k : Nat} {pos : Pos} {t : TGs} {n : Nat} (hc : X.calm = true) (h : PGs X es t) (hn : (assignEach es X.env).length = n) (hst : (assignEach es X.env).findIdx? (·.1) = none) :
    PG X (.Tuple es k pos) (fun v σ H Q => (∃ a xs, v = .ref a ∧ SqT X.K H a xs ∧ xs.length = n ∧ t xs σ H Q) ∨ (∃ a xs, v = .ref a ∧ SqL X.K H a xs ∧ xs.length = n ∧ t xs σ H Q)) := ⟨fun pins s σ H v u Q I r q => by
  rcases q with q | q
  · exact (pg_tup hc h hn hst).run pins s σ H v u Q I r q
  · exact (pg_lst hc h hn hst).run pins s σ H v u Q I r q⟩
theorem gd_lst {es : List Expr} {k : Nat} {pos : Pos} {r : FGs} {n : Nat} {ws : List Nat} (hc : X.calm = true) (h : PGsD X es ws r) (hn : (assignEach es X.env).length = n := by rfl) (hst : (assignEach es X.env).findIdx? (·.1) = none := by rfl) (hl : es.length = n := by rfl)
    (hr : ∀ ds s s', r ds s = some s' → ds.length = n := by intro ds s s' e; simp only [gC, gN] at e; repeat (first | (split at e; first | cases e | skip) | (simp only [Option.bind_eq_some_iff] at e; obtain ⟨_, _, e⟩ := e)); all_goals first | rfl | (cases e) | simp_all) : PGD X (.Tuple es k pos) ws (gL r) := by
  obtain ⟨t, p, q⟩ := h.ex
  refine ⟨_, PGs.orL hc p hn hst, fun H0 α0 σ H α s d v s' Q rl rv e k => ?_⟩
  unfold gL at e
  split at e
  · rename_i ds
    simp only [Rv] at rv
    obtain ⟨a, vs, rfl, hs, rr⟩ := rv
    exact .inl ⟨a, vs, rfl, hs, by rw [rr.length]; exact hr _ _ _ e, q H0 α0 σ H α s ds vs s' Q rl rr e k⟩
  · rename_i ds
    simp only [Rv] at rv
    obtain ⟨a, vs, rfl, hs, rr⟩ := rv
    exact .inr ⟨a, vs, rfl, hs.sq, by rw [rr.length]; exact hr _ _ _ e, q H0 α0 σ H α s ds vs s' Q rl rr e k⟩
  · cases e
end
/-! ### 44. a, b = x, y where some are fresh things -/
def MVs (K : PySem.W.Frag) (H : Hp) (α : List Addr) (σ : Sg) (s : S) : Hp → List MV → List V → Prop
  | _, [], vs => vs = []
  | H0, .v d :: ms, vs => ∃ v r, vs = v :: r ∧ Rv K H α d v ∧ MVs K H α σ s H0 ms r
  | H0, .c c :: ms, vs => ∃ a o r, vs = .ref a :: r ∧ RF K H0 H α σ s a c ∧ H a = some o ∧ MVs K H α σ s (upd H0 a o) ms r
def PostM (K : PySem.W.Frag) (H0 : Hp) (α0 : List Addr) (σ : Sg) (W : WX) (H : Hp) (α : List Addr) (Q : List V → Hp → Prop) : Res (List MV) → Prop
  | .ok ms s' => ∀ vs H' α', Rel K H0 α0 H' α' σ s' → Stay H α H' α' → MVs K H' α' σ s' H0 ms vs → Q vs H'
  | .exc e s' => ∀ cls dd H' α', Rel K H0 α0 H' α' σ s' → ExR K H' α' e cls dd → W cls dd σ H'
  | .bad => False
structure PMD (X : Cx) (es : List Expr) (f : FM) : Prop where
  run : ∀ W, Takes X W → ∃ t, PA X es t ∧ ∀ H0 α0 σ H α s Q, Rel X.K H0 α0 H α σ s → PostM X.K H0 α0 σ W H α Q (f s) → t σ H Q
section
variable {X : Cx}
theorem pm_n : PMD X [] dMn := ⟨fun W _ => ⟨_, pa_nil, fun H0 α0 σ H α s Q r q => q [] H α r (Stay.refl _ _) (by simp only [MVs])⟩⟩
theorem pm_v {e : Expr} {es : List Expr} {fa : FE} {fr : FM} (ha : PED X e fa) (hr : PMD X es fr) (hs : starEach (e :: es) X.env = (false, eval e X.env) :: starEach es X.env := by rfl) : PMD X (e :: es) (dMv fa fr) := by
  refine ⟨fun W tk => ?_⟩
  obtain ⟨t, p1, q1⟩ := ha.run W tk
  obtain ⟨u, p2, q2⟩ := hr.run W tk
  refine ⟨_, pa_cons p1 p2 hs, fun H0 α0 σ H α s Q r q => q1 H0 α0 σ H α s _ r ?_⟩
  unfold dMv at q
  cases e1 : fa s with
  | bad => rw [e1] at q; exact q.elim
  | exc e s1 => rw [e1] at q; exact q
  | ok d s1 =>
    rw [e1] at q
    intro v H1 α1 r1 t1 rv
    simp only [Res.bind] at q
    cases hn : noOwn d with
    | false => rw [hn] at q; simp only [Bool.false_eq_true, if_false] at q; exact q.elim
    | true =>
      rw [hn] at q
      simp only [if_true] at q
      refine q2 H0 α0 σ H1 α1 s1 _ r1 ?_
      cases e2 : fr s1 with
      | bad => rw [e2] at q; exact q.elim
      | exc e s2 => rw [e2] at q; exact q
      | ok ms s2 =>
        rw [e2] at q
        intro ws H2 α2 r2 t2 rw
        refine q _ H2 α2 r2 (t1.trans t2) ?_
        simp only [MVs]
        exact ⟨v, ws, rfl, Rv.stay t2 _ _ (noOwn_rv rv hn), rw⟩
theorem pm_c {e : Expr} {es : List Expr} {fa : FC} {fr : FM} (ha : PFD X e fa) (hr : PMD X es fr) (hs : starEach (e :: es) X.env = (false, eval e X.env) :: starEach es X.env := by rfl) : PMD X (e :: es) (dMc fa fr) := by
  refine ⟨fun W tk => ?_⟩
  obtain ⟨t, p1, q1⟩ := ha.run W tk
  obtain ⟨u, p2, q2⟩ := hr.run W tk
  refine ⟨_, pa_cons p1 p2 hs, fun H0 α0 σ H α s Q r q => q1 H0 α0 σ H α s _ r ?_⟩
  unfold dMc at q
  cases e1 : fa s with
  | bad => rw [e1] at q; exact q.elim
  | exc e s1 => rw [e1] at q; exact q
  | ok c s1 =>
    rw [e1] at q
    intro a H1 α1 r1 t1 rf
    have go : ∀ (o : HO), H1 a = some o → ¬ Fixed o → PostM X.K H0 α0 σ W H α Q ((fr s1).bind fun ms s2 => .ok (.c c :: ms) s2) → u σ H1 fun xs H2 => Q (V.ref a :: xs) H2 := by
      intro o ho nf q
      obtain ⟨rp, n0, h0⟩ := r1.pinF rf ho nf
      refine q2 (upd H0 a o) α0 σ H1 α1 s1 _ rp ?_
      cases e2 : fr s1 with
      | bad => rw [e2] at q; exact q.elim
      | exc e s2 =>
        rw [e2] at q
        exact fun cls dd H' α' r' x => q cls dd H' α' (r'.unpin h0) x
      | ok ms s2 =>
        rw [e2] at q
        intro ws H2 α2 r2 t2 rw
        refine q _ H2 α2 (r2.unpin h0) (t1.trans t2) ?_
        simp only [MVs]
        have ha2 := r2.pinned n0
        exact ⟨a, o, ws, rfl, r2.pinRF h0 n0 (rf.1.stay t2 fun o' e' _ => by rw [ho] at e'; cases e'; exact ha2), ha2, rw⟩
    simp only [Res.bind] at q
    cases c with
    | lst xs =>
      obtain ⟨vs, hv, _⟩ := rf.1
      exact go _ hv (fun z => z) q
    | dct xs =>
      rcases rf.1 with ⟨kv, hv, _⟩ | ⟨kv, _, hv, _⟩
      · exact go _ hv (fun z => z) q
      · exact go _ hv (fun z => z) q
    | ins C fs => exact q.elim
    | tab n => exact q.elim
    | dead => exact q.elim
/-- one slot filled; the rest still stands -/
theorem mvs_map {K : PySem.W.Frag} {H : Hp} {α : List Addr} {σ σ' : Sg} {s s' : S} : ∀ {ms : List MV} {vs : List V} {H0 H0' : Hp}, MVs K H α σ s H0' ms vs → (∀ b, H0' b = none → H0 b = none) →
    (∀ b, H0' b = none → (∀ (i : Nat) (c' : Cell), s.δ[i]? = some (.own c') → σ[i]? ≠ some (some (.ref b))) → ∀ (i : Nat) (c' : Cell), s'.δ[i]? = some (.own c') → σ'[i]? ≠ some (some (.ref b))) → MVs K H α σ' s' H0 ms vs
  | [], vs, H0, H0', h, _, _ => by simpa only [MVs] using h
  | .v d :: ms, vs, H0, H0', h, g1, g2 => by
    simp only [MVs] at h ⊢
    obtain ⟨v, r, e, h1, h2⟩ := h
    exact ⟨v, r, e, h1, mvs_map h2 g1 g2⟩
  | .c c :: ms, vs, H0, H0', h, g1, g2 => by
    simp only [MVs] at h ⊢
    obtain ⟨a, o, r, e, ⟨h1, h2, h3, h4⟩, h5, h6⟩ := h
    have sub : ∀ {b : Addr} {G G' : Hp}, (∀ b, G' b = none → G b = none) → upd G' a o b = none → G' b = none ∧ upd G a o b = none := fun {b G G'} g z => by
      by_cases hb : b = a
      · subst hb; rw [upd_same] at z; cases z
      · rw [upd_ne hb] at z
        exact ⟨z, by rw [upd_ne hb]; exact g b z⟩
    exact ⟨a, o, r, e, ⟨h1, h2, g1 a h3, g2 a h3 h4⟩, h5, mvs_map h6 (fun b z => (sub g1 z).2) fun b z => g2 b (sub g1 z).1⟩
theorem mv_set {K : PySem.W.Frag} {H H0 : Hp} {α0 α : List Addr} {σ : Sg} {s : S} {m : MV} {ms : List MV} {vs : List V} (i : Nat) (r : Rel K H0 α0 H α σ s) (h : MVs K H α σ s H0 (m :: ms) vs) :
    ∃ v r', vs = v :: r' ∧ Rel K H0 α0 H α (σ.set i (some v)) { s with δ := s.δ.set i (slotOf m) } ∧ MVs K H α (σ.set i (some v)) { s with δ := s.δ.set i (slotOf m) } H0 ms r' := by
  cases m with
  | v d =>
    simp only [MVs] at h
    obtain ⟨v, r', e, h1, h2⟩ := h
    refine ⟨v, r', e, r.setV h1, mvs_map h2 (fun _ z => z) fun b _ g j c' e1 e2 => ?_⟩
    rcases get_set e1 with ⟨_, z, _⟩ | ⟨ne, z⟩
    · cases z
    · rw [List.getElem?_set_ne ne] at e2
      exact g j c' z e2
  | c c =>
    simp only [MVs] at h
    obtain ⟨a, o, r', e, h1, h2, h3⟩ := h
    refine ⟨.ref a, r', e, r.setO h1, mvs_map h3 (fun b z => ?_) fun b z g j c' e1 e2 => ?_⟩
    · by_cases hb : b = a
      · subst hb; rw [upd_same] at z; cases z
      · rw [upd_ne hb] at z; exact z
    · rcases get_set e1 with ⟨rfl, _, hl⟩ | ⟨ne, w⟩
      · rw [List.getElem?_set_self (by rw [r.slots.len]; exact hl)] at e2
        cases e2
        rw [upd_same] at z
        cases z
      · rw [List.getElem?_set_ne ne] at e2
        exact g j c' w e2
theorem sd_parM {es : List Expr} {st : Stmt} {i j : Nat} {fm : FM} (hp : ∀ ta, PA X es ta → PS X st (tPar i j ta)) (ha : PMD X es fm) : PSD X st (dParM i j fm) := by
  refine ⟨fun W tk => ?_⟩
  obtain ⟨t, p, q⟩ := ha.run W tk
  refine ⟨_, hp t p, fun H0 α0 σ H α s D r k => q H0 α0 σ H α s _ r ?_⟩
  unfold dParM at k
  cases ea : fm s with
  | bad => rw [ea] at k; exact k.elim
  | exc e s1 => rw [ea] at k; exact fun cls dd H' α' r' x => k cls dd σ H' α' r' x
  | ok ms s1 =>
    rw [ea] at k
    intro vs H1 α1 r1 t1 rv
    match ms, rv with
    | [], _ => exact k.elim
    | [_], _ => exact k.elim
    | [a, b], rv =>
      obtain ⟨v, r2, rfl, q2, m2⟩ := mv_set i r1 rv
      obtain ⟨w, r3, rfl, q3, m3⟩ := mv_set j q2 m2
      simp only [MVs] at m3
      subst m3
      exact ⟨v, w, rfl, k _ H1 α1 q3 t1⟩
    | _ :: _ :: _ :: _, _ => exact k.elim
theorem sd_parM3 {es : List Expr} {st : Stmt} {i j l : Nat} {fm : FM} (hp : ∀ ta, PA X es ta → PS X st (tPar3 i j l ta)) (ha : PMD X es fm) : PSD X st (dParM3 i j l fm) := by
  refine ⟨fun W tk => ?_⟩
  obtain ⟨t, p, q⟩ := ha.run W tk
  refine ⟨_, hp t p, fun H0 α0 σ H α s D r k => q H0 α0 σ H α s _ r ?_⟩
  unfold dParM3 at k
  cases ea : fm s with
  | bad => rw [ea] at k; exact k.elim
  | exc e s1 => rw [ea] at k; exact fun cls dd H' α' r' x => k cls dd σ H' α' r' x
  | ok ms s1 =>
    rw [ea] at k
    intro vs H1 α1 r1 t1 rv
    match ms, rv with
    | [], _ => exact k.elim
    | [_], _ => exact k.elim
    | [_, _], _ => exact k.elim
    | [a, b, c], rv =>
      obtain ⟨v, r2, rfl, q2, m2⟩ := mv_set i r1 rv
      obtain ⟨w, r3, rfl, q3, m3⟩ := mv_set j q2 m2
      obtain ⟨u, r4, rfl, q4, m4⟩ := mv_set l q3 m3
      simp only [MVs] at m4
      subst m4
      exact ⟨v, w, u, rfl, k _ H1 α1 q4 t1⟩
    | _ :: _ :: _ :: _ :: _, _ => exact k.elim
end
end DL

namespace DL
open PySem PySem.Spec PyProof.Rows L2
/-! ### 41. A list of one's own, lent to a call: it stands still while the call runs -/
mutual
def nL : D → Bool
  | .tup xs => nLs xs
  | .lst _ => false
  | .dct kvs => nLk kvs
  | .obj _ _ => false
  | .own _ => false
  | _ => true
def nLs : List D → Bool
  | [] => true
  | x :: xs => nL x && nLs xs
def nLk : List (D × D) → Bool
  | [] => true
  | (_, x) :: xs => nL x && nLk xs
end
def nLc : Cell → Bool
  | .lst xs => nLs xs
  | .dct kvs => nLk kvs
  | _ => false
def nLl : Slot → Bool
  | .no => true
  | .val d => nL d
  | .own c => nLc c
def isVL : Option Slot → Bool | some (.val (.lst _)) => true | _ => false
def dLend (i : Nat) (f : FE) : FE := fun s => match s.δ[i]? with
  | some (.own (.lst xs)) => (match f { s with δ := s.δ.set i (.val (.lst xs)) } with
    | .ok d s1 => if nL d && s1.μ.all nLc && (s1.δ.set i .no).all nLl && isVL (s1.δ[i]?) then .ok d { s1 with δ := s1.δ.set i (.own (.lst xs)) } else .bad
    | _ => .bad)
  | _ => .bad
variable [DLX]
section
variable {K : PySem.W.Frag} {H : Hp} {α : List Addr} {a : Addr} {o0 : Obj} {vs0 : List V} {u : HO}
mutual
theorem Rv.thaw (hA : H a = some (.frz o0 (.lst vs0))) : ∀ (d : D) (v : V), nL d = true → Rv K H α d v → Rv K (upd H a u) α d v
  | .non, v, _, h => by simp only [Rv] at h ⊢; exact h
  | .bl b, v, _, h => by simp only [Rv] at h ⊢; exact h
  | .int i, v, _, h => by simp only [Rv] at h ⊢; exact h
  | .str x, v, _, h => by simp only [Rv] at h ⊢; exact h
  | .adr x, v, _, h => by simp only [Rv] at h ⊢; exact h
  | .fn x, v, _, h => by simp only [Rv] at h ⊢; exact h
  | .ty x, v, _, h => by simp only [Rv] at h ⊢; exact h
  | .ref n, v, _, h => by simp only [Rv] at h ⊢; exact h
  | .own n, v, n1, _ => by simp [nL] at n1
  | .lst xs, v, n1, _ => by simp [nL] at n1
  | .obj C fs, v, n1, _ => by simp [nL] at n1
  | .tup xs, v, n1, h => by
    simp only [Rv] at h ⊢
    obtain ⟨b, vs, h1, h2, h3⟩ := h
    refine ⟨b, vs, h1, ?_, Rvs.thaw hA xs vs (by simpa [nL] using n1) h3⟩
    rcases h2 with (h2 | ⟨o, h2⟩) | h2
    · exact .inl (.inl (by rw [upd_ne (fun z => by subst z; rw [hA] at h2; cases h2)]; exact h2))
    · exact .inl (.inr ⟨o, by rw [upd_ne (fun z => by subst z; rw [hA] at h2; cases h2)]; exact h2⟩)
    · exact .inr h2
  | .dct kvs, v, n1, h => by
    simp only [Rv] at h ⊢
    have n2 : nLk kvs = true := by simpa [nL] using n1
    obtain ⟨b, o, h1, ⟨kv, h2, h3⟩ | ⟨kv, h4, h2, h3⟩⟩ := h
    · exact ⟨b, o, h1, .inl ⟨kv, by rw [upd_ne (fun z => by subst z; rw [hA] at h2; cases h2)]; exact h2, Rkv.thaw hA kvs kv n2 h3⟩⟩
    · exact ⟨b, o, h1, .inr ⟨kv, h4, by rw [upd_ne (fun z => by subst z; rw [hA] at h2; cases h2)]; exact h2, RkT.thaw hA kvs kv n2 h3⟩⟩
theorem Rvs.thaw (hA : H a = some (.frz o0 (.lst vs0))) : ∀ (ds : List D) (vs : List V), nLs ds = true → Rvs K H α ds vs → Rvs K (upd H a u) α ds vs
  | [], vs, _, h => by simp only [Rvs] at h ⊢; exact h
  | d :: ds, vs, n1, h => by
    simp only [Rvs] at h ⊢
    simp only [nLs, Bool.and_eq_true] at n1
    obtain ⟨v, r, h1, h2, h3⟩ := h
    exact ⟨v, r, h1, Rv.thaw hA d v n1.1 h2, Rvs.thaw hA ds r n1.2 h3⟩
theorem Rkv.thaw (hA : H a = some (.frz o0 (.lst vs0))) : ∀ (ds : List (D × D)) (vs : List (Key × V)), nLk ds = true → Rkv K H α ds vs → Rkv K (upd H a u) α ds vs
  | [], vs, _, h => by simp only [Rkv] at h ⊢; exact h
  | (k, d) :: ds, vs, n1, h => by
    simp only [Rkv] at h ⊢
    simp only [nLk, Bool.and_eq_true] at n1
    obtain ⟨q, v, r, h1, h0, h2, h3⟩ := h
    exact ⟨q, v, r, h1, h0, Rv.thaw hA d v n1.1 h2, Rkv.thaw hA ds r n1.2 h3⟩
theorem RkT.thaw (hA : H a = some (.frz o0 (.lst vs0))) : ∀ (ds : List (D × D)) (vs : List (List Key × V)), nLk ds = true → RkT K H α ds vs → RkT K (upd H a u) α ds vs
  | [], vs, _, h => by simp only [RkT] at h ⊢; exact h
  | (k, d) :: ds, vs, n1, h => by
    simp only [RkT] at h ⊢
    simp only [nLk, Bool.and_eq_true] at n1
    obtain ⟨q, v, r, h1, h0, h2, h3⟩ := h
    exact ⟨q, v, r, h1, h0, Rv.thaw hA d v n1.1 h2, RkT.thaw hA ds r n1.2 h3⟩
end
theorem cellThaw (hA : H a = some (HO.frz o0 (HO.lst vs0))) {b : Addr} {c : Cell} (n : nLc c = true) (h : CellOk K H α b c) : b ≠ a ∧ CellOk K (upd H a u) α b c := by
  cases c with
  | lst xs =>
    obtain ⟨vs, h1, h2⟩ := h
    have e : b ≠ a := fun z => by subst z; rw [hA] at h1; cases h1
    exact ⟨e, vs, by rw [upd_ne e]; exact h1, Rvs.thaw hA xs vs n h2⟩
  | dct kvs =>
    rcases h with ⟨kv, h1, h2⟩ | ⟨kv, nn, h1, h2⟩
    · have e : b ≠ a := fun z => by subst z; rw [hA] at h1; cases h1
      exact ⟨e, .inl ⟨kv, by rw [upd_ne e]; exact h1, Rkv.thaw hA kvs kv n h2⟩⟩
    · have e : b ≠ a := fun z => by subst z; rw [hA] at h1; cases h1
      exact ⟨e, .inr ⟨kv, nn, by rw [upd_ne e]; exact h1, RkT.thaw hA kvs kv n h2⟩⟩
  | ins _ _ => cases n
  | tab _ => cases n
  | dead => cases n
theorem Rx.thaw (hA : H a = some (.frz o0 (.lst vs0))) {σ : Sg} {d : D} {v : V} (n : nL d = true) (h : Rx K H α σ d v) : Rx K (upd H a u) α σ d v :=
  Rv.x (Rv.thaw hA d v n (h.rv fun i z => by subst z; simp [nL] at n))
end
section
variable {X : Cx}
theorem pd_lend (i : Nat) {e : Expr} {f : FE} (h : PED X e f) : PED X e (dLend i f) := by
  refine ⟨fun W tk => ?_⟩
  obtain ⟨t, p, q⟩ := h.run W tk
  refine ⟨_, pe_lock p, fun H0 α0 σ H α s Q r k => ?_⟩
  unfold dLend at k
  split at k
  case h_2 => exact k.elim
  rename_i xs hi
  obtain ⟨a, h1, h2, h3⟩ := r.giveUp hi
  have hcell := h3.1
  have na := h3.2.1
  have n0 := h3.2.2.1
  obtain ⟨vs, hv, rr⟩ := hcell
  refine ⟨a, .lst vs, hv, trivial, fun od => ?_⟩
  obtain ⟨u, hu, mu, kk⟩ := h2.frz h3 (fun z => nomatch z) (fun n z => nomatch z)
  rw [hv] at hu
  cases hu
  obtain ⟨r2, t2, rv⟩ := kk od
  have r3 := r2.setV (i := i) rv
  have es : σ.set i (some (.ref a)) = σ := by
    apply List.ext_getElem?
    intro j
    by_cases hj : i = j
    · subst hj
      rw [h1, List.getElem?_set_self (List.getElem?_eq_some_iff.mp h1).1]
    · rw [List.getElem?_set_ne hj]
  rw [es] at r3
  simp only [List.set_set] at r3
  refine q H0 α0 σ _ α _ _ r3 ?_
  cases ef : f { s with δ := s.δ.set i (.val (Cell.lst xs).toD) } with
  | bad => rw [show (Cell.lst xs).toD = D.lst xs from rfl] at ef; rw [ef] at k; exact k.elim
  | exc e s1 => rw [show (Cell.lst xs).toD = D.lst xs from rfl] at ef; rw [ef] at k; exact k.elim
  | ok d s1 =>
    rw [show (Cell.lst xs).toD = D.lst xs from rfl] at ef
    rw [ef] at k
    simp only at k
    split at k
    case isFalse => exact k.elim
    rename_i hc
    simp only [Bool.and_eq_true, List.all_eq_true] at hc
    obtain ⟨⟨⟨c1, c2⟩, c3⟩, c4⟩ := hc
    intro v H' α' r' t' rx
    have hA : H' a = some (.frz od (.lst vs)) := t'.im a _ upd_same trivial
    refine ⟨hA, k v _ α' ?_ ?_ (Rx.thaw hA c1 rx)⟩
    · have st0 : Stay H0 α0 (upd H' a (.lst vs)) α' := ⟨fun b o hb fb => by
        rw [upd_ne (fun z => by subst z; rw [n0] at hb; cases hb)]; exact r'.st.im b o hb fb, r'.st.pre, fun b hb => by
        by_cases e : b = a
        · subst e; exact n0
        · rw [upd_ne e] at hb; exact r'.st.dom b hb⟩
      have stH : Stay H α (upd H' a (.lst vs)) α' := ⟨fun b o hb fb => by
        by_cases e : b = a
        · subst e; rw [hv] at hb; cases hb; exact fb.elim
        · rw [upd_ne e]; exact t'.im b o (by rw [upd_ne e]; exact hb) fb, t'.pre, fun b hb => by
        by_cases e : b = a
        · subst e; rw [upd_same] at hb; cases hb
        · rw [upd_ne e] at hb; have := t'.dom b hb; rwa [upd_ne e] at this⟩
      have hmem : ∀ b c n, α'[n]? = some b → s1.μ[n]? = some c → b ≠ a ∧ CellOk X.K (upd H' a (.lst vs)) α' b c := fun b c n e1 e2 =>
        cellThaw hA (c2 c (List.mem_of_getElem? e2)) (r'.cells.at_ n b c e1 e2)
      have na' : a ∉ α' := fun z => by
        obtain ⟨n, hn, e⟩ := List.getElem_of_mem z
        have e1 : α'[n]? = some a := by rw [List.getElem?_eq_getElem hn, e]
        have hn2 : n < s1.μ.length := by rw [← r'.cells.len]; exact hn
        exact (hmem a _ n e1 (List.getElem?_eq_getElem hn2)).1 rfl
      have hs : ∀ j sl, i ≠ j → s1.δ[j]? = some sl → nLl sl = true := fun j sl ne e => c3 sl (List.mem_of_getElem? (i := j) (by rw [List.getElem?_set_ne ne]; exact e))
      have ow : ∀ j c, i ≠ j → s1.δ[j]? = some (.own c) → ∃ b, σ[j]? = some (some (.ref b)) ∧ b ∉ α' ∧ H0 b = none ∧ b ≠ a ∧ CellOk X.K (upd H' a (.lst vs)) α' b c := fun j c ne e => by
        obtain ⟨b, e1, e2, e3, e4⟩ := r'.slots.own j c e
        obtain ⟨e5, e6⟩ := cellThaw (u := .lst vs) hA (hs j _ ne e) e4
        exact ⟨b, e1, e2, e3, e5, e6⟩
      refine ⟨⟨r'.cells.len, r'.cells.nd, fun n b c e1 e2 => (hmem b c n e1 e2).2⟩, ⟨by simpa using r'.slots.len, fun j d' e => ?_, fun j c e => ?_, fun j l c c' b e1 e2 e3 e4 => ?_⟩, fun b o e1 e2 => ?_, r'.nw, st0⟩
      · rcases get_set e with ⟨_, e, _⟩ | ⟨ne, e⟩
        · cases e
        · obtain ⟨v', e1, e2⟩ := r'.slots.val j d' e
          exact ⟨v', e1, Rv.thaw hA d' v' (hs j _ ne e) e2⟩
      · rcases get_set e with ⟨rfl, e, _⟩ | ⟨ne, e⟩
        · cases e
          exact ⟨a, h1, na', n0, vs, upd_same, Rvs.stay stH _ _ rr⟩
        · obtain ⟨b, e1, e2, e3, _, e5⟩ := ow j c ne e
          exact ⟨b, e1, e2, e3, e5⟩
      · rcases get_set e1 with ⟨rfl, _, _⟩ | ⟨ne, e1⟩
        · rcases get_set e2 with ⟨rfl, _, _⟩ | ⟨ne2, e2⟩
          · rfl
          · obtain ⟨b', z1, _, _, z2, _⟩ := ow l c' ne2 e2
            rw [h1] at e3; cases e3
            rw [z1] at e4; cases e4
            exact absurd rfl z2
        · rcases get_set e2 with ⟨rfl, _, _⟩ | ⟨ne2, e2⟩
          · obtain ⟨b', z1, _, _, z2, _⟩ := ow j c ne e1
            rw [h1] at e4; cases e4
            rw [z1] at e3; cases e3
            exact absurd rfl z2
          · exact r'.slots.inj j l c c' b e1 e2 e3 e4
      · rw [upd_ne (fun z => by subst z; rw [n0] at e1; cases e1)]
        exact r'.ot b o e1 e2
    · exact ⟨fun b o hb fb => by
        by_cases e : b = a
        · subst e; rw [hv] at hb; cases hb; exact fb.elim
        · rw [upd_ne e]; exact t'.im b o (by rw [upd_ne e]; exact hb) fb, t'.pre, fun b hb => by
        by_cases e : b = a
        · subst e; rw [upd_same] at hb; cases hb
        · rw [upd_ne e] at hb; have := t'.dom b hb; rwa [upd_ne e] at this⟩
end
end DL

namespace K12
open PySem PySem.Spec PyProof.Rows L2 DL
def b_is_integer : FS := (dRet (dAndV (dB gIsi (dCons (dVar 0) (dCons (dC (.ty "int")) dNil))) (dNotV (dB gIsi (dCons (dVar 0) (dCons (dC (.ty "bool")) dNil))))))
def F_is_integer : FF := runF b_is_integer 1
def b_require_width : FS := (dIfS (dOrT (dNotT (dTruth (dCall F_is_integer (dCons (dVar 0) dNil)))) (dNotT (dChainT gLe gLe (dC (.int (1))) (dVar 0) (dC (.int (60)))))) (fun _ => .bad) dSkip)
def F_require_width : FF := runF b_require_width 1
def b_dot : FS := (dRet (dB gSum (dCons (dFrz (dLc [2, 3] (dIterZp (dCons (dVar 0) (dCons (dVar 1) dNil))) (gT (gC (gNm 2) (gC (gNm 3) gN))) dYes (dOp gMul (dVar 2) (dVar 3)))) dNil)))
def F_dot : FF := runF b_dot 4
def b_lead_in : FS := (dSeq (dForI (dIterEn (dCons (dVar 0) dNil)) (gT (gC (gNm 1) (gC (gNm 2) gN))) (dIfS (dCmpT neS (dVar 2) (dC (.int (0)))) (dRet (dVar 1)) dSkip))
    (dRet (dC .non)))
def F_lead_in : FF := runF b_lead_in 3
def b_common_share (n0 : Nat) : FS := (dSeq (dWhile (dCmpT neS (dVar 1) (dC (.int (0)))) (dPar 0 1 (dCons (dVar 1) (dCons (dOp gMod (dVar 0) (dVar 1)) dNil))) n0)
    (dRet (dB gAbs (dCons (dVar 0) dNil))))
def fu0_common_share (ds : List D) (μ : List Cell) : Nat := match ds with | [_, .int b] => b.natAbs + 1 | _ => 0
def F_common_share : FF := fun ds μ => runF (b_common_share (fu0_common_share ds μ)) 2 ds μ
def b_lowest_row : FS := (dSeq (dAsg 1 (dC (.int (0))))
    (dSeq (dForI (dIter (dVar 0)) (gNm 2) (dAsg 1 (dCall F_common_share (dCons (dVar 1) (dCons (dVar 2) dNil)))))
    (dSeq (dIfS (dCmpT eqS (dVar 1) (dC (.int (0)))) (dRet (dB gTuple (dCons (dVar 0) dNil))) dSkip)
    (dSeq (dIfS (dCmpT gLt (dOp gIx (dVar 0) (dCall F_lead_in (dCons (dVar 0) dNil))) (dC (.int (0)))) (dAsg 1 (dOp gSub (dC (.int (0))) (dVar 1))) dSkip)
    (dRet (dB gTuple (dCons (dFrz (dLc [2] (dIter (dVar 0)) (gNm 2) dYes (dOp gFdiv (dVar 2) (dVar 1)))) dNil)))))))
def F_lowest_row : FF := runF b_lowest_row 3
def b_less_by : FS := (dSeq (dAsg 2 (dCall F_lead_in (dCons (dVar 1) dNil)))
    (dSeq (dIfS (dCmpT eqS (dOp gIx (dVar 0) (dVar 2)) (dC (.int (0)))) (dRet (dVar 0)) dSkip)
    (dRet (dB gTuple (dCons (dFrz (dLc [3, 4] (dIterZp (dCons (dVar 0) (dCons (dVar 1) dNil))) (gT (gC (gNm 3) (gC (gNm 4) gN))) dYes (dOp gSub (dOp gMul (dOp gIx (dVar 1) (dVar 2)) (dVar 3)) (dOp gMul (dOp gIx (dVar 0) (dVar 2)) (dVar 4))))) dNil)))))
def F_less_by : FF := runF b_less_by 5
def b_rest_by : FS := (dSeq (dForI (dIter (dVar 0)) (gNm 2) (dAsg 1 (dCall F_less_by (dCons (dVar 1) (dCons (dVar 2) dNil)))))
    (dRet (dVar 1)))
def F_rest_by : FF := runF b_rest_by 3
def b_with_row : FS := (dSeq (dAsg 2 (dCall F_lowest_row (dCons (dCall F_rest_by (dCons (dVar 0) (dCons (dVar 1) dNil))) dNil)))
    (dSeq (dIfS (dCmpT isN (dCall F_lead_in (dCons (dVar 2) dNil)) (dC .non)) (dRet (dVar 0)) dSkip)
    (dSeq (dAsg 3 (dOp gAdd (dFrz (dLc [4] (dIter (dVar 0)) (gNm 4) dYes (dCall F_lowest_row (dCons (dCall F_less_by (dCons (dVar 4) (dCons (dVar 2) dNil))) dNil)))) (dFrz (dLst (dCons (dVar 2) dNil)))))
    (dRet (dB gTuple (dCons (dFrz (dSortKey F_lead_in (dVar 3))) dNil))))))
def F_with_row : FF := runF b_with_row 5
def b_lot_in : FS := (dSeq (dAsg 1 (dTup dNil))
    (dSeq (dForI (dIter (dVar 0)) (gNm 2) (dAsg 1 (dCall F_with_row (dCons (dVar 1) (dCons (dVar 2) dNil)))))
    (dRet (dVar 1))))
def F_lot_in : FF := runF b_lot_in 3
def b_apart_in : FS := (dSeq (dParM3 3 4 5 (dMv (dFrz (dLc [2] (dIter (dVar 1)) (gNm 2) dYes (dCall F_lead_in (dCons (dVar 2) dNil)))) (dMv (dC (.int (1))) (dMc (dLst dNil) dMn))))
    (dSeq (dForI (dIterZp (dCons (dVar 3) (dCons (dVar 1) dNil))) (gT (gC (gNm 6) (gC (gNm 2) gN))) (dAsg 4 (dOp gMul (dVar 4) (dOp gIx (dVar 2) (dVar 6)))))
    (dSeq (dFrzS 5 (dForI (dRng1 (dCons (dVar 0) dNil)) (gNm 7) (dIfS (dCmpT (gDat niG) (dVar 7) (dVar 3)) (dSeq (dAsgO 8 (dRepF (dLst (dCons (dC (.int (0))) dNil)) (dVar 0)))
    (dSeq (dSetI gSetI (dVar 4) (dVar 8) (dVar 7))
    (dSeq (dForI (dIterZp (dCons (dVar 3) (dCons (dVar 1) dNil))) (gT (gC (gNm 6) (gC (gNm 2) gN))) (dSetI gSetI (dOp gSub (dC (.int (0))) (dOp gMul (dOp gIx (dVar 2) (dVar 7)) (dOp gFdiv (dVar 4) (dOp gIx (dVar 2) (dVar 6))))) (dVar 8) (dVar 6)))
    (dDrop (dM "list" gAppend (dVar 5) (dCons (dB gTuple (dCons (dVar 8) dNil)) dNil)))))) dSkip)))
    (dRet (dCall F_lot_in (dCons (dVar 5) dNil))))))
def F_apart_in : FF := runF b_apart_in 9
def b_is_plain_row : FS := (dRet (dAndV (dB gIsi (dCons (dVar 1) (dCons (dC (.ty "tuple")) dNil))) (dAndV (dOp eqS (dB gLen (dCons (dVar 1) dNil)) (dVar 0)) (dB gAll (dCons (dFrz (dLc [2] (dIter (dVar 1)) (gNm 2) dYes (dCall F_is_integer (dCons (dVar 2) dNil)))) dNil)))))
def F_is_plain_row : FF := runF b_is_plain_row 3
def b_require_row : FS := (dIfS (dNotT (dTruth (dCall F_is_plain_row (dCons (dVar 0) (dCons (dVar 1) dNil))))) (fun _ => .bad) dSkip)
def F_require_row : FF := runF b_require_row 2
def b_require_rows : FS := (dIfS (dOrT (dNotT (dTruth (dB gIsi (dCons (dVar 1) (dCons (dC (.ty "tuple")) dNil))))) (dNotT (dTruth (dB gAll (dCons (dFrz (dLc [2] (dIter (dVar 1)) (gNm 2) dYes (dCall F_is_plain_row (dCons (dVar 0) (dCons (dVar 2) dNil))))) dNil))))) (fun _ => .bad) dSkip)
def F_require_rows : FF := runF b_require_rows 3
def b_sum_in : FS := (dSeq (dParM 3 4 (dMv (dB gLen (dCons (dVar 1) dNil)) (dMc (dLst dNil) dMn)))
    (dSeq (dFrzS 4 (dForI (dIterEn (dCons (dVar 1) dNil)) (gT (gC (gNm 5) (gC (gNm 6) gN))) (dSeq (dAsg 7 (dB gTuple (dCons (dFrz (dLc [12] (dRng1 (dCons (dOp gAdd (dVar 3) (dC (.int (1)))) dNil)) (gNm 12) dYes (dIf (dCmpT eqS (dVar 12) (dVar 5)) (dC (.int (1))) (dC (.int (0)))))) dNil)))
    (dSeq (dAsg 8 (dLend 4 (dCall F_rest_by (dCons (dVar 4) (dCons (dOp gAdd (dVar 6) (dVar 7)) dNil)))))
    (dIfS (dCmpT notN (dCall F_lead_in (dCons (dSl (dVar 8) dNo (dPart (dVar 0))) dNil)) (dC .non)) (dDrop (dM "list" gAppend (dVar 4) (dCons (dCall F_lowest_row (dCons (dVar 8) dNil)) dNil))) dSkip)))))
    (dSeq (dAsg 8 (dCall F_rest_by (dCons (dVar 4) (dCons (dOp gAdd (dOp gAdd (dVar 2) (dOp gMul (dTup (dCons (dC (.int (0))) dNil)) (dVar 3))) (dTup (dCons (dC (.int (1))) dNil))) dNil))))
    (dSeq (dIfS (dCmpT notN (dCall F_lead_in (dCons (dSl (dVar 8) dNo (dPart (dVar 0))) dNil)) (dC .non)) (dRet (dC .non)) dSkip)
    (dSeq (dAsg 9 (dSl (dVar 8) (dPart (dVar 0)) dNo))
    (dSeq (dAsg 10 (dC (.int (0))))
    (dSeq (dForI (dIter (dVar 9)) (gNm 11) (dAsg 10 (dCall F_common_share (dCons (dVar 10) (dCons (dVar 11) dNil)))))
    (dRet (dTup (dCons (dOp gFdiv (dOp gIx (dVar 9) (dNeg (dC (.int (1))))) (dVar 10)) (dCons (dB gTuple (dCons (dFrz (dLc [11] (dIter (dSl (dVar 9) dNo (dPart (dNeg (dC (.int (1))))))) (gNm 11) dYes (dOp gSub (dC (.int (0))) (dOp gFdiv (dVar 11) (dVar 10))))) dNil)) dNil)))))))))))
def F_sum_in : FF := runF b_sum_in 13
def b_span_paper : FS := (dSeq (dDrop (dCall F_require_width (dCons (dVar 0) dNil)))
    (dSeq (dDrop (dCall F_require_rows (dCons (dVar 0) (dCons (dVar 1) dNil))))
    (dSeq (dDrop (dCall F_require_row (dCons (dVar 0) (dCons (dVar 2) dNil))))
    (dSeq (dAsg 3 (dCall F_sum_in (dCons (dVar 0) (dCons (dVar 1) (dCons (dVar 2) dNil)))))
    (dSeq (dIfS (dCmpT notN (dVar 3) (dC .non)) (dRet (dTup (dCons (dC (.str "sum")) (dStar (dVar 3) dNil)))) dSkip)
    (dSeq (dFrzS 4 (dAsgO 4 (dLc [5] (dIter (dCall F_apart_in (dCons (dVar 0) (dCons (dCall F_lot_in (dCons (dVar 1) dNil)) dNil)))) (gNm 5) (dCmpT neS (dCall F_dot (dCons (dVar 5) (dCons (dVar 2) dNil))) (dC (.int (0)))) (dVar 5))))
    (dRet (dTup (dCons (dC (.str "apart")) (dCons (dOp gIx (dVar 4) (dC (.int (0)))) dNil))))))))))
def F_span_paper : FF := runF b_span_paper 6
def b_L_dice : FS := (dSeq (dAsg 2 (dIf (dCmpT gLt (dVar 1) (dB gLen (dCons (dVar 0) dNil))) (dB gInt (dCons (dOp gIx (dVar 0) (dVar 1)) dNil)) (dOp gAdd (dOp gMul (dC (.int (131))) (dVar 1)) (dC (.int (37))))))
    (dSeq (dAsg 3 (dOp gMod (dB gInt (dCons (dB gAbs (dCons (dVar 2) dNil)) dNil)) (dOp gPow (dOp gPow (dC (.int (10))) (dC (.int (53)))) (dC (.int (6))))))
    (dSeq (dAsg 4 (dOp gAdd (dOp gAdd (dOp gAdd (dOp gMul (dOp gMod (dVar 3) (dC (.int (2305843009213693907)))) (dC (.int (73)))) (dOp gMul (dC (.int (619))) (dVar 1))) (dOp gMul (dC (.int (41))) (dB gInt (dCons (dOp gLt (dVar 2) (dC (.int (0)))) dNil)))) (dC (.int (17)))))
    (dRetF (dLst (dCons (dB gMax2 (dCons (dC (.int (0))) (dCons (dOp gSub (dVar 3) (dOp gPow (dC (.int (10))) (dC (.int (16))))) dNil))) (dCons (dVar 4) (dCons (dC (.int (0))) dNil))))))))
def F_L_dice : FF := runF b_L_dice 5
def b_L_roll : FS := (dSeq (dIfS (dCmpT gGt (dOp gIx (dVar 0) (dC (.int (0)))) (dC (.int (0)))) (dSeq (dAsg 2 (dOp gMod (dOp gIx (dVar 0) (dC (.int (0)))) (dVar 1)))
    (dSeq (dSetI gSetI (dOp gFdiv (dOp gIx (dVar 0) (dC (.int (0)))) (dVar 1)) (dVar 0) (dC (.int (0))))
    (dRet (dB gInt (dCons (dVar 2) dNil))))) dSkip)
    (dSeq (dSetI gSetI (dOp gAdd (dOp gIx (dVar 0) (dC (.int (2)))) (dC (.int (1)))) (dVar 0) (dC (.int (2))))
    (dSeq (dAsg 3 (dOp gMod (dOp gAdd (dOp gIx (dVar 0) (dC (.int (1)))) (dOp gMul (dC (.int (49979687))) (dOp gIx (dVar 0) (dC (.int (2)))))) (dC (.int (2305843009213693951)))))
    (dSeq (dAsg 4 (dOp gAdd (dOp gMul (dOp gMod (dOp gAdd (dOp gMul (dVar 3) (dVar 3)) (dOp gMul (dC (.int (131))) (dOp gIx (dVar 0) (dC (.int (2)))))) (dC (.int (2305843009213693921)))) (dC (.int (32452843)))) (dVar 3)))
    (dRet (dOp gMod (dB gInt (dCons (dOp gFdiv (dVar 4) (dC (.int (65587)))) dNil)) (dVar 1)))))))
def F_L_roll : FF := runF b_L_roll 5
def b_sum_of_rows : FS := (dRet (dB gTuple (dCons (dFrz (dLc [2, 3] (dIterZp (dCons (dVar 0) (dCons (dVar 1) dNil))) (gT (gC (gNm 2) (gC (gNm 3) gN))) dYes (dOp gAdd (dVar 2) (dVar 3)))) dNil)))
def F_sum_of_rows : FF := runF b_sum_of_rows 4
def b_times_row : FS := (dRet (dB gTuple (dCons (dFrz (dLc [2] (dIter (dVar 1)) (gNm 2) dYes (dOp gMul (dVar 0) (dVar 2)))) dNil)))
def F_times_row : FF := runF b_times_row 3
def b_is_span_paper : FS := (dSeq (dDrop (dCall F_require_width (dCons (dVar 0) dNil)))
    (dSeq (dDrop (dCall F_require_rows (dCons (dVar 0) (dCons (dVar 1) dNil))))
    (dSeq (dDrop (dCall F_require_row (dCons (dVar 0) (dCons (dVar 2) dNil))))
    (dSeq (dIfS (dOrT (dNotT (dTruth (dB gIsi (dCons (dVar 3) (dCons (dC (.ty "tuple")) dNil))))) (dOrT (dCmpT eqS (dVar 3) (dTup dNil)) (dNotT (dTruth (dB gIsi (dCons (dOp gIx (dVar 3) (dC (.int (0)))) (dCons (dC (.ty "str")) dNil))))))) (dRet (dC (.bl false))) dSkip)
    (dSeq (dIfS (dCmpT eqS (dOp gIx (dVar 3) (dC (.int (0)))) (dC (.str "apart"))) (dSeq (dIfS (dOrT (dCmpT neS (dB gLen (dCons (dVar 3) dNil)) (dC (.int (2)))) (dNotT (dTruth (dCall F_is_plain_row (dCons (dVar 0) (dCons (dOp gIx (dVar 3) (dC (.int (1)))) dNil)))))) (dRet (dC (.bl false))) dSkip)
    (dRet (dAndV (dB gAll (dCons (dFrz (dLc [4] (dIter (dVar 1)) (gNm 4) dYes (dOp eqS (dCall F_dot (dCons (dVar 4) (dCons (dOp gIx (dVar 3) (dC (.int (1)))) dNil))) (dC (.int (0)))))) dNil)) (dOp neS (dCall F_dot (dCons (dVar 2) (dCons (dOp gIx (dVar 3) (dC (.int (1)))) dNil))) (dC (.int (0))))))) dSkip)
    (dSeq (dIfS (dOrT (dCmpT neS (dOp gIx (dVar 3) (dC (.int (0)))) (dC (.str "sum"))) (dOrT (dCmpT neS (dB gLen (dCons (dVar 3) dNil)) (dC (.int (3)))) (dOrT (dNotT (dTruth (dCall F_is_integer (dCons (dOp gIx (dVar 3) (dC (.int (1)))) dNil)))) (dCmpT gLt (dOp gIx (dVar 3) (dC (.int (1)))) (dC (.int (1))))))) (dRet (dC (.bl false))) dSkip)
    (dSeq (dIfS (dNotT (dTruth (dCall F_is_plain_row (dCons (dB gLen (dCons (dVar 1) dNil)) (dCons (dOp gIx (dVar 3) (dC (.int (2)))) dNil))))) (dRet (dC (.bl false))) dSkip)
    (dSeq (dAsg 5 (dOp gMul (dTup (dCons (dC (.int (0))) dNil)) (dVar 0)))
    (dSeq (dForI (dIterZp (dCons (dOp gIx (dVar 3) (dC (.int (2)))) (dCons (dVar 1) dNil))) (gT (gC (gNm 6) (gC (gNm 4) gN))) (dAsg 5 (dCall F_sum_of_rows (dCons (dVar 5) (dCons (dCall F_times_row (dCons (dVar 6) (dCons (dVar 4) dNil))) dNil)))))
    (dRet (dOp eqS (dVar 5) (dCall F_times_row (dCons (dOp gIx (dVar 3) (dC (.int (1)))) (dCons (dVar 2) dNil))))))))))))))
def F_is_span_paper : FF := runF b_is_span_paper 7
def b_L_pick : FS := (dRet (dOp gIx (dVar 1) (dCall F_L_roll (dCons (dVar 0) (dCons (dB gLen (dCons (dVar 1) dNil)) dNil)))))
def F_L_pick : FF := runF b_L_pick 2
def b_L_lead : FS := (dRet (dB gMin (dCons (dOp gAdd (dFrz (dLc [1, 2] (dIterEn (dCons (dVar 0) dNil)) (gT (gC (gNm 1) (gC (gNm 2) gN))) (dCmpT neS (dVar 2) (dC (.int (0)))) (dVar 1))) (dFrz (dLst (dCons (dB gLen (dCons (dVar 0) dNil)) dNil)))) dNil)))
def F_L_lead : FF := runF b_L_lead 3
def b_L_gcd (n0 : Nat) : FS := (dSeq (dWhile (dCmpT neS (dVar 1) (dC (.int (0)))) (dPar 0 1 (dCons (dVar 1) (dCons (dOp gMod (dVar 0) (dVar 1)) dNil))) n0)
    (dRet (dB gAbs (dCons (dVar 0) dNil))))
def fu0_L_gcd (ds : List D) (μ : List Cell) : Nat := match ds with | [_, .int b] => b.natAbs + 1 | _ => 0
def F_L_gcd : FF := fun ds μ => runF (b_L_gcd (fu0_L_gcd ds μ)) 2 ds μ
def b_L_lowest : FS := (dSeq (dAsg 1 (dC (.int (0))))
    (dSeq (dForI (dIter (dVar 0)) (gNm 2) (dAsg 1 (dCall F_L_gcd (dCons (dVar 1) (dCons (dVar 2) dNil)))))
    (dSeq (dIfS (dCmpT eqS (dVar 1) (dC (.int (0)))) (dRet (dB gTuple (dCons (dVar 0) dNil))) dSkip)
    (dSeq (dAsg 3 (dIf (dCmpT gGt (dOp gIx (dVar 0) (dCall F_L_lead (dCons (dVar 0) dNil))) (dC (.int (0)))) (dC (.int (1))) (dNeg (dC (.int (1))))))
    (dRet (dB gTuple (dCons (dFrz (dLc [2] (dIter (dVar 0)) (gNm 2) dYes (dOp gMul (dVar 3) (dOp gFdiv (dVar 2) (dVar 1))))) dNil)))))))
def F_L_lowest : FF := runF b_L_lowest 4
def b_L_less : FS := (dSeq (dAsg 2 (dCall F_L_lead (dCons (dVar 1) dNil)))
    (dSeq (dIfS (dCmpT eqS (dOp gIx (dVar 0) (dVar 2)) (dC (.int (0)))) (dRet (dVar 0)) dSkip)
    (dRet (dB gTuple (dCons (dFrz (dLc [3, 4] (dIterZp (dCons (dVar 0) (dCons (dVar 1) dNil))) (gT (gC (gNm 3) (gC (gNm 4) gN))) dYes (dOp gSub (dOp gMul (dOp gIx (dVar 1) (dVar 2)) (dVar 3)) (dOp gMul (dOp gIx (dVar 0) (dVar 2)) (dVar 4))))) dNil)))))
def F_L_less : FF := runF b_L_less 5
def b_L_with_row : FS := (dSeq (dForI (dIter (dVar 0)) (gNm 2) (dAsg 1 (dCall F_L_less (dCons (dVar 1) (dCons (dVar 2) dNil)))))
    (dSeq (dIfS (dCmpT eqS (dCall F_L_lead (dCons (dVar 1) dNil)) (dB gLen (dCons (dVar 1) dNil))) (dRet (dVar 0)) dSkip)
    (dSeq (dAsg 1 (dCall F_L_lowest (dCons (dVar 1) dNil)))
    (dSeq (dAsg 3 (dOp gAdd (dFrz (dLc [2] (dIter (dVar 0)) (gNm 2) dYes (dCall F_L_lowest (dCons (dCall F_L_less (dCons (dVar 2) (dCons (dVar 1) dNil))) dNil)))) (dFrz (dLst (dCons (dVar 1) dNil)))))
    (dRet (dB gTuple (dCons (dFrz (dLc [4] (dIter (dFrz (dBF gSorted (dCons (dFrz (dLc [5] (dIter (dVar 3)) (gNm 5) dYes (dTup (dCons (dCall F_L_lead (dCons (dVar 5) dNil)) (dCons (dVar 5) dNil))))) dNil)))) (gNm 4) dYes (dOp gIx (dVar 4) (dC (.int (1)))))) dNil)))))))
def F_L_with_row : FF := runF b_L_with_row 6
def b_L_lot : FS := (dSeq (dAsg 1 (dTup dNil))
    (dSeq (dForI (dIter (dVar 0)) (gNm 2) (dAsg 1 (dCall F_L_with_row (dCons (dVar 1) (dCons (dVar 2) dNil)))))
    (dRet (dVar 1))))
def F_L_lot : FF := runF b_L_lot 3
def b_L_holds : FS := (dSeq (dForI (dIter (dVar 0)) (gNm 2) (dAsg 1 (dCall F_L_less (dCons (dVar 1) (dCons (dVar 2) dNil)))))
    (dRet (dOp eqS (dCall F_L_lead (dCons (dVar 1) dNil)) (dB gLen (dCons (dVar 1) dNil)))))
def F_L_holds : FF := runF b_L_holds 3
def b_L_summed : FS := (dSeq (dAsg 3 (dFrz (dRepF (dLst (dCons (dC (.int (0))) dNil)) (dVar 0))))
    (dSeq (dForI (dIterZp (dCons (dVar 1) (dCons (dVar 2) dNil))) (gT (gC (gNm 4) (gC (gNm 5) gN))) (dFrzS 3 (dAsgO 3 (dLc [6, 7] (dIterZp (dCons (dVar 3) (dCons (dVar 4) dNil))) (gT (gC (gNm 6) (gC (gNm 7) gN))) dYes (dOp gAdd (dVar 6) (dOp gMul (dVar 5) (dVar 7)))))))
    (dRet (dB gTuple (dCons (dVar 3) dNil)))))
def F_L_summed : FF := runF b_L_summed 8
def b_L_rw_drawn : FS := (dSeq (dAsgO 3 (dLst dNil))
    (dSeq (dForI (dRng1 (dCons (dVar 2) dNil)) (gNm 4) (dSeq (dAsg 5 (dCall F_L_roll (dCons (dVar 0) (dCons (dC (.int (5))) dNil))))
    (dSeq (dAsg 6 (dB gTuple (dCons (dFrz (dLc [7] (dRng1 (dCons (dVar 1) dNil)) (gNm 7) dYes (dCall F_L_pick (dCons (dVar 0) (dCons (dFrz (dLst (dCons (dC (.int (0))) (dCons (dC (.int (0))) (dCons (dC (.int (1))) (dCons (dNeg (dC (.int (1)))) (dCons (dC (.int (2))) (dCons (dNeg (dC (.int (3)))) (dCons (dC (.int (7))) dNil))))))))) dNil))))) dNil)))
    (dSeq (dIfS (dCmpT eqS (dVar 5) (dC (.int (0)))) (dAsg 6 (dOp gMul (dTup (dCons (dC (.int (0))) dNil)) (dVar 1))) (dIfS (dAndT (dCmpT gLt (dVar 5) (dC (.int (3)))) (dCmpT neS (dVar 3) (dFrz (dLst dNil)))) (dAsg 6 (dLend 3 (dCall F_L_summed (dCons (dVar 1) (dCons (dVar 3) (dCons (dFrz (dLc [8] (dIter (dVar 3)) (gNm 8) dYes (dOp gSub (dCall F_L_roll (dCons (dVar 0) (dCons (dC (.int (5))) dNil))) (dC (.int (2)))))) dNil)))))) dSkip))
    (dDrop (dM "list" gAppend (dVar 3) (dCons (dVar 6) dNil)))))))
    (dRetF (dTake 3))))
def F_L_rw_drawn : FF := runF b_L_rw_drawn 9
def b_L_dot : FS := (dRet (dB gSum (dCons (dFrz (dLc [2, 3] (dIterZp (dCons (dVar 0) (dCons (dVar 1) dNil))) (gT (gC (gNm 2) (gC (gNm 3) gN))) dYes (dOp gMul (dVar 2) (dVar 3)))) dNil)))
def F_L_dot : FF := runF b_L_dot 4
def b_L_is_number : FS := (dRet (dAndV (dB gIsi (dCons (dVar 0) (dCons (dC (.ty "int")) dNil))) (dNotV (dB gIsi (dCons (dVar 0) (dCons (dC (.ty "bool")) dNil))))))
def F_L_is_number : FF := runF b_L_is_number 1
def b_L_is_row : FS := (dRet (dAndV (dB gIsi (dCons (dVar 1) (dCons (dC (.ty "tuple")) dNil))) (dAndV (dOp eqS (dB gLen (dCons (dVar 1) dNil)) (dVar 0)) (dOp eqS (dFrz (dLc [2] (dIter (dVar 1)) (gNm 2) (dNotT (dTruth (dCall F_L_is_number (dCons (dVar 2) dNil)))) (dC (.int (1))))) (dFrz (dLst dNil))))))
def F_L_is_row : FF := runF b_L_is_row 3
def b_L_is_paper : FS := (dSeq (dIfS (dOrT (dNotT (dTruth (dB gIsi (dCons (dVar 3) (dCons (dC (.ty "tuple")) dNil))))) (dOrT (dCmpT (gDat niG) (dB gLen (dCons (dVar 3) dNil)) (dTup (dCons (dC (.int (2))) (dCons (dC (.int (3))) dNil)))) (dNotT (dTruth (dB gIsi (dCons (dOp gIx (dVar 3) (dC (.int (0)))) (dCons (dC (.ty "str")) dNil))))))) (dRet (dC (.bl false))) dSkip)
    (dSeq (dIfS (dCmpT eqS (dB gLen (dCons (dVar 3) dNil)) (dC (.int (2)))) (dSeq (dIfS (dOrT (dCmpT neS (dOp gIx (dVar 3) (dC (.int (0)))) (dC (.str "apart"))) (dOrT (dNotT (dTruth (dCall F_L_is_row (dCons (dVar 0) (dCons (dOp gIx (dVar 3) (dC (.int (1)))) dNil))))) (dCmpT eqS (dCall F_L_dot (dCons (dOp gIx (dVar 3) (dC (.int (1)))) (dCons (dVar 2) dNil))) (dC (.int (0)))))) (dRet (dC (.bl false))) dSkip)
    (dRet (dOp eqS (dFrz (dLc [7] (dIter (dVar 1)) (gNm 7) (dCmpT neS (dCall F_L_dot (dCons (dOp gIx (dVar 3) (dC (.int (1)))) (dCons (dVar 7) dNil))) (dC (.int (0)))) (dC (.int (1))))) (dFrz (dLst dNil))))) dSkip)
    (dSeq (dAsgG (dVar 3) (gT (gC (gNm 4) (gC (gNm 5) (gC (gNm 6) gN)))))
    (dSeq (dIfS (dOrT (dCmpT neS (dVar 4) (dC (.str "sum"))) (dOrT (dNotT (dTruth (dCall F_L_is_number (dCons (dVar 5) dNil)))) (dOrT (dCmpT gLt (dVar 5) (dC (.int (1)))) (dNotT (dTruth (dCall F_L_is_row (dCons (dB gLen (dCons (dVar 1) dNil)) (dCons (dVar 6) dNil)))))))) (dRet (dC (.bl false))) dSkip)
    (dRet (dOp eqS (dCall F_L_summed (dCons (dVar 0) (dCons (dVar 1) (dCons (dVar 6) dNil)))) (dB gTuple (dCons (dFrz (dLc [7] (dIter (dVar 2)) (gNm 7) dYes (dOp gMul (dVar 5) (dVar 7)))) dNil))))))))
def F_L_is_paper : FF := runF b_L_is_paper 8
def b_L_apart : FS := (dSeq (dParM 3 4 (dMv (dFrz (dLc [2] (dIter (dVar 0)) (gNm 2) dYes (dCall F_L_lead (dCons (dVar 2) dNil)))) (dMc (dLst dNil) dMn)))
    (dSeq (dFrzS 4 (dForI (dRng1 (dCons (dVar 1) dNil)) (gNm 5) (dIfS (dCmpT (gDat niG) (dVar 5) (dVar 3)) (dSeq (dAsg 6 (dC (.int (1))))
    (dSeq (dForI (dIter (dVar 0)) (gNm 2) (dAsg 6 (dOp gMul (dVar 6) (dOp gIx (dVar 2) (dCall F_L_lead (dCons (dVar 2) dNil))))))
    (dSeq (dAsgO 7 (dRepF (dLst (dCons (dC (.int (0))) dNil)) (dVar 1)))
    (dSeq (dSetI gSetI (dVar 6) (dVar 7) (dVar 5))
    (dSeq (dForI (dIter (dVar 0)) (gNm 2) (dSetI gSetI (dOp gSub (dC (.int (0))) (dOp gMul (dOp gIx (dVar 2) (dVar 5)) (dOp gFdiv (dVar 6) (dOp gIx (dVar 2) (dCall F_L_lead (dCons (dVar 2) dNil)))))) (dVar 7) (dCall F_L_lead (dCons (dVar 2) dNil))))
    (dDrop (dM "list" gAppend (dVar 4) (dCons (dB gTuple (dCons (dVar 7) dNil)) dNil)))))))) dSkip)))
    (dRet (dCall F_L_lot (dCons (dVar 4) dNil)))))
def F_L_apart : FF := runF b_L_apart 8
def b_L_own : FS := (dSeq (dParM 4 5 (dMc (dLst dNil) (dMv (dCall F_L_lot (dCons (dVar 2) dNil)) dMn)))
    (dSeq (dForI (dIter (dCall F_L_apart (dCons (dVar 5) (dCons (dVar 1) dNil)))) (gNm 6) (dSeq (dAsg 7 (dCall F_L_pick (dCons (dVar 0) (dCons (dFrz (dLst (dCons (dC (.int (1))) (dCons (dNeg (dC (.int (1)))) (dCons (dOp gPow (dC (.int (10))) (dC (.int (40)))) dNil))))) dNil))))
    (dDrop (dM "list" gAppend (dVar 4) (dCons (dTup (dCons (dC (.str "apart")) (dCons (dB gTuple (dCons (dFrz (dLc [11] (dIter (dVar 6)) (gNm 11) dYes (dOp gMul (dVar 7) (dVar 11)))) dNil)) dNil))) dNil)))))
    (dSeq (dAsg 8 (dB gTuple (dCons (dFrz (dLc [11] (dIter (dVar 2)) (gNm 11) dYes (dOp gSub (dCall F_L_roll (dCons (dVar 0) (dCons (dC (.int (5))) dNil))) (dC (.int (2)))))) dNil)))
    (dSeq (dDrop (dM "list" gAppend (dVar 4) (dCons (dTup (dCons (dC (.str "sum")) (dCons (dC (.int (1))) (dCons (dVar 8) dNil)))) dNil)))
    (dSeq (dAsg 9 (dCall F_L_summed (dCons (dVar 1) (dCons (dVar 2) (dCons (dVar 8) dNil)))))
    (dSeq (dForI (dIter (dTup (dCons (dC (.int (1))) (dCons (dC (.int (2))) (dCons (dOp gPow (dC (.int (10))) (dC (.int (20)))) dNil))))) (gNm 10) (dSeq (dDrop (dM "list" gAppend (dVar 4) (dCons (dTup (dCons (dC (.str "sum")) (dCons (dVar 10) (dCons (dB gTuple (dCons (dFrz (dLc [11] (dIter (dVar 8)) (gNm 11) dYes (dOp gMul (dVar 10) (dVar 11)))) dNil)) dNil)))) dNil)))
    (dIfS (dCmpT eqS (dVar 9) (dVar 3)) (dDrop (dM "list" gAppend (dVar 4) (dCons (dTup (dCons (dC (.str "sum")) (dCons (dOp gMul (dC (.int (2))) (dVar 10)) (dCons (dB gTuple (dCons (dFrz (dLc [11] (dIter (dVar 8)) (gNm 11) dYes (dOp gMul (dOp gMul (dC (.int (2))) (dVar 10)) (dVar 11)))) dNil)) dNil)))) dNil))) dSkip)))
    (dRetF (dTake 4))))))))
def F_L_own : FF := runF b_L_own 12
def b_L_near : FS := (dSeq (dAsgO 3 (dLst (dCons (dC .non) (dCons (dTup dNil) (dCons (dFrz (dBF gList (dCons (dVar 2) dNil))) (dCons (dOp gAdd (dVar 2) (dTup (dCons (dC (.int (0))) dNil))) (dCons (dRev (dVar 2)) (dCons (dSl (dVar 2) (dPart (dC (.int (1)))) dNo) (dCons (dTup (dCons (dC (.str "sum")) (dCons (dC (.int (0))) (dCons (dOp gMul (dTup (dCons (dC (.int (0))) dNil)) (dC (.int (3)))) dNil)))) (dCons (dTup (dCons (dC (.str "apart")) (dCons (dOp gMul (dTup (dCons (dC (.int (0))) dNil)) (dVar 1)) dNil))) dNil))))))))))
    (dSeq (dIfS (dCmpT eqS (dOp gIx (dVar 2) (dC (.int (0)))) (dC (.str "apart"))) (dSeq (dAsg 4 (dOp gIx (dVar 2) (dC (.int (1)))))
    (dSeq (dAsg 5 (dCall F_L_roll (dCons (dVar 0) (dCons (dVar 1) dNil))))
    (dSeq (dAsgO 3 (dCat (dVar 3) (dFrz (dLst (dCons (dTup (dCons (dC (.str "apart")) (dCons (dOp gAdd (dOp gAdd (dSl (dVar 4) dNo (dPart (dVar 5))) (dTup (dCons (dOp gAdd (dOp gIx (dVar 4) (dVar 5)) (dC (.int (1)))) dNil))) (dSl (dVar 4) (dPart (dOp gAdd (dVar 5) (dC (.int (1))))) dNo)) dNil))) (dCons (dTup (dCons (dC (.str "apart")) (dCons (dFrz (dBF gList (dCons (dVar 4) dNil))) dNil))) (dCons (dTup (dCons (dC (.str "apart")) (dCons (dOp gAdd (dVar 4) (dTup (dCons (dC (.int (0))) dNil))) dNil))) dNil)))))))
    (dRet (dOp gAdd (dVar 3) (dFrz (dLst (dCons (dTup (dCons (dC (.str "apart")) (dCons (dOp gAdd (dOp gAdd (dSl (dVar 4) dNo (dPart (dVar 5))) (dTup (dCons (dC (.bl true)) dNil))) (dSl (dVar 4) (dPart (dOp gAdd (dVar 5) (dC (.int (1))))) dNo)) dNil))) (dCons (dOp gAdd (dTup (dCons (dC (.str "sum")) dNil)) (dSl (dVar 2) (dPart (dC (.int (1)))) dNo)) (dCons (dTup (dCons (dC (.str "apart")) (dCons (dC .non) dNil))) dNil)))))))))) dSkip)
    (dSeq (dAsgG (dVar 2) (gT (gC (gNm 6) (gC (gNm 7) (gC (gNm 8) gN)))))
    (dSeq (dAsgO 3 (dCat (dVar 3) (dFrz (dLst (dCons (dTup (dCons (dC (.str "sum")) (dCons (dOp gSub (dC (.int (0))) (dVar 7)) (dCons (dVar 8) dNil)))) (dCons (dTup (dCons (dC (.str "sum")) (dCons (dC (.int (0))) (dCons (dVar 8) dNil)))) (dCons (dTup (dCons (dC (.str "sum")) (dCons (dOp gAdd (dVar 7) (dC (.int (1)))) (dCons (dVar 8) dNil)))) (dCons (dTup (dCons (dC (.str "apart")) (dCons (dVar 8) dNil))) dNil))))))))
    (dSeq (dAsgO 3 (dCat (dVar 3) (dFrz (dLst (dCons (dTup (dCons (dC (.str "sum")) (dCons (dVar 7) (dCons (dFrz (dBF gList (dCons (dVar 8) dNil))) dNil)))) (dCons (dTup (dCons (dC (.str "sum")) (dCons (dVar 7) (dCons (dOp gAdd (dVar 8) (dTup (dCons (dC (.int (0))) dNil))) dNil)))) (dCons (dTup (dCons (dC (.str "sum")) (dCons (dC (.bl true)) (dCons (dVar 8) dNil)))) dNil)))))))
    (dSeq (dIfS (dCmpT neS (dVar 8) (dTup dNil)) (dSeq (dAsg 5 (dCall F_L_roll (dCons (dVar 0) (dCons (dB gLen (dCons (dVar 8) dNil)) dNil))))
    (dSeq (dDrop (dM "list" gAppend (dVar 3) (dCons (dTup (dCons (dC (.str "sum")) (dCons (dVar 7) (dCons (dOp gAdd (dOp gAdd (dSl (dVar 8) dNo (dPart (dVar 5))) (dTup (dCons (dOp gAdd (dOp gIx (dVar 8) (dVar 5)) (dC (.int (1)))) dNil))) (dSl (dVar 8) (dPart (dOp gAdd (dVar 5) (dC (.int (1))))) dNo)) dNil)))) dNil)))
    (dDrop (dM "list" gAppend (dVar 3) (dCons (dTup (dCons (dC (.str "sum")) (dCons (dVar 7) (dCons (dB gTuple (dCons (dFrz (dLc [9] (dIter (dVar 8)) (gNm 9) dYes (dOp gSub (dC (.int (0))) (dVar 9)))) dNil)) dNil)))) dNil))))) dSkip)
    (dRet (dFrz (dTake 3)))))))))
def F_L_near : FF := runF b_L_near 10
def b_L_right : FS := (dSeq (dAsg 2 (dFrz (dCallF F_L_rw_drawn (dCons (dVar 0) (dCons (dVar 1) (dCons (dCall F_L_roll (dCons (dVar 0) (dCons (dOp gAdd (dVar 1) (dC (.int (2)))) dNil))) dNil))))))
    (dSeq (dAsg 3 (dCall F_L_pick (dCons (dVar 0) (dCons (dOp gAdd (dFrz (dCallF F_L_rw_drawn (dCons (dVar 0) (dCons (dVar 1) (dCons (dC (.int (3))) dNil))))) (dFrz (dLst (dCons (dCall F_L_summed (dCons (dVar 1) (dCons (dVar 2) (dCons (dFrz (dLc [7] (dIter (dVar 2)) (gNm 7) dYes (dOp gSub (dCall F_L_roll (dCons (dVar 0) (dCons (dC (.int (5))) dNil))) (dC (.int (2)))))) dNil)))) dNil)))) dNil))))
    (dSeq (dAsg 4 (dB gTuple (dCons (dVar 2) dNil)))
    (dSeq (dAsg 5 (dCall F_span_paper (dCons (dVar 1) (dCons (dVar 4) (dCons (dVar 3) dNil)))))
    (dSeq (dIfS (dOrT (dNotT (dTruth (dCall F_L_is_paper (dCons (dVar 1) (dCons (dVar 4) (dCons (dVar 3) (dCons (dVar 5) dNil))))))) (dCmpT neS (dOp eqS (dOp gIx (dVar 5) (dC (.int (0)))) (dC (.str "sum"))) (dCall F_L_holds (dCons (dCall F_L_lot (dCons (dVar 2) dNil)) (dCons (dVar 3) dNil))))) (dRet (dC (.bl false))) dSkip)
    (dSeq (dForI (dIter (dOp gAdd (dOp gAdd (dFrz (dLst (dCons (dVar 5) dNil))) (dFrz (dCallF F_L_own (dCons (dVar 0) (dCons (dVar 1) (dCons (dVar 4) (dCons (dVar 3) dNil))))))) (dCall F_L_near (dCons (dVar 0) (dCons (dVar 1) (dCons (dVar 5) dNil)))))) (gNm 6) (dIfS (dCmpT neS (dB gRepr (dCons (dCall F_is_span_paper (dCons (dVar 1) (dCons (dVar 4) (dCons (dVar 3) (dCons (dVar 6) dNil))))) dNil)) (dB gRepr (dCons (dCall F_L_is_paper (dCons (dVar 1) (dCons (dVar 4) (dCons (dVar 3) (dCons (dVar 6) dNil))))) dNil))) (dRet (dC (.bl false))) dSkip))
    (dRet (dC (.bl true)))))))))
def F_L_right : FF := runF b_L_right 8
def b_law : FS := (dSeq (dForI (dRng1 (dCons (dB gMax2 (dCons (dC (.int (1))) (dCons (dB gMin2 (dCons (dC (.int (6))) (dCons (dB gLen (dCons (dVar 0) dNil)) dNil))) dNil))) dNil)) (gNm 1) (dSeq (dAsgR 2 (dCallF F_L_dice (dCons (dVar 0) (dCons (dVar 1) dNil))))
    (dForI (dRng1 (dCons (dC (.int (4))) dNil)) (gNm 3) (dIfS (dNotT (dTruth (dCall F_L_right (dCons (dVar 2) (dCons (dOp gAdd (dC (.int (1))) (dCall F_L_roll (dCons (dVar 2) (dCons (dC (.int (5))) dNil)))) dNil))))) (dRet (dC (.bl false))) dSkip))))
    (dSeq (dAsg 4 (dFrz (dLst (dCons (dSl (dCall F_span_paper (dCons (dC (.int (2))) (dCons (dTup dNil) (dCons (dTup (dCons (dC (.int (0))) (dCons (dC (.int (0))) dNil))) dNil)))) dNo (dPart (dC (.int (1))))) (dCons (dOp gIx (dCall F_span_paper (dCons (dC (.int (2))) (dCons (dTup dNil) (dCons (dTup (dCons (dC (.int (0))) (dCons (dC (.int (1))) dNil))) dNil)))) (dC (.int (0)))) (dCons (dOp gIx (dCall F_span_paper (dCons (dC (.int (2))) (dCons (dTup (dCons (dTup (dCons (dC (.int (2))) (dCons (dC (.int (4))) dNil))) dNil)) (dCons (dTup (dCons (dC (.int (3))) (dCons (dC (.int (6))) dNil))) dNil)))) (dC (.int (0)))) dNil))))))
    (dRet (dOp eqS (dVar 4) (dFrz (dLst (dCons (dTup (dCons (dC (.str "sum")) dNil)) (dCons (dC (.str "apart")) (dCons (dC (.str "sum")) dNil)))))))))
def F_law : FF := runF b_law 5
end K12

namespace K12
open PySem PySem.Spec PyProof.Rows L2 DL
def top (i : Nat) : Stmt := PySem.Challenge.pw_anywaybuilt_k12_whole_span_papers.main.body.getD i (.Pass ⟨0, 0, 0, 0⟩)
structure Glb (mg : Str → Option Value) : Prop where
  b_abs : mg "abs" = none
  b_all : mg "all" = none
  b_bool : mg "bool" = none
  b_enumerate : mg "enumerate" = none
  b_int : mg "int" = none
  b_isinstance : mg "isinstance" = none
  b_len : mg "len" = none
  b_list : mg "list" = none
  b_max : mg "max" = none
  b_min : mg "min" = none
  b_range : mg "range" = none
  b_repr : mg "repr" = none
  b_sorted : mg "sorted" = none
  b_str : mg "str" = none
  b_sum : mg "sum" = none
  b_tuple : mg "tuple" = none
  b_zip : mg "zip" = none
  c_APART : ∃ t, mg "APART" = some (.str "apart" t)
  c_MAX_WIDTH : ∃ t, mg "MAX_WIDTH" = some (.int (60) t)
  c_SUM : ∃ t, mg "SUM" = some (.str "sum" t)
section
variable [DLX] {P : Program} {w : World} {K : PySem.W.Frag} {mg : Str → Option Value} {base : Heap}
theorem sc_is_integer : FnScope ["value"] ["value"] (defScope (top 8)) := ⟨rfl, rfl, rfl, by decide +kernel, rfl, by decide +kernel, by decide +kernel⟩
theorem ok_is_integer {f : Addr} {fd : FuncData} (T : Glb mg) (F : Fun K "is_integer" "is_integer" (top 8) f fd) (hm : mg "is_integer" = some (.ref f)) (hb : Binds K fd ["value"] []) : FnD P w K mg base "is_integer" 1 1 F_is_integer := by
  refine fnD (k := 0) F hm hb sc_is_integer F_is_integer fun cdv A outer s H E hr hgu ds μ hl hG => ⟨b_is_integer, ?_, rfl⟩
  have hu := room_u hr
  exact (sd_one (sd_ret (pd_and (pd_b bi_isi (by rfl) T.b_isinstance rfl (pa_c (pd_var 0 (pv 0)) (pa_c (pd_bltT (by rfl) T.b_int rfl) pa_n))) (pd_one (pd_not (pd_b bi_isi (by rfl) T.b_isinstance rfl (pa_c (pd_var 0 (pv 0)) (pa_c (pd_bltT (by rfl) T.b_bool rfl) pa_n))))))))
theorem sc_require_width : FnScope ["width"] ["width"] (defScope (top 9)) := ⟨rfl, rfl, rfl, by decide +kernel, rfl, by decide +kernel, by decide +kernel⟩
theorem ok_require_width {f : Addr} {fd : FuncData} (T : Glb mg) (F : Fun K "require_width" "require_width" (top 9) f fd) (hm : mg "require_width" = some (.ref f)) (hb : Binds K fd ["width"] []) (h_is_integer : FnD P w K mg base "is_integer" 1 1 F_is_integer) : FnD P w K mg base "require_width" 2 1 F_require_width := by
  refine fnD (k := 1) F hm hb sc_require_width F_require_width fun cdv A outer s H E hr hgu ds μ hl hG => ⟨b_require_width, ?_, rfl⟩
  have hu := room_u hr
  exact (sd_one (sd_if (PWD.pt (pw_o (pt_nt (pt_tr (pd_call h_is_integer (hr.mono (by decide)) hgu (by rfl) (pa_c (pd_var 0 (pv 0)) pa_n) (al_c al_n)))) (pw_o1 (pt_nt (DL.pt_chain c_le c_le pd_int (pd_var 0 (pv 0)) (pd_globI (by rfl) T.c_MAX_WIDTH.choose_spec)))))) (sd_one sd_bad) sd_nil))
theorem sc_dot : FnScope ["one", "other", "left", "right"] ["one", "other"] (defScope (top 14)) := ⟨rfl, rfl, rfl, by decide +kernel, rfl, by decide +kernel, by decide +kernel⟩
theorem ok_dot {f : Addr} {fd : FuncData} (T : Glb mg) (F : Fun K "dot" "dot" (top 14) f fd) (hm : mg "dot" = some (.ref f)) (hb : Binds K fd ["one", "other"] []) : FnD P w K mg base "dot" 1 2 F_dot := by
  refine fnD (k := 0) F hm hb sc_dot F_dot fun cdv A outer s H E hr hgu ds μ hl hG => ⟨b_dot, ?_, rfl⟩
  have hu := room_u hr
  exact (sd_one (sd_ret (pd_b (bi_sum rfl) (by rfl) T.b_sum rfl (pa_c (pd_f (pf_lc (own := [("left", 2), ("right", 3)]) rfl sc_dot.nd (by kernel_rfl) (id_zp (pa_c (pd_var 0 (pv 0)) (pa_c (pd_var 1 (pv 1)) pa_n)) (by rfl) T.b_zip) (fun b => (gd_tup rfl (gd_cons (gd_name (pg_name (i := 2) sc_dot.nd rfl (by first | exact Or.inl rfl | exact Or.inr rfl))) (gd_cons (gd_name (pg_name (i := 3) sc_dot.nd rfl (by first | exact Or.inl rfl | exact Or.inr rfl))) gd_nil)))) (fun b => td_nil) (fun b => (pd_mul (pd_var 2 (pv 2)) (pd_var 3 (pv 3)))))) pa_n))))
theorem sc_lead_in : FnScope ["row", "index", "number"] ["row"] (defScope (top 11)) := ⟨rfl, rfl, rfl, by decide +kernel, rfl, by decide +kernel, by decide +kernel⟩
theorem ok_lead_in {f : Addr} {fd : FuncData} (T : Glb mg) (F : Fun K "lead_in" "lead_in" (top 11) f fd) (hm : mg "lead_in" = some (.ref f)) (hb : Binds K fd ["row"] []) : FnD P w K mg base "lead_in" 1 1 F_lead_in := by
  refine fnD (k := 0) F hm hb sc_lead_in F_lead_in fun cdv A outer s H E hr hgu ds μ hl hG => ⟨b_lead_in, ?_, rfl⟩
  have hu := room_u hr
  exact (sd_cons (sd_for (passes_of rfl) rfl (id_en (pa_c (pd_var 0 (pv 0)) pa_n) (by rfl) T.b_enumerate) (gd_tup rfl (gd_cons (gd_name (pg_name (i := 1) sc_lead_in.nd rfl (by first | exact Or.inl rfl | exact Or.inr rfl))) (gd_cons (gd_name (pg_name (i := 2) sc_lead_in.nd rfl (by first | exact Or.inl rfl | exact Or.inr rfl))) gd_nil))) (sd_one (sd_if (pt_cm (c_neS hu) (pd_var 2 (pv 2)) pd_int) (sd_one (sd_ret (pd_var 1 (pv 1)))) sd_nil)))
    (sd_one (sd_ret pd_non)))
theorem sc_common_share : FnScope ["one", "other"] ["one", "other"] (defScope (top 12)) := ⟨rfl, rfl, rfl, by decide +kernel, rfl, by decide +kernel, by decide +kernel⟩
theorem ok_common_share {f : Addr} {fd : FuncData} (T : Glb mg) (F : Fun K "common_share" "common_share" (top 12) f fd) (hm : mg "common_share" = some (.ref f)) (hb : Binds K fd ["one", "other"] []) : FnD P w K mg base "common_share" 1 2 F_common_share := by
  refine fnD (k := 0) F hm hb sc_common_share F_common_share fun cdv A outer s H E hr hgu ds μ hl hG => ⟨b_common_share (fu0_common_share ds μ), ?_, rfl⟩
  have hu := room_u hr
  exact (sd_cons (sd_while (fu0_common_share ds μ) (passes_of rfl) (pt_cm (c_neS hu) (pd_var 1 (pv 1)) pd_int) (sd_one (sd_par (fun ta h => ps_par (i := 0) (j := 1) rfl sc_common_share.nd rfl rfl (by decide) rfl rfl h (by rfl)) (pa_c (pd_var 1 (pv 1)) (pa_c (pd_mod (pd_var 0 (pv 0)) (pd_var 1 (pv 1))) pa_n)))))
    (sd_one (sd_ret (pd_b bi_abs (by rfl) T.b_abs rfl (pa_c (pd_var 0 (pv 0)) pa_n)))))
theorem sc_lowest_row : FnScope ["row", "share", "number"] ["row"] (defScope (top 13)) := ⟨rfl, rfl, rfl, by decide +kernel, rfl, by decide +kernel, by decide +kernel⟩
theorem ok_lowest_row {f : Addr} {fd : FuncData} (T : Glb mg) (F : Fun K "lowest_row" "lowest_row" (top 13) f fd) (hm : mg "lowest_row" = some (.ref f)) (hb : Binds K fd ["row"] []) (h_lead_in : FnD P w K mg base "lead_in" 1 1 F_lead_in) (h_common_share : FnD P w K mg base "common_share" 1 2 F_common_share) : FnD P w K mg base "lowest_row" 2 1 F_lowest_row := by
  refine fnD (k := 1) F hm hb sc_lowest_row F_lowest_row fun cdv A outer s H E hr hgu ds μ hl hG => ⟨b_lowest_row, ?_, rfl⟩
  have hu := room_u hr
  exact (sd_cons (sd_asg (fun te h => ps_set (i := 1) sc_lowest_row.nd rfl (by first | exact Or.inl rfl | exact Or.inr rfl) h) pd_int)
    (sd_cons (sd_for (passes_of rfl) rfl (id_seq (pd_var 0 (pv 0))) (gd_name (pg_name (i := 2) sc_lowest_row.nd rfl (by first | exact Or.inl rfl | exact Or.inr rfl))) (sd_one (sd_asg (fun te h => ps_set (i := 1) sc_lowest_row.nd rfl (by first | exact Or.inl rfl | exact Or.inr rfl) h) (pd_call h_common_share (hr.mono (by decide)) hgu (by rfl) (pa_c (pd_var 1 (pv 1)) (pa_c (pd_var 2 (pv 2)) pa_n)) (al_c (al_c al_n))))))
    (sd_cons (sd_if (pt_cm (c_eqS hu) (pd_var 1 (pv 1)) pd_int) (sd_one (sd_ret (pd_ty bi_tuple (by rfl) T.b_tuple rfl (pa_c (pd_var 0 (pv 0)) pa_n)))) sd_nil)
    (sd_cons (sd_if (pt_cm c_lt (pd_ix (pd_var 0 (pv 0)) (pd_call h_lead_in (hr.mono (by decide)) hgu (by rfl) (pa_c (pd_var 0 (pv 0)) pa_n) (al_c al_n))) pd_int) (sd_one (sd_asg (fun te h => ps_set (i := 1) sc_lowest_row.nd rfl (by first | exact Or.inl rfl | exact Or.inr rfl) h) (pd_sub pd_int (pd_var 1 (pv 1))))) sd_nil)
    (sd_one (sd_ret (pd_ty bi_tuple (by rfl) T.b_tuple rfl (pa_c (pd_f (pf_lc (own := [("number", 2)]) rfl sc_lowest_row.nd (by kernel_rfl) (id_seq (pd_var 0 (pv 0))) (fun b => (gd_name (pg_name (i := 2) sc_lowest_row.nd rfl (by first | exact Or.inl rfl | exact Or.inr rfl)))) (fun b => td_nil) (fun b => (pd_fdiv (pd_var 2 (pv 2)) (pd_var 1 (pv 1)))))) pa_n))))))))
theorem sc_less_by : FnScope ["row", "other", "index", "one", "two"] ["row", "other"] (defScope (top 17)) := ⟨rfl, rfl, rfl, by decide +kernel, rfl, by decide +kernel, by decide +kernel⟩
theorem ok_less_by {f : Addr} {fd : FuncData} (T : Glb mg) (F : Fun K "less_by" "less_by" (top 17) f fd) (hm : mg "less_by" = some (.ref f)) (hb : Binds K fd ["row", "other"] []) (h_lead_in : FnD P w K mg base "lead_in" 1 1 F_lead_in) : FnD P w K mg base "less_by" 2 2 F_less_by := by
  refine fnD (k := 1) F hm hb sc_less_by F_less_by fun cdv A outer s H E hr hgu ds μ hl hG => ⟨b_less_by, ?_, rfl⟩
  have hu := room_u hr
  exact (sd_cons (sd_asg (fun te h => ps_set (i := 2) sc_less_by.nd rfl (by first | exact Or.inl rfl | exact Or.inr rfl) h) (pd_call h_lead_in (hr.mono (by decide)) hgu (by rfl) (pa_c (pd_var 1 (pv 1)) pa_n) (al_c al_n)))
    (sd_cons (sd_if (pt_cm (c_eqS hu) (pd_ix (pd_var 0 (pv 0)) (pd_var 2 (pv 2))) pd_int) (sd_one (sd_ret (pd_var 0 (pv 0)))) sd_nil)
    (sd_one (sd_ret (pd_ty bi_tuple (by rfl) T.b_tuple rfl (pa_c (pd_f (pf_lc (own := [("one", 3), ("two", 4)]) rfl sc_less_by.nd (by kernel_rfl) (id_zp (pa_c (pd_var 0 (pv 0)) (pa_c (pd_var 1 (pv 1)) pa_n)) (by rfl) T.b_zip) (fun b => (gd_tup rfl (gd_cons (gd_name (pg_name (i := 3) sc_less_by.nd rfl (by first | exact Or.inl rfl | exact Or.inr rfl))) (gd_cons (gd_name (pg_name (i := 4) sc_less_by.nd rfl (by first | exact Or.inl rfl | exact Or.inr rfl))) gd_nil)))) (fun b => td_nil) (fun b => (pd_sub (pd_mul (pd_ix (pd_var 1 (pv 1)) (pd_var 2 (pv 2))) (pd_var 3 (pv 3))) (pd_mul (pd_ix (pd_var 0 (pv 0)) (pd_var 2 (pv 2))) (pd_var 4 (pv 4))))))) pa_n))))))
theorem sc_rest_by : FnScope ["lot", "row", "other"] ["lot", "row"] (defScope (top 18)) := ⟨rfl, rfl, rfl, by decide +kernel, rfl, by decide +kernel, by decide +kernel⟩
theorem ok_rest_by {f : Addr} {fd : FuncData} (T : Glb mg) (F : Fun K "rest_by" "rest_by" (top 18) f fd) (hm : mg "rest_by" = some (.ref f)) (hb : Binds K fd ["lot", "row"] []) (h_less_by : FnD P w K mg base "less_by" 2 2 F_less_by) : FnD P w K mg base "rest_by" 3 2 F_rest_by := by
  refine fnD (k := 2) F hm hb sc_rest_by F_rest_by fun cdv A outer s H E hr hgu ds μ hl hG => ⟨b_rest_by, ?_, rfl⟩
  have hu := room_u hr
  exact (sd_cons (sd_for (passes_of rfl) rfl (id_seq (pd_var 0 (pv 0))) (gd_name (pg_name (i := 2) sc_rest_by.nd rfl (by first | exact Or.inl rfl | exact Or.inr rfl))) (sd_one (sd_asg (fun te h => ps_set (i := 1) sc_rest_by.nd rfl (by first | exact Or.inl rfl | exact Or.inr rfl) h) (pd_call h_less_by (hr.mono (by decide)) hgu (by rfl) (pa_c (pd_var 1 (pv 1)) (pa_c (pd_var 2 (pv 2)) pa_n)) (al_c (al_c al_n))))))
    (sd_one (sd_ret (pd_var 1 (pv 1)))))
theorem sc_with_row : FnScope ["lot", "row", "left", "found", "other"] ["lot", "row"] (defScope (top 19)) := ⟨rfl, rfl, rfl, by decide +kernel, rfl, by decide +kernel, by decide +kernel⟩
theorem ok_with_row {f : Addr} {fd : FuncData} (T : Glb mg) (F : Fun K "with_row" "with_row" (top 19) f fd) (hm : mg "with_row" = some (.ref f)) (hb : Binds K fd ["lot", "row"] []) (h_lead_in : FnD P w K mg base "lead_in" 1 1 F_lead_in) (h_lowest_row : FnD P w K mg base "lowest_row" 2 1 F_lowest_row) (h_less_by : FnD P w K mg base "less_by" 2 2 F_less_by) (h_rest_by : FnD P w K mg base "rest_by" 3 2 F_rest_by) : FnD P w K mg base "with_row" 4 2 F_with_row := by
  refine fnD (k := 3) F hm hb sc_with_row F_with_row fun cdv A outer s H E hr hgu ds μ hl hG => ⟨b_with_row, ?_, rfl⟩
  have hu := room_u hr
  exact (sd_cons (sd_asg (fun te h => ps_set (i := 2) sc_with_row.nd rfl (by first | exact Or.inl rfl | exact Or.inr rfl) h) (pd_call h_lowest_row (hr.mono (by decide)) hgu (by rfl) (pa_c (pd_call h_rest_by (hr.mono (by decide)) hgu (by rfl) (pa_c (pd_var 0 (pv 0)) (pa_c (pd_var 1 (pv 1)) pa_n)) (al_c (al_c al_n))) pa_n) (al_c al_n)))
    (sd_cons (sd_if (pt_cm c_is (pd_call h_lead_in (hr.mono (by decide)) hgu (by rfl) (pa_c (pd_var 2 (pv 2)) pa_n) (al_c al_n)) pd_non) (sd_one (sd_ret (pd_var 0 (pv 0)))) sd_nil)
    (sd_cons (sd_asg (fun te h => ps_set (i := 3) sc_with_row.nd rfl (by first | exact Or.inl rfl | exact Or.inr rfl) h) (pd_add (pd_f (pf_lc (own := [("other", 4)]) rfl sc_with_row.nd (by kernel_rfl) (id_seq (pd_var 0 (pv 0))) (fun b => (gd_name (pg_name (i := 4) sc_with_row.nd rfl (by first | exact Or.inl rfl | exact Or.inr rfl)))) (fun b => td_nil) (fun b => (pd_call h_lowest_row (hr.mono (by decide)) hgu (by rfl) (pa_c (pd_call h_less_by (hr.mono (by decide)) hgu (by rfl) (pa_c (pd_var 4 (pv 4)) (pa_c (pd_var 2 (pv 2)) pa_n)) (al_c (al_c al_n))) pa_n) (al_c al_n))))) (pd_f (pf_lst (pa_c (pd_var 2 (pv 2)) pa_n)))))
    (sd_one (sd_ret (pd_ty bi_tuple (by rfl) T.b_tuple rfl (pa_c (pd_f (pf_sortKey h_lead_in (hr.mono (by decide)) hgu (by rfl) (by rfl) T.b_sorted (pd_var 3 (pv 3)))) pa_n)))))))
theorem sc_lot_in : FnScope ["rows", "lot", "row"] ["rows"] (defScope (top 20)) := ⟨rfl, rfl, rfl, by decide +kernel, rfl, by decide +kernel, by decide +kernel⟩
theorem ok_lot_in {f : Addr} {fd : FuncData} (T : Glb mg) (F : Fun K "lot_in" "lot_in" (top 20) f fd) (hm : mg "lot_in" = some (.ref f)) (hb : Binds K fd ["rows"] []) (h_with_row : FnD P w K mg base "with_row" 4 2 F_with_row) : FnD P w K mg base "lot_in" 5 1 F_lot_in := by
  refine fnD (k := 4) F hm hb sc_lot_in F_lot_in fun cdv A outer s H E hr hgu ds μ hl hG => ⟨b_lot_in, ?_, rfl⟩
  have hu := room_u hr
  exact (sd_cons (sd_asg (fun te h => ps_set (i := 1) sc_lot_in.nd rfl (by first | exact Or.inl rfl | exact Or.inr rfl) h) (pd_tup pa_n))
    (sd_cons (sd_for (passes_of rfl) rfl (id_seq (pd_var 0 (pv 0))) (gd_name (pg_name (i := 2) sc_lot_in.nd rfl (by first | exact Or.inl rfl | exact Or.inr rfl))) (sd_one (sd_asg (fun te h => ps_set (i := 1) sc_lot_in.nd rfl (by first | exact Or.inl rfl | exact Or.inr rfl) h) (pd_call h_with_row (hr.mono (by decide)) hgu (by rfl) (pa_c (pd_var 1 (pv 1)) (pa_c (pd_var 2 (pv 2)) pa_n)) (al_c (al_c al_n))))))
    (sd_one (sd_ret (pd_var 1 (pv 1))))))
theorem sc_apart_in : FnScope ["width", "lot", "row", "leads", "share", "found", "lead", "index", "line"] ["width", "lot"] (defScope (top 21)) := ⟨rfl, rfl, rfl, by decide +kernel, rfl, by decide +kernel, by decide +kernel⟩
theorem ok_apart_in {f : Addr} {fd : FuncData} (T : Glb mg) (F : Fun K "apart_in" "apart_in" (top 21) f fd) (hm : mg "apart_in" = some (.ref f)) (hb : Binds K fd ["width", "lot"] []) (h_lead_in : FnD P w K mg base "lead_in" 1 1 F_lead_in) (h_lot_in : FnD P w K mg base "lot_in" 5 1 F_lot_in) : FnD P w K mg base "apart_in" 6 2 F_apart_in := by
  refine fnD (k := 5) F hm hb sc_apart_in F_apart_in fun cdv A outer s H E hr hgu ds μ hl hG => ⟨b_apart_in, ?_, rfl⟩
  have hu := room_u hr
  exact (sd_cons (sd_parM3 (fun ta h => ps_par3 (i := 3) (j := 4) (l := 5) rfl sc_apart_in.nd rfl rfl rfl (by decide) (by decide) (by decide) rfl rfl rfl h (by rfl)) (pm_v (pd_f (pf_lc (own := [("row", 2)]) rfl sc_apart_in.nd (by kernel_rfl) (id_seq (pd_var 1 (pv 1))) (fun b => (gd_name (pg_name (i := 2) sc_apart_in.nd rfl (by first | exact Or.inl rfl | exact Or.inr rfl)))) (fun b => td_nil) (fun b => (pd_call h_lead_in (hr.mono (by decide)) hgu (by rfl) (pa_c (pd_var 2 (pv 2)) pa_n) (al_c al_n))))) (pm_v pd_int (pm_c (pf_lst pa_n) pm_n))))
    (sd_cons (sd_for (passes_of rfl) rfl (id_zp (pa_c (pd_var 3 (pv 3)) (pa_c (pd_var 1 (pv 1)) pa_n)) (by rfl) T.b_zip) (gd_tup rfl (gd_cons (gd_name (pg_name (i := 6) sc_apart_in.nd rfl (by first | exact Or.inl rfl | exact Or.inr rfl))) (gd_cons (gd_name (pg_name (i := 2) sc_apart_in.nd rfl (by first | exact Or.inl rfl | exact Or.inr rfl))) gd_nil))) (sd_one (sd_asg (fun te h => ps_set (i := 4) sc_apart_in.nd rfl (by first | exact Or.inl rfl | exact Or.inr rfl) h) (pd_mul (pd_var 4 (pv 4)) (pd_ix (pd_var 2 (pv 2)) (pd_var 6 (pv 6)))))))
    (sd_cons (sd_frz 5 (sd_for (passes_of rfl) rfl (id_rng1 (by rfl) T.b_range (pa_c (pd_var 0 (pv 0)) pa_n)) (gd_name (pg_name (i := 7) sc_apart_in.nd rfl (by first | exact Or.inl rfl | exact Or.inr rfl))) (sd_one (sd_if (pt_cm (c_ni hu) (pd_var 7 (pv 7)) (pd_var 3 (pv 3))) (sd_cons (sd_asgO (fun te h => ps_set (i := 8) sc_apart_in.nd rfl (by first | exact Or.inl rfl | exact Or.inr rfl) h) (pf_rep (pf_lst (pa_c pd_int pa_n)) (pd_var 0 (pv 0))))
    (sd_cons (sd_setI (fun te t h g => ps_asg h g) set_list ss_list (pd_var 4 (pv 4)) (pd_var 8 (pv 8)) (pd_var 7 (pv 7)))
    (sd_cons (sd_for (passes_of rfl) rfl (id_zp (pa_c (pd_var 3 (pv 3)) (pa_c (pd_var 1 (pv 1)) pa_n)) (by rfl) T.b_zip) (gd_tup rfl (gd_cons (gd_name (pg_name (i := 6) sc_apart_in.nd rfl (by first | exact Or.inl rfl | exact Or.inr rfl))) (gd_cons (gd_name (pg_name (i := 2) sc_apart_in.nd rfl (by first | exact Or.inl rfl | exact Or.inr rfl))) gd_nil))) (sd_one (sd_setI (fun te t h g => ps_asg h g) set_list ss_list (pd_sub pd_int (pd_mul (pd_ix (pd_var 2 (pv 2)) (pd_var 7 (pv 7))) (pd_fdiv (pd_var 4 (pv 4)) (pd_ix (pd_var 2 (pv 2)) (pd_var 6 (pv 6)))))) (pd_var 8 (pv 8)) (pd_var 6 (pv 6)))))
    (sd_one (sd_drop (pd_append (pd_var 5 (pv 5)) (pa_c (pd_ty bi_tuple (by rfl) T.b_tuple rfl (pa_c (pd_var 8 (pv 8)) pa_n)) pa_n))))))) sd_nil))))
    (sd_one (sd_ret (pd_call h_lot_in (hr.mono (by decide)) hgu (by rfl) (pa_c (pd_var 5 (pv 5)) pa_n) (al_c al_n)))))))
theorem sc_is_plain_row : FnScope ["width", "value", "one"] ["width", "value"] (defScope (top 10)) := ⟨rfl, rfl, rfl, by decide +kernel, rfl, by decide +kernel, by decide +kernel⟩
theorem ok_is_plain_row {f : Addr} {fd : FuncData} (T : Glb mg) (F : Fun K "is_plain_row" "is_plain_row" (top 10) f fd) (hm : mg "is_plain_row" = some (.ref f)) (hb : Binds K fd ["width", "value"] []) (h_is_integer : FnD P w K mg base "is_integer" 1 1 F_is_integer) : FnD P w K mg base "is_plain_row" 2 2 F_is_plain_row := by
  refine fnD (k := 1) F hm hb sc_is_plain_row F_is_plain_row fun cdv A outer s H E hr hgu ds μ hl hG => ⟨b_is_plain_row, ?_, rfl⟩
  have hu := room_u hr
  exact (sd_one (sd_ret (pd_and (pd_b bi_isi (by rfl) T.b_isinstance rfl (pa_c (pd_var 1 (pv 1)) (pa_c (pd_bltT (by rfl) T.b_tuple rfl) pa_n))) (pd_and (pd_cm (c_eqS hu) (pd_b bi_len (by rfl) T.b_len rfl (pa_c (pd_var 1 (pv 1)) pa_n)) (pd_var 0 (pv 0))) (pd_one (pd_b (bi_all rfl) (by rfl) T.b_all rfl (pa_c (pd_f (pf_lc (own := [("one", 2)]) rfl sc_is_plain_row.nd (by kernel_rfl) (id_seq (pd_var 1 (pv 1))) (fun b => (gd_name (pg_name (i := 2) sc_is_plain_row.nd rfl (by first | exact Or.inl rfl | exact Or.inr rfl)))) (fun b => td_nil) (fun b => (pd_call h_is_integer (hr.mono (by decide)) hgu (by rfl) (pa_c (pd_var 2 (pv 2)) pa_n) (al_c al_n))))) pa_n)))))))
theorem sc_require_row : FnScope ["width", "row"] ["width", "row"] (defScope (top 22)) := ⟨rfl, rfl, rfl, by decide +kernel, rfl, by decide +kernel, by decide +kernel⟩
theorem ok_require_row {f : Addr} {fd : FuncData} (T : Glb mg) (F : Fun K "require_row" "require_row" (top 22) f fd) (hm : mg "require_row" = some (.ref f)) (hb : Binds K fd ["width", "row"] []) (h_is_plain_row : FnD P w K mg base "is_plain_row" 2 2 F_is_plain_row) : FnD P w K mg base "require_row" 3 2 F_require_row := by
  refine fnD (k := 2) F hm hb sc_require_row F_require_row fun cdv A outer s H E hr hgu ds μ hl hG => ⟨b_require_row, ?_, rfl⟩
  have hu := room_u hr
  exact (sd_one (sd_if (pt_nt (pt_tr (pd_call h_is_plain_row (hr.mono (by decide)) hgu (by rfl) (pa_c (pd_var 0 (pv 0)) (pa_c (pd_var 1 (pv 1)) pa_n)) (al_c (al_c al_n))))) (sd_one sd_bad) sd_nil))
theorem sc_require_rows : FnScope ["width", "rows", "row"] ["width", "rows"] (defScope (top 23)) := ⟨rfl, rfl, rfl, by decide +kernel, rfl, by decide +kernel, by decide +kernel⟩
theorem ok_require_rows {f : Addr} {fd : FuncData} (T : Glb mg) (F : Fun K "require_rows" "require_rows" (top 23) f fd) (hm : mg "require_rows" = some (.ref f)) (hb : Binds K fd ["width", "rows"] []) (h_is_plain_row : FnD P w K mg base "is_plain_row" 2 2 F_is_plain_row) : FnD P w K mg base "require_rows" 3 2 F_require_rows := by
  refine fnD (k := 2) F hm hb sc_require_rows F_require_rows fun cdv A outer s H E hr hgu ds μ hl hG => ⟨b_require_rows, ?_, rfl⟩
  have hu := room_u hr
  exact (sd_one (sd_if (PWD.pt (pw_o (pt_nt (pt_tr (pd_b bi_isi (by rfl) T.b_isinstance rfl (pa_c (pd_var 1 (pv 1)) (pa_c (pd_bltT (by rfl) T.b_tuple rfl) pa_n))))) (pw_o1 (pt_nt (pt_tr (pd_b (bi_all rfl) (by rfl) T.b_all rfl (pa_c (pd_f (pf_lc (own := [("row", 2)]) rfl sc_require_rows.nd (by kernel_rfl) (id_seq (pd_var 1 (pv 1))) (fun b => (gd_name (pg_name (i := 2) sc_require_rows.nd rfl (by first | exact Or.inl rfl | exact Or.inr rfl)))) (fun b => td_nil) (fun b => (pd_call h_is_plain_row (hr.mono (by decide)) hgu (by rfl) (pa_c (pd_var 0 (pv 0)) (pa_c (pd_var 2 (pv 2)) pa_n)) (al_c (al_c al_n)))))) pa_n))))))) (sd_one sd_bad) sd_nil))
theorem sc_sum_in : FnScope ["width", "rows", "row", "many", "lot", "place", "line", "marks", "left", "told", "share", "number", "at"] ["width", "rows", "row"] (defScope (top 24)) := ⟨rfl, rfl, rfl, by decide +kernel, rfl, by decide +kernel, by decide +kernel⟩
theorem ok_sum_in {f : Addr} {fd : FuncData} (T : Glb mg) (F : Fun K "sum_in" "sum_in" (top 24) f fd) (hm : mg "sum_in" = some (.ref f)) (hb : Binds K fd ["width", "rows", "row"] []) (h_lead_in : FnD P w K mg base "lead_in" 1 1 F_lead_in) (h_common_share : FnD P w K mg base "common_share" 1 2 F_common_share) (h_lowest_row : FnD P w K mg base "lowest_row" 2 1 F_lowest_row) (h_rest_by : FnD P w K mg base "rest_by" 3 2 F_rest_by) : FnD P w K mg base "sum_in" 4 3 F_sum_in := by
  refine fnD (k := 3) F hm hb sc_sum_in F_sum_in fun cdv A outer s H E hr hgu ds μ hl hG => ⟨b_sum_in, ?_, rfl⟩
  have hu := room_u hr
  exact (sd_cons (sd_parM (fun ta h => ps_par (i := 3) (j := 4) rfl sc_sum_in.nd rfl rfl (by decide) rfl rfl h (by rfl)) (pm_v (pd_b bi_len (by rfl) T.b_len rfl (pa_c (pd_var 1 (pv 1)) pa_n)) (pm_c (pf_lst pa_n) pm_n)))
    (sd_cons (sd_frz 4 (sd_for (passes_of rfl) rfl (id_en (pa_c (pd_var 1 (pv 1)) pa_n) (by rfl) T.b_enumerate) (gd_tup rfl (gd_cons (gd_name (pg_name (i := 5) sc_sum_in.nd rfl (by first | exact Or.inl rfl | exact Or.inr rfl))) (gd_cons (gd_name (pg_name (i := 6) sc_sum_in.nd rfl (by first | exact Or.inl rfl | exact Or.inr rfl))) gd_nil))) (sd_cons (sd_asg (fun te h => ps_set (i := 7) sc_sum_in.nd rfl (by first | exact Or.inl rfl | exact Or.inr rfl) h) (pd_ty bi_tuple (by rfl) T.b_tuple rfl (pa_c (pd_f (pf_lc (own := [("at", 12)]) rfl sc_sum_in.nd (by kernel_rfl) (id_rng1 (by rfl) T.b_range (pa_c (pd_add (pd_var 3 (pv 3)) pd_int) pa_n)) (fun b => (gd_name (pg_name (i := 12) sc_sum_in.nd rfl (by first | exact Or.inl rfl | exact Or.inr rfl)))) (fun b => td_nil) (fun b => (pd_if (pt_cm (c_eqS hu) (pd_var 12 (pv 12)) (pd_var 5 (pv 5))) pd_int pd_int)))) pa_n)))
    (sd_cons (sd_asg (fun te h => ps_set (i := 8) sc_sum_in.nd rfl (by first | exact Or.inl rfl | exact Or.inr rfl) h) (pd_lend 4 (pd_call h_rest_by (hr.mono (by decide)) hgu (by rfl) (pa_c (pd_var 4 (pv 4)) (pa_c (pd_add (pd_var 6 (pv 6)) (pd_var 7 (pv 7))) pa_n)) (al_c (al_c al_n)))))
    (sd_one (sd_if (pt_cm c_isnot (pd_call h_lead_in (hr.mono (by decide)) hgu (by rfl) (pa_c (pd_sl (pd_var 8 (pv 8)) po_n (po_s (pd_var 0 (pv 0)))) pa_n) (al_c al_n)) pd_non) (sd_one (sd_drop (pd_append (pd_var 4 (pv 4)) (pa_c (pd_call h_lowest_row (hr.mono (by decide)) hgu (by rfl) (pa_c (pd_var 8 (pv 8)) pa_n) (al_c al_n)) pa_n)))) sd_nil))))))
    (sd_cons (sd_asg (fun te h => ps_set (i := 8) sc_sum_in.nd rfl (by first | exact Or.inl rfl | exact Or.inr rfl) h) (pd_call h_rest_by (hr.mono (by decide)) hgu (by rfl) (pa_c (pd_var 4 (pv 4)) (pa_c (pd_add (pd_add (pd_var 2 (pv 2)) (pd_mul (pd_tup (pa_c pd_int pa_n)) (pd_var 3 (pv 3)))) (pd_tup (pa_c pd_int pa_n))) pa_n)) (al_c (al_c al_n))))
    (sd_cons (sd_if (pt_cm c_isnot (pd_call h_lead_in (hr.mono (by decide)) hgu (by rfl) (pa_c (pd_sl (pd_var 8 (pv 8)) po_n (po_s (pd_var 0 (pv 0)))) pa_n) (al_c al_n)) pd_non) (sd_one (sd_ret pd_non)) sd_nil)
    (sd_cons (sd_asg (fun te h => ps_set (i := 9) sc_sum_in.nd rfl (by first | exact Or.inl rfl | exact Or.inr rfl) h) (pd_sl (pd_var 8 (pv 8)) (po_s (pd_var 0 (pv 0))) po_n))
    (sd_cons (sd_asg (fun te h => ps_set (i := 10) sc_sum_in.nd rfl (by first | exact Or.inl rfl | exact Or.inr rfl) h) pd_int)
    (sd_cons (sd_for (passes_of rfl) rfl (id_seq (pd_var 9 (pv 9))) (gd_name (pg_name (i := 11) sc_sum_in.nd rfl (by first | exact Or.inl rfl | exact Or.inr rfl))) (sd_one (sd_asg (fun te h => ps_set (i := 10) sc_sum_in.nd rfl (by first | exact Or.inl rfl | exact Or.inr rfl) h) (pd_call h_common_share (hr.mono (by decide)) hgu (by rfl) (pa_c (pd_var 10 (pv 10)) (pa_c (pd_var 11 (pv 11)) pa_n)) (al_c (al_c al_n))))))
    (sd_one (sd_ret (pd_tup (pa_c (pd_fdiv (pd_ix (pd_var 9 (pv 9)) (pd_neg pd_int)) (pd_var 10 (pv 10))) (pa_c (pd_ty bi_tuple (by rfl) T.b_tuple rfl (pa_c (pd_f (pf_lc (own := [("number", 11)]) rfl sc_sum_in.nd (by kernel_rfl) (id_seq (pd_sl (pd_var 9 (pv 9)) po_n (po_s (pd_neg pd_int)))) (fun b => (gd_name (pg_name (i := 11) sc_sum_in.nd rfl (by first | exact Or.inl rfl | exact Or.inr rfl)))) (fun b => td_nil) (fun b => (pd_sub pd_int (pd_fdiv (pd_var 11 (pv 11)) (pd_var 10 (pv 10))))))) pa_n)) pa_n))))))))))))
theorem sc_span_paper : FnScope ["width", "rows", "row", "found", "told", "one"] ["width", "rows", "row"] (defScope (top 25)) := ⟨rfl, rfl, rfl, by decide +kernel, rfl, by decide +kernel, by decide +kernel⟩
theorem ok_span_paper {f : Addr} {fd : FuncData} (T : Glb mg) (F : Fun K "span_paper" "span_paper" (top 25) f fd) (hm : mg "span_paper" = some (.ref f)) (hb : Binds K fd ["width", "rows", "row"] []) (h_require_width : FnD P w K mg base "require_width" 2 1 F_require_width) (h_dot : FnD P w K mg base "dot" 1 2 F_dot) (h_lot_in : FnD P w K mg base "lot_in" 5 1 F_lot_in) (h_apart_in : FnD P w K mg base "apart_in" 6 2 F_apart_in) (h_require_row : FnD P w K mg base "require_row" 3 2 F_require_row) (h_require_rows : FnD P w K mg base "require_rows" 3 2 F_require_rows) (h_sum_in : FnD P w K mg base "sum_in" 4 3 F_sum_in) : FnD P w K mg base "span_paper" 7 3 F_span_paper := by
  refine fnD (k := 6) F hm hb sc_span_paper F_span_paper fun cdv A outer s H E hr hgu ds μ hl hG => ⟨b_span_paper, ?_, rfl⟩
  have hu := room_u hr
  exact (sd_cons (sd_drop (pd_call h_require_width (hr.mono (by decide)) hgu (by rfl) (pa_c (pd_var 0 (pv 0)) pa_n) (al_c al_n)))
    (sd_cons (sd_drop (pd_call h_require_rows (hr.mono (by decide)) hgu (by rfl) (pa_c (pd_var 0 (pv 0)) (pa_c (pd_var 1 (pv 1)) pa_n)) (al_c (al_c al_n))))
    (sd_cons (sd_drop (pd_call h_require_row (hr.mono (by decide)) hgu (by rfl) (pa_c (pd_var 0 (pv 0)) (pa_c (pd_var 2 (pv 2)) pa_n)) (al_c (al_c al_n))))
    (sd_cons (sd_asg (fun te h => ps_set (i := 3) sc_span_paper.nd rfl (by first | exact Or.inl rfl | exact Or.inr rfl) h) (pd_call h_sum_in (hr.mono (by decide)) hgu (by rfl) (pa_c (pd_var 0 (pv 0)) (pa_c (pd_var 1 (pv 1)) (pa_c (pd_var 2 (pv 2)) pa_n))) (al_c (al_c (al_c al_n)))))
    (sd_cons (sd_if (pt_cm c_isnot (pd_var 3 (pv 3)) pd_non) (sd_one (sd_ret (pd_tup (pa_c (pd_globS (by rfl) T.c_SUM.choose_spec) (pa_st (pd_var 3 (pv 3)) pa_n))))) sd_nil)
    (sd_cons (sd_frz 4 (sd_setLc (own := [("one", 5)]) (i := 4) rfl sc_span_paper.nd rfl rfl (by rfl) (by kernel_rfl) (id_seq (pd_call h_apart_in (hr.mono (by decide)) hgu (by rfl) (pa_c (pd_var 0 (pv 0)) (pa_c (pd_call h_lot_in (hr.mono (by decide)) hgu (by rfl) (pa_c (pd_var 1 (pv 1)) pa_n) (al_c al_n)) pa_n)) (al_c (al_c al_n)))) (fun b => (gd_name (pg_name (i := 5) sc_span_paper.nd rfl (by first | exact Or.inl rfl | exact Or.inr rfl)))) (fun b => (td_one (pt_cm (c_neS hu) (pd_call h_dot (hr.mono (by decide)) hgu (by rfl) (pa_c (pd_var 5 (pv 5)) (pa_c (pd_var 2 (pv 2)) pa_n)) (al_c (al_c al_n))) pd_int))) (fun b => (pd_var 5 (pv 5)))))
    (sd_one (sd_ret (pd_tup (pa_c (pd_globS (by rfl) T.c_APART.choose_spec) (pa_c (pd_ix (pd_var 4 (pv 4)) pd_int) pa_n)))))))))))
theorem sc_L_dice : FnScope ["script", "spot", "cell", "great", "seed"] ["script", "spot"] (defScope (top 28)) := ⟨rfl, rfl, rfl, by decide +kernel, rfl, by decide +kernel, by decide +kernel⟩
theorem ok_L_dice {f : Addr} {fd : FuncData} (T : Glb mg) (F : Fun K "_law_dice" "_law_dice" (top 28) f fd) (hm : mg "_law_dice" = some (.ref f)) (hb : Binds K fd ["script", "spot"] []) : FnD P w K mg base "_law_dice" 1 2 F_L_dice := by
  refine fnD (k := 0) F hm hb sc_L_dice F_L_dice fun cdv A outer s H E hr hgu ds μ hl hG => ⟨b_L_dice, ?_, rfl⟩
  have hu := room_u hr
  exact (sd_cons (sd_asg (fun te h => ps_set (i := 2) sc_L_dice.nd rfl (by first | exact Or.inl rfl | exact Or.inr rfl) h) (pd_if (pt_cm c_lt (pd_var 1 (pv 1)) (pd_b bi_len (by rfl) T.b_len rfl (pa_c (pd_var 0 (pv 0)) pa_n))) (pd_ty bi_int (by rfl) T.b_int rfl (pa_c (pd_ix (pd_var 0 (pv 0)) (pd_var 1 (pv 1))) pa_n)) (pd_add (pd_mul pd_int (pd_var 1 (pv 1))) pd_int)))
    (sd_cons (sd_asg (fun te h => ps_set (i := 3) sc_L_dice.nd rfl (by first | exact Or.inl rfl | exact Or.inr rfl) h) (pd_mod (pd_ty bi_int (by rfl) T.b_int rfl (pa_c (pd_b bi_abs (by rfl) T.b_abs rfl (pa_c (pd_var 2 (pv 2)) pa_n)) pa_n)) (pd_pow (pd_pow pd_int pd_int) pd_int)))
    (sd_cons (sd_asg (fun te h => ps_set (i := 4) sc_L_dice.nd rfl (by first | exact Or.inl rfl | exact Or.inr rfl) h) (pd_add (pd_add (pd_add (pd_mul (pd_mod (pd_var 3 (pv 3)) pd_int) pd_int) (pd_mul pd_int (pd_var 1 (pv 1)))) (pd_mul pd_int (pd_ty bi_int (by rfl) T.b_int rfl (pa_c (pd_cm c_lt (pd_var 2 (pv 2)) pd_int) pa_n)))) pd_int))
    (sd_one (sd_retF (pf_lst (pa_c (pd_b (bi_max2 rfl) (by rfl) T.b_max rfl (pa_c pd_int (pa_c (pd_sub (pd_var 3 (pv 3)) (pd_pow pd_int pd_int)) pa_n))) (pa_c (pd_var 4 (pv 4)) (pa_c pd_int pa_n)))))))))
theorem sc_L_roll : FnScope ["dice", "total", "found", "one", "two"] ["dice", "total"] (defScope (top 29)) := ⟨rfl, rfl, rfl, by decide +kernel, rfl, by decide +kernel, by decide +kernel⟩
theorem ok_L_roll {f : Addr} {fd : FuncData} (T : Glb mg) (F : Fun K "_law_roll" "_law_roll" (top 29) f fd) (hm : mg "_law_roll" = some (.ref f)) (hb : Binds K fd ["dice", "total"] []) : FnD P w K mg base "_law_roll" 1 2 F_L_roll := by
  refine fnD (k := 0) F hm hb sc_L_roll F_L_roll fun cdv A outer s H E hr hgu ds μ hl hG => ⟨b_L_roll, ?_, rfl⟩
  have hu := room_u hr
  exact (sd_cons (sd_if (pt_cm c_gt (pd_ix (pd_var 0 (pv 0)) pd_int) pd_int) (sd_cons (sd_asg (fun te h => ps_set (i := 2) sc_L_roll.nd rfl (by first | exact Or.inl rfl | exact Or.inr rfl) h) (pd_mod (pd_ix (pd_var 0 (pv 0)) pd_int) (pd_var 1 (pv 1))))
    (sd_cons (sd_setI (fun te t h g => ps_asg h g) set_list ss_list (pd_fdiv (pd_ix (pd_var 0 (pv 0)) pd_int) (pd_var 1 (pv 1))) (pd_var 0 (pv 0)) pd_int)
    (sd_one (sd_ret (pd_ty bi_int (by rfl) T.b_int rfl (pa_c (pd_var 2 (pv 2)) pa_n)))))) sd_nil)
    (sd_cons (sd_setI (fun te t h g => ps_asg h g) set_list ss_list (pd_add (pd_ix (pd_var 0 (pv 0)) pd_int) pd_int) (pd_var 0 (pv 0)) pd_int)
    (sd_cons (sd_asg (fun te h => ps_set (i := 3) sc_L_roll.nd rfl (by first | exact Or.inl rfl | exact Or.inr rfl) h) (pd_mod (pd_add (pd_ix (pd_var 0 (pv 0)) pd_int) (pd_mul pd_int (pd_ix (pd_var 0 (pv 0)) pd_int))) pd_int))
    (sd_cons (sd_asg (fun te h => ps_set (i := 4) sc_L_roll.nd rfl (by first | exact Or.inl rfl | exact Or.inr rfl) h) (pd_add (pd_mul (pd_mod (pd_add (pd_mul (pd_var 3 (pv 3)) (pd_var 3 (pv 3))) (pd_mul pd_int (pd_ix (pd_var 0 (pv 0)) pd_int))) pd_int) pd_int) (pd_var 3 (pv 3))))
    (sd_one (sd_ret (pd_mod (pd_ty bi_int (by rfl) T.b_int rfl (pa_c (pd_fdiv (pd_var 4 (pv 4)) pd_int) pa_n)) (pd_var 1 (pv 1)))))))))
theorem sc_sum_of_rows : FnScope ["one", "other", "left", "right"] ["one", "other"] (defScope (top 15)) := ⟨rfl, rfl, rfl, by decide +kernel, rfl, by decide +kernel, by decide +kernel⟩
theorem ok_sum_of_rows {f : Addr} {fd : FuncData} (T : Glb mg) (F : Fun K "sum_of_rows" "sum_of_rows" (top 15) f fd) (hm : mg "sum_of_rows" = some (.ref f)) (hb : Binds K fd ["one", "other"] []) : FnD P w K mg base "sum_of_rows" 1 2 F_sum_of_rows := by
  refine fnD (k := 0) F hm hb sc_sum_of_rows F_sum_of_rows fun cdv A outer s H E hr hgu ds μ hl hG => ⟨b_sum_of_rows, ?_, rfl⟩
  have hu := room_u hr
  exact (sd_one (sd_ret (pd_ty bi_tuple (by rfl) T.b_tuple rfl (pa_c (pd_f (pf_lc (own := [("left", 2), ("right", 3)]) rfl sc_sum_of_rows.nd (by kernel_rfl) (id_zp (pa_c (pd_var 0 (pv 0)) (pa_c (pd_var 1 (pv 1)) pa_n)) (by rfl) T.b_zip) (fun b => (gd_tup rfl (gd_cons (gd_name (pg_name (i := 2) sc_sum_of_rows.nd rfl (by first | exact Or.inl rfl | exact Or.inr rfl))) (gd_cons (gd_name (pg_name (i := 3) sc_sum_of_rows.nd rfl (by first | exact Or.inl rfl | exact Or.inr rfl))) gd_nil)))) (fun b => td_nil) (fun b => (pd_add (pd_var 2 (pv 2)) (pd_var 3 (pv 3)))))) pa_n))))
theorem sc_times_row : FnScope ["number", "row", "one"] ["number", "row"] (defScope (top 16)) := ⟨rfl, rfl, rfl, by decide +kernel, rfl, by decide +kernel, by decide +kernel⟩
theorem ok_times_row {f : Addr} {fd : FuncData} (T : Glb mg) (F : Fun K "times_row" "times_row" (top 16) f fd) (hm : mg "times_row" = some (.ref f)) (hb : Binds K fd ["number", "row"] []) : FnD P w K mg base "times_row" 1 2 F_times_row := by
  refine fnD (k := 0) F hm hb sc_times_row F_times_row fun cdv A outer s H E hr hgu ds μ hl hG => ⟨b_times_row, ?_, rfl⟩
  have hu := room_u hr
  exact (sd_one (sd_ret (pd_ty bi_tuple (by rfl) T.b_tuple rfl (pa_c (pd_f (pf_lc (own := [("one", 2)]) rfl sc_times_row.nd (by kernel_rfl) (id_seq (pd_var 1 (pv 1))) (fun b => (gd_name (pg_name (i := 2) sc_times_row.nd rfl (by first | exact Or.inl rfl | exact Or.inr rfl)))) (fun b => td_nil) (fun b => (pd_mul (pd_var 0 (pv 0)) (pd_var 2 (pv 2)))))) pa_n))))
theorem sc_is_span_paper : FnScope ["width", "rows", "row", "value", "line", "found", "number"] ["width", "rows", "row", "value"] (defScope (top 26)) := ⟨rfl, rfl, rfl, by decide +kernel, rfl, by decide +kernel, by decide +kernel⟩
theorem ok_is_span_paper {f : Addr} {fd : FuncData} (T : Glb mg) (F : Fun K "is_span_paper" "is_span_paper" (top 26) f fd) (hm : mg "is_span_paper" = some (.ref f)) (hb : Binds K fd ["width", "rows", "row", "value"] []) (h_is_integer : FnD P w K mg base "is_integer" 1 1 F_is_integer) (h_require_width : FnD P w K mg base "require_width" 2 1 F_require_width) (h_is_plain_row : FnD P w K mg base "is_plain_row" 2 2 F_is_plain_row) (h_dot : FnD P w K mg base "dot" 1 2 F_dot) (h_sum_of_rows : FnD P w K mg base "sum_of_rows" 1 2 F_sum_of_rows) (h_times_row : FnD P w K mg base "times_row" 1 2 F_times_row) (h_require_row : FnD P w K mg base "require_row" 3 2 F_require_row) (h_require_rows : FnD P w K mg base "require_rows" 3 2 F_require_rows) : FnD P w K mg base "is_span_paper" 4 4 F_is_span_paper := by
  refine fnD (k := 3) F hm hb sc_is_span_paper F_is_span_paper fun cdv A outer s H E hr hgu ds μ hl hG => ⟨b_is_span_paper, ?_, rfl⟩
  have hu := room_u hr
  exact (sd_cons (sd_drop (pd_call h_require_width (hr.mono (by decide)) hgu (by rfl) (pa_c (pd_var 0 (pv 0)) pa_n) (al_c al_n)))
    (sd_cons (sd_drop (pd_call h_require_rows (hr.mono (by decide)) hgu (by rfl) (pa_c (pd_var 0 (pv 0)) (pa_c (pd_var 1 (pv 1)) pa_n)) (al_c (al_c al_n))))
    (sd_cons (sd_drop (pd_call h_require_row (hr.mono (by decide)) hgu (by rfl) (pa_c (pd_var 0 (pv 0)) (pa_c (pd_var 2 (pv 2)) pa_n)) (al_c (al_c al_n))))
    (sd_cons (sd_if (PWD.pt (pw_o (pt_nt (pt_tr (pd_b bi_isi (by rfl) T.b_isinstance rfl (pa_c (pd_var 3 (pv 3)) (pa_c (pd_bltT (by rfl) T.b_tuple rfl) pa_n))))) (pw_o (pt_cm (c_eqS hu) (pd_var 3 (pv 3)) (pd_tup pa_n)) (pw_o1 (pt_nt (pt_tr (pd_b bi_isi (by rfl) T.b_isinstance rfl (pa_c (pd_ix (pd_var 3 (pv 3)) pd_int) (pa_c (pd_bltT (by rfl) T.b_str rfl) pa_n))))))))) (sd_one (sd_ret pd_bl)) sd_nil)
    (sd_cons (sd_if (pt_cm (c_eqS hu) (pd_ix (pd_var 3 (pv 3)) pd_int) (pd_globS (by rfl) T.c_APART.choose_spec)) (sd_cons (sd_if (PWD.pt (pw_o (pt_cm (c_neS hu) (pd_b bi_len (by rfl) T.b_len rfl (pa_c (pd_var 3 (pv 3)) pa_n)) pd_int) (pw_o1 (pt_nt (pt_tr (pd_call h_is_plain_row (hr.mono (by decide)) hgu (by rfl) (pa_c (pd_var 0 (pv 0)) (pa_c (pd_ix (pd_var 3 (pv 3)) pd_int) pa_n)) (al_c (al_c al_n)))))))) (sd_one (sd_ret pd_bl)) sd_nil)
    (sd_one (sd_ret (pd_and (pd_b (bi_all rfl) (by rfl) T.b_all rfl (pa_c (pd_f (pf_lc (own := [("line", 4)]) rfl sc_is_span_paper.nd (by kernel_rfl) (id_seq (pd_var 1 (pv 1))) (fun b => (gd_name (pg_name (i := 4) sc_is_span_paper.nd rfl (by first | exact Or.inl rfl | exact Or.inr rfl)))) (fun b => td_nil) (fun b => (pd_cm (c_eqS hu) (pd_call h_dot (hr.mono (by decide)) hgu (by rfl) (pa_c (pd_var 4 (pv 4)) (pa_c (pd_ix (pd_var 3 (pv 3)) pd_int) pa_n)) (al_c (al_c al_n))) pd_int)))) pa_n)) (pd_one (pd_cm (c_neS hu) (pd_call h_dot (hr.mono (by decide)) hgu (by rfl) (pa_c (pd_var 2 (pv 2)) (pa_c (pd_ix (pd_var 3 (pv 3)) pd_int) pa_n)) (al_c (al_c al_n))) pd_int)))))) sd_nil)
    (sd_cons (sd_if (PWD.pt (pw_o (pt_cm (c_neS hu) (pd_ix (pd_var 3 (pv 3)) pd_int) (pd_globS (by rfl) T.c_SUM.choose_spec)) (pw_o (pt_cm (c_neS hu) (pd_b bi_len (by rfl) T.b_len rfl (pa_c (pd_var 3 (pv 3)) pa_n)) pd_int) (pw_o (pt_nt (pt_tr (pd_call h_is_integer (hr.mono (by decide)) hgu (by rfl) (pa_c (pd_ix (pd_var 3 (pv 3)) pd_int) pa_n) (al_c al_n)))) (pw_o1 (pt_cm c_lt (pd_ix (pd_var 3 (pv 3)) pd_int) pd_int)))))) (sd_one (sd_ret pd_bl)) sd_nil)
    (sd_cons (sd_if (pt_nt (pt_tr (pd_call h_is_plain_row (hr.mono (by decide)) hgu (by rfl) (pa_c (pd_b bi_len (by rfl) T.b_len rfl (pa_c (pd_var 1 (pv 1)) pa_n)) (pa_c (pd_ix (pd_var 3 (pv 3)) pd_int) pa_n)) (al_c (al_c al_n))))) (sd_one (sd_ret pd_bl)) sd_nil)
    (sd_cons (sd_asg (fun te h => ps_set (i := 5) sc_is_span_paper.nd rfl (by first | exact Or.inl rfl | exact Or.inr rfl) h) (pd_mul (pd_tup (pa_c pd_int pa_n)) (pd_var 0 (pv 0))))
    (sd_cons (sd_for (passes_of rfl) rfl (id_zp (pa_c (pd_ix (pd_var 3 (pv 3)) pd_int) (pa_c (pd_var 1 (pv 1)) pa_n)) (by rfl) T.b_zip) (gd_tup rfl (gd_cons (gd_name (pg_name (i := 6) sc_is_span_paper.nd rfl (by first | exact Or.inl rfl | exact Or.inr rfl))) (gd_cons (gd_name (pg_name (i := 4) sc_is_span_paper.nd rfl (by first | exact Or.inl rfl | exact Or.inr rfl))) gd_nil))) (sd_one (sd_asg (fun te h => ps_set (i := 5) sc_is_span_paper.nd rfl (by first | exact Or.inl rfl | exact Or.inr rfl) h) (pd_call h_sum_of_rows (hr.mono (by decide)) hgu (by rfl) (pa_c (pd_var 5 (pv 5)) (pa_c (pd_call h_times_row (hr.mono (by decide)) hgu (by rfl) (pa_c (pd_var 6 (pv 6)) (pa_c (pd_var 4 (pv 4)) pa_n)) (al_c (al_c al_n))) pa_n)) (al_c (al_c al_n))))))
    (sd_one (sd_ret (pd_cm (c_eqS hu) (pd_var 5 (pv 5)) (pd_call h_times_row (hr.mono (by decide)) hgu (by rfl) (pa_c (pd_ix (pd_var 3 (pv 3)) pd_int) (pa_c (pd_var 2 (pv 2)) pa_n)) (al_c (al_c al_n)))))))))))))))
theorem sc_L_pick : FnScope ["dice", "items"] ["dice", "items"] (defScope (top 30)) := ⟨rfl, rfl, rfl, by decide +kernel, rfl, by decide +kernel, by decide +kernel⟩
theorem ok_L_pick {f : Addr} {fd : FuncData} (T : Glb mg) (F : Fun K "_law_pick" "_law_pick" (top 30) f fd) (hm : mg "_law_pick" = some (.ref f)) (hb : Binds K fd ["dice", "items"] []) (h_L_roll : FnD P w K mg base "_law_roll" 1 2 F_L_roll) : FnD P w K mg base "_law_pick" 2 2 F_L_pick := by
  refine fnD (k := 1) F hm hb sc_L_pick F_L_pick fun cdv A outer s H E hr hgu ds μ hl hG => ⟨b_L_pick, ?_, rfl⟩
  have hu := room_u hr
  exact (sd_one (sd_ret (pd_ix (pd_var 1 (pv 1)) (pd_call h_L_roll (hr.mono (by decide)) hgu (by rfl) (pa_c (pd_var 0 (pv 0)) (pa_c (pd_b bi_len (by rfl) T.b_len rfl (pa_c (pd_var 1 (pv 1)) pa_n)) pa_n)) (al_c (al_c al_n))))))
theorem sc_L_lead : FnScope ["row", "at", "number"] ["row"] (defScope (top 32)) := ⟨rfl, rfl, rfl, by decide +kernel, rfl, by decide +kernel, by decide +kernel⟩
theorem ok_L_lead {f : Addr} {fd : FuncData} (T : Glb mg) (F : Fun K "_law_lead" "_law_lead" (top 32) f fd) (hm : mg "_law_lead" = some (.ref f)) (hb : Binds K fd ["row"] []) : FnD P w K mg base "_law_lead" 1 1 F_L_lead := by
  refine fnD (k := 0) F hm hb sc_L_lead F_L_lead fun cdv A outer s H E hr hgu ds μ hl hG => ⟨b_L_lead, ?_, rfl⟩
  have hu := room_u hr
  exact (sd_one (sd_ret (pd_b (bi_min rfl) (by rfl) T.b_min rfl (pa_c (pd_add (pd_f (pf_lc (own := [("at", 1), ("number", 2)]) rfl sc_L_lead.nd (by kernel_rfl) (id_en (pa_c (pd_var 0 (pv 0)) pa_n) (by rfl) T.b_enumerate) (fun b => (gd_tup rfl (gd_cons (gd_name (pg_name (i := 1) sc_L_lead.nd rfl (by first | exact Or.inl rfl | exact Or.inr rfl))) (gd_cons (gd_name (pg_name (i := 2) sc_L_lead.nd rfl (by first | exact Or.inl rfl | exact Or.inr rfl))) gd_nil)))) (fun b => (td_one (pt_cm (c_neS hu) (pd_var 2 (pv 2)) pd_int))) (fun b => (pd_var 1 (pv 1))))) (pd_f (pf_lst (pa_c (pd_b bi_len (by rfl) T.b_len rfl (pa_c (pd_var 0 (pv 0)) pa_n)) pa_n)))) pa_n))))
theorem sc_L_gcd : FnScope ["one", "other"] ["one", "other"] (defScope (top 31)) := ⟨rfl, rfl, rfl, by decide +kernel, rfl, by decide +kernel, by decide +kernel⟩
theorem ok_L_gcd {f : Addr} {fd : FuncData} (T : Glb mg) (F : Fun K "_law_gcd" "_law_gcd" (top 31) f fd) (hm : mg "_law_gcd" = some (.ref f)) (hb : Binds K fd ["one", "other"] []) : FnD P w K mg base "_law_gcd" 1 2 F_L_gcd := by
  refine fnD (k := 0) F hm hb sc_L_gcd F_L_gcd fun cdv A outer s H E hr hgu ds μ hl hG => ⟨b_L_gcd (fu0_L_gcd ds μ), ?_, rfl⟩
  have hu := room_u hr
  exact (sd_cons (sd_while (fu0_L_gcd ds μ) (passes_of rfl) (pt_cm (c_neS hu) (pd_var 1 (pv 1)) pd_int) (sd_one (sd_par (fun ta h => ps_par (i := 0) (j := 1) rfl sc_L_gcd.nd rfl rfl (by decide) rfl rfl h (by rfl)) (pa_c (pd_var 1 (pv 1)) (pa_c (pd_mod (pd_var 0 (pv 0)) (pd_var 1 (pv 1))) pa_n)))))
    (sd_one (sd_ret (pd_b bi_abs (by rfl) T.b_abs rfl (pa_c (pd_var 0 (pv 0)) pa_n)))))
theorem sc_L_lowest : FnScope ["row", "share", "number", "sign"] ["row"] (defScope (top 33)) := ⟨rfl, rfl, rfl, by decide +kernel, rfl, by decide +kernel, by decide +kernel⟩
theorem ok_L_lowest {f : Addr} {fd : FuncData} (T : Glb mg) (F : Fun K "_law_lowest" "_law_lowest" (top 33) f fd) (hm : mg "_law_lowest" = some (.ref f)) (hb : Binds K fd ["row"] []) (h_L_gcd : FnD P w K mg base "_law_gcd" 1 2 F_L_gcd) (h_L_lead : FnD P w K mg base "_law_lead" 1 1 F_L_lead) : FnD P w K mg base "_law_lowest" 2 1 F_L_lowest := by
  refine fnD (k := 1) F hm hb sc_L_lowest F_L_lowest fun cdv A outer s H E hr hgu ds μ hl hG => ⟨b_L_lowest, ?_, rfl⟩
  have hu := room_u hr
  exact (sd_cons (sd_asg (fun te h => ps_set (i := 1) sc_L_lowest.nd rfl (by first | exact Or.inl rfl | exact Or.inr rfl) h) pd_int)
    (sd_cons (sd_for (passes_of rfl) rfl (id_seq (pd_var 0 (pv 0))) (gd_name (pg_name (i := 2) sc_L_lowest.nd rfl (by first | exact Or.inl rfl | exact Or.inr rfl))) (sd_one (sd_asg (fun te h => ps_set (i := 1) sc_L_lowest.nd rfl (by first | exact Or.inl rfl | exact Or.inr rfl) h) (pd_call h_L_gcd (hr.mono (by decide)) hgu (by rfl) (pa_c (pd_var 1 (pv 1)) (pa_c (pd_var 2 (pv 2)) pa_n)) (al_c (al_c al_n))))))
    (sd_cons (sd_if (pt_cm (c_eqS hu) (pd_var 1 (pv 1)) pd_int) (sd_one (sd_ret (pd_ty bi_tuple (by rfl) T.b_tuple rfl (pa_c (pd_var 0 (pv 0)) pa_n)))) sd_nil)
    (sd_cons (sd_asg (fun te h => ps_set (i := 3) sc_L_lowest.nd rfl (by first | exact Or.inl rfl | exact Or.inr rfl) h) (pd_if (pt_cm c_gt (pd_ix (pd_var 0 (pv 0)) (pd_call h_L_lead (hr.mono (by decide)) hgu (by rfl) (pa_c (pd_var 0 (pv 0)) pa_n) (al_c al_n))) pd_int) pd_int (pd_neg pd_int)))
    (sd_one (sd_ret (pd_ty bi_tuple (by rfl) T.b_tuple rfl (pa_c (pd_f (pf_lc (own := [("number", 2)]) rfl sc_L_lowest.nd (by kernel_rfl) (id_seq (pd_var 0 (pv 0))) (fun b => (gd_name (pg_name (i := 2) sc_L_lowest.nd rfl (by first | exact Or.inl rfl | exact Or.inr rfl)))) (fun b => td_nil) (fun b => (pd_mul (pd_var 3 (pv 3)) (pd_fdiv (pd_var 2 (pv 2)) (pd_var 1 (pv 1))))))) pa_n))))))))
theorem sc_L_less : FnScope ["row", "other", "at", "one", "two"] ["row", "other"] (defScope (top 35)) := ⟨rfl, rfl, rfl, by decide +kernel, rfl, by decide +kernel, by decide +kernel⟩
theorem ok_L_less {f : Addr} {fd : FuncData} (T : Glb mg) (F : Fun K "_law_less" "_law_less" (top 35) f fd) (hm : mg "_law_less" = some (.ref f)) (hb : Binds K fd ["row", "other"] []) (h_L_lead : FnD P w K mg base "_law_lead" 1 1 F_L_lead) : FnD P w K mg base "_law_less" 2 2 F_L_less := by
  refine fnD (k := 1) F hm hb sc_L_less F_L_less fun cdv A outer s H E hr hgu ds μ hl hG => ⟨b_L_less, ?_, rfl⟩
  have hu := room_u hr
  exact (sd_cons (sd_asg (fun te h => ps_set (i := 2) sc_L_less.nd rfl (by first | exact Or.inl rfl | exact Or.inr rfl) h) (pd_call h_L_lead (hr.mono (by decide)) hgu (by rfl) (pa_c (pd_var 1 (pv 1)) pa_n) (al_c al_n)))
    (sd_cons (sd_if (pt_cm (c_eqS hu) (pd_ix (pd_var 0 (pv 0)) (pd_var 2 (pv 2))) pd_int) (sd_one (sd_ret (pd_var 0 (pv 0)))) sd_nil)
    (sd_one (sd_ret (pd_ty bi_tuple (by rfl) T.b_tuple rfl (pa_c (pd_f (pf_lc (own := [("one", 3), ("two", 4)]) rfl sc_L_less.nd (by kernel_rfl) (id_zp (pa_c (pd_var 0 (pv 0)) (pa_c (pd_var 1 (pv 1)) pa_n)) (by rfl) T.b_zip) (fun b => (gd_tup rfl (gd_cons (gd_name (pg_name (i := 3) sc_L_less.nd rfl (by first | exact Or.inl rfl | exact Or.inr rfl))) (gd_cons (gd_name (pg_name (i := 4) sc_L_less.nd rfl (by first | exact Or.inl rfl | exact Or.inr rfl))) gd_nil)))) (fun b => td_nil) (fun b => (pd_sub (pd_mul (pd_ix (pd_var 1 (pv 1)) (pd_var 2 (pv 2))) (pd_var 3 (pv 3))) (pd_mul (pd_ix (pd_var 0 (pv 0)) (pd_var 2 (pv 2))) (pd_var 4 (pv 4))))))) pa_n))))))
theorem sc_L_with_row : FnScope ["lot", "row", "other", "rows", "pair", "one"] ["lot", "row"] (defScope (top 36)) := ⟨rfl, rfl, rfl, by decide +kernel, rfl, by decide +kernel, by decide +kernel⟩
theorem ok_L_with_row {f : Addr} {fd : FuncData} (T : Glb mg) (F : Fun K "_law_with_row" "_law_with_row" (top 36) f fd) (hm : mg "_law_with_row" = some (.ref f)) (hb : Binds K fd ["lot", "row"] []) (h_L_lead : FnD P w K mg base "_law_lead" 1 1 F_L_lead) (h_L_lowest : FnD P w K mg base "_law_lowest" 2 1 F_L_lowest) (h_L_less : FnD P w K mg base "_law_less" 2 2 F_L_less) : FnD P w K mg base "_law_with_row" 3 2 F_L_with_row := by
  refine fnD (k := 2) F hm hb sc_L_with_row F_L_with_row fun cdv A outer s H E hr hgu ds μ hl hG => ⟨b_L_with_row, ?_, rfl⟩
  have hu := room_u hr
  exact (sd_cons (sd_for (passes_of rfl) rfl (id_seq (pd_var 0 (pv 0))) (gd_name (pg_name (i := 2) sc_L_with_row.nd rfl (by first | exact Or.inl rfl | exact Or.inr rfl))) (sd_one (sd_asg (fun te h => ps_set (i := 1) sc_L_with_row.nd rfl (by first | exact Or.inl rfl | exact Or.inr rfl) h) (pd_call h_L_less (hr.mono (by decide)) hgu (by rfl) (pa_c (pd_var 1 (pv 1)) (pa_c (pd_var 2 (pv 2)) pa_n)) (al_c (al_c al_n))))))
    (sd_cons (sd_if (pt_cm (c_eqS hu) (pd_call h_L_lead (hr.mono (by decide)) hgu (by rfl) (pa_c (pd_var 1 (pv 1)) pa_n) (al_c al_n)) (pd_b bi_len (by rfl) T.b_len rfl (pa_c (pd_var 1 (pv 1)) pa_n))) (sd_one (sd_ret (pd_var 0 (pv 0)))) sd_nil)
    (sd_cons (sd_asg (fun te h => ps_set (i := 1) sc_L_with_row.nd rfl (by first | exact Or.inl rfl | exact Or.inr rfl) h) (pd_call h_L_lowest (hr.mono (by decide)) hgu (by rfl) (pa_c (pd_var 1 (pv 1)) pa_n) (al_c al_n)))
    (sd_cons (sd_asg (fun te h => ps_set (i := 3) sc_L_with_row.nd rfl (by first | exact Or.inl rfl | exact Or.inr rfl) h) (pd_add (pd_f (pf_lc (own := [("other", 2)]) rfl sc_L_with_row.nd (by kernel_rfl) (id_seq (pd_var 0 (pv 0))) (fun b => (gd_name (pg_name (i := 2) sc_L_with_row.nd rfl (by first | exact Or.inl rfl | exact Or.inr rfl)))) (fun b => td_nil) (fun b => (pd_call h_L_lowest (hr.mono (by decide)) hgu (by rfl) (pa_c (pd_call h_L_less (hr.mono (by decide)) hgu (by rfl) (pa_c (pd_var 2 (pv 2)) (pa_c (pd_var 1 (pv 1)) pa_n)) (al_c (al_c al_n))) pa_n) (al_c al_n))))) (pd_f (pf_lst (pa_c (pd_var 1 (pv 1)) pa_n)))))
    (sd_one (sd_ret (pd_ty bi_tuple (by rfl) T.b_tuple rfl (pa_c (pd_f (pf_lc (own := [("pair", 4)]) rfl sc_L_with_row.nd (by kernel_rfl) (id_seq (pd_f (pf_b (bif_sorted hu) (by rfl) T.b_sorted rfl (pa_c (pd_f (pf_lc (own := [("one", 5)]) rfl sc_L_with_row.nd (by kernel_rfl) (id_seq (pd_var 3 (pv 3))) (fun b => (gd_name (pg_name (i := 5) sc_L_with_row.nd rfl (by first | exact Or.inl rfl | exact Or.inr rfl)))) (fun b => td_nil) (fun b => (pd_tup (pa_c (pd_call h_L_lead (hr.mono (by decide)) hgu (by rfl) (pa_c (pd_var 5 (pv 5)) pa_n) (al_c al_n)) (pa_c (pd_var 5 (pv 5)) pa_n)))))) pa_n)))) (fun b => (gd_name (pg_name (i := 4) sc_L_with_row.nd rfl (by first | exact Or.inl rfl | exact Or.inr rfl)))) (fun b => td_nil) (fun b => (pd_ix (pd_var 4 (pv 4)) pd_int)))) pa_n))))))))
theorem sc_L_lot : FnScope ["rows", "lot", "row"] ["rows"] (defScope (top 37)) := ⟨rfl, rfl, rfl, by decide +kernel, rfl, by decide +kernel, by decide +kernel⟩
theorem ok_L_lot {f : Addr} {fd : FuncData} (T : Glb mg) (F : Fun K "_law_lot" "_law_lot" (top 37) f fd) (hm : mg "_law_lot" = some (.ref f)) (hb : Binds K fd ["rows"] []) (h_L_with_row : FnD P w K mg base "_law_with_row" 3 2 F_L_with_row) : FnD P w K mg base "_law_lot" 4 1 F_L_lot := by
  refine fnD (k := 3) F hm hb sc_L_lot F_L_lot fun cdv A outer s H E hr hgu ds μ hl hG => ⟨b_L_lot, ?_, rfl⟩
  have hu := room_u hr
  exact (sd_cons (sd_asg (fun te h => ps_set (i := 1) sc_L_lot.nd rfl (by first | exact Or.inl rfl | exact Or.inr rfl) h) (pd_tup pa_n))
    (sd_cons (sd_for (passes_of rfl) rfl (id_seq (pd_var 0 (pv 0))) (gd_name (pg_name (i := 2) sc_L_lot.nd rfl (by first | exact Or.inl rfl | exact Or.inr rfl))) (sd_one (sd_asg (fun te h => ps_set (i := 1) sc_L_lot.nd rfl (by first | exact Or.inl rfl | exact Or.inr rfl) h) (pd_call h_L_with_row (hr.mono (by decide)) hgu (by rfl) (pa_c (pd_var 1 (pv 1)) (pa_c (pd_var 2 (pv 2)) pa_n)) (al_c (al_c al_n))))))
    (sd_one (sd_ret (pd_var 1 (pv 1))))))
theorem sc_L_holds : FnScope ["lot", "row", "other"] ["lot", "row"] (defScope (top 38)) := ⟨rfl, rfl, rfl, by decide +kernel, rfl, by decide +kernel, by decide +kernel⟩
theorem ok_L_holds {f : Addr} {fd : FuncData} (T : Glb mg) (F : Fun K "_law_holds" "_law_holds" (top 38) f fd) (hm : mg "_law_holds" = some (.ref f)) (hb : Binds K fd ["lot", "row"] []) (h_L_lead : FnD P w K mg base "_law_lead" 1 1 F_L_lead) (h_L_less : FnD P w K mg base "_law_less" 2 2 F_L_less) : FnD P w K mg base "_law_holds" 3 2 F_L_holds := by
  refine fnD (k := 2) F hm hb sc_L_holds F_L_holds fun cdv A outer s H E hr hgu ds μ hl hG => ⟨b_L_holds, ?_, rfl⟩
  have hu := room_u hr
  exact (sd_cons (sd_for (passes_of rfl) rfl (id_seq (pd_var 0 (pv 0))) (gd_name (pg_name (i := 2) sc_L_holds.nd rfl (by first | exact Or.inl rfl | exact Or.inr rfl))) (sd_one (sd_asg (fun te h => ps_set (i := 1) sc_L_holds.nd rfl (by first | exact Or.inl rfl | exact Or.inr rfl) h) (pd_call h_L_less (hr.mono (by decide)) hgu (by rfl) (pa_c (pd_var 1 (pv 1)) (pa_c (pd_var 2 (pv 2)) pa_n)) (al_c (al_c al_n))))))
    (sd_one (sd_ret (pd_cm (c_eqS hu) (pd_call h_L_lead (hr.mono (by decide)) hgu (by rfl) (pa_c (pd_var 1 (pv 1)) pa_n) (al_c al_n)) (pd_b bi_len (by rfl) T.b_len rfl (pa_c (pd_var 1 (pv 1)) pa_n))))))
theorem sc_L_summed : FnScope ["wide", "rows", "numbers", "found", "row", "number", "one", "more"] ["wide", "rows", "numbers"] (defScope (top 41)) := ⟨rfl, rfl, rfl, by decide +kernel, rfl, by decide +kernel, by decide +kernel⟩
theorem ok_L_summed {f : Addr} {fd : FuncData} (T : Glb mg) (F : Fun K "_law_summed" "_law_summed" (top 41) f fd) (hm : mg "_law_summed" = some (.ref f)) (hb : Binds K fd ["wide", "rows", "numbers"] []) : FnD P w K mg base "_law_summed" 1 3 F_L_summed := by
  refine fnD (k := 0) F hm hb sc_L_summed F_L_summed fun cdv A outer s H E hr hgu ds μ hl hG => ⟨b_L_summed, ?_, rfl⟩
  have hu := room_u hr
  exact (sd_cons (sd_asg (fun te h => ps_set (i := 3) sc_L_summed.nd rfl (by first | exact Or.inl rfl | exact Or.inr rfl) h) (pd_f (pf_rep (pf_lst (pa_c pd_int pa_n)) (pd_var 0 (pv 0)))))
    (sd_cons (sd_for (passes_of rfl) rfl (id_zp (pa_c (pd_var 1 (pv 1)) (pa_c (pd_var 2 (pv 2)) pa_n)) (by rfl) T.b_zip) (gd_tup rfl (gd_cons (gd_name (pg_name (i := 4) sc_L_summed.nd rfl (by first | exact Or.inl rfl | exact Or.inr rfl))) (gd_cons (gd_name (pg_name (i := 5) sc_L_summed.nd rfl (by first | exact Or.inl rfl | exact Or.inr rfl))) gd_nil))) (sd_one (sd_frz 3 (sd_setLc (own := [("one", 6), ("more", 7)]) (i := 3) rfl sc_L_summed.nd rfl rfl (by rfl) (by kernel_rfl) (id_zp (pa_c (pd_var 3 (pv 3)) (pa_c (pd_var 4 (pv 4)) pa_n)) (by rfl) T.b_zip) (fun b => (gd_tup rfl (gd_cons (gd_name (pg_name (i := 6) sc_L_summed.nd rfl (by first | exact Or.inl rfl | exact Or.inr rfl))) (gd_cons (gd_name (pg_name (i := 7) sc_L_summed.nd rfl (by first | exact Or.inl rfl | exact Or.inr rfl))) gd_nil)))) (fun b => td_nil) (fun b => (pd_add (pd_var 6 (pv 6)) (pd_mul (pd_var 5 (pv 5)) (pd_var 7 (pv 7)))))))))
    (sd_one (sd_ret (pd_ty bi_tuple (by rfl) T.b_tuple rfl (pa_c (pd_var 3 (pv 3)) pa_n))))))
theorem sc_L_rw_drawn : FnScope ["dice", "wide", "many", "found", "turn", "way", "row", "at", "one"] ["dice", "wide", "many"] (defScope (top 40)) := ⟨rfl, rfl, rfl, by decide +kernel, rfl, by decide +kernel, by decide +kernel⟩
theorem ok_L_rw_drawn {f : Addr} {fd : FuncData} (T : Glb mg) (F : Fun K "_law_rw_drawn" "_law_rw_drawn" (top 40) f fd) (hm : mg "_law_rw_drawn" = some (.ref f)) (hb : Binds K fd ["dice", "wide", "many"] []) (h_L_roll : FnD P w K mg base "_law_roll" 1 2 F_L_roll) (h_L_pick : FnD P w K mg base "_law_pick" 2 2 F_L_pick) (h_L_summed : FnD P w K mg base "_law_summed" 1 3 F_L_summed) : FnD P w K mg base "_law_rw_drawn" 3 3 F_L_rw_drawn := by
  refine fnD (k := 2) F hm hb sc_L_rw_drawn F_L_rw_drawn fun cdv A outer s H E hr hgu ds μ hl hG => ⟨b_L_rw_drawn, ?_, rfl⟩
  have hu := room_u hr
  exact (sd_cons (sd_asgO (fun te h => ps_set (i := 3) sc_L_rw_drawn.nd rfl (by first | exact Or.inl rfl | exact Or.inr rfl) h) (pf_lst pa_n))
    (sd_cons (sd_for (passes_of rfl) rfl (id_rng1 (by rfl) T.b_range (pa_c (pd_var 2 (pv 2)) pa_n)) (gd_name (pg_name (i := 4) sc_L_rw_drawn.nd rfl (by first | exact Or.inl rfl | exact Or.inr rfl))) (sd_cons (sd_asg (fun te h => ps_set (i := 5) sc_L_rw_drawn.nd rfl (by first | exact Or.inl rfl | exact Or.inr rfl) h) (pd_call h_L_roll (hr.mono (by decide)) hgu (by rfl) (pa_c (pd_var 0 (pv 0)) (pa_c pd_int pa_n)) (al_c (al_c al_n))))
    (sd_cons (sd_asg (fun te h => ps_set (i := 6) sc_L_rw_drawn.nd rfl (by first | exact Or.inl rfl | exact Or.inr rfl) h) (pd_ty bi_tuple (by rfl) T.b_tuple rfl (pa_c (pd_f (pf_lc (own := [("at", 7)]) rfl sc_L_rw_drawn.nd (by kernel_rfl) (id_rng1 (by rfl) T.b_range (pa_c (pd_var 1 (pv 1)) pa_n)) (fun b => (gd_name (pg_name (i := 7) sc_L_rw_drawn.nd rfl (by first | exact Or.inl rfl | exact Or.inr rfl)))) (fun b => td_nil) (fun b => (pd_call h_L_pick (hr.mono (by decide)) hgu (by rfl) (pa_c (pd_var 0 (pv 0)) (pa_c (pd_f (pf_lst (pa_c pd_int (pa_c pd_int (pa_c pd_int (pa_c (pd_neg pd_int) (pa_c pd_int (pa_c (pd_neg pd_int) (pa_c pd_int pa_n))))))))) pa_n)) (al_c (al_c al_n)))))) pa_n)))
    (sd_cons (sd_if (pt_cm (c_eqS hu) (pd_var 5 (pv 5)) pd_int) (sd_one (sd_asg (fun te h => ps_set (i := 6) sc_L_rw_drawn.nd rfl (by first | exact Or.inl rfl | exact Or.inr rfl) h) (pd_mul (pd_tup (pa_c pd_int pa_n)) (pd_var 1 (pv 1))))) (sd_one (sd_if (PWD.pt (pw_a (pt_cm c_lt (pd_var 5 (pv 5)) pd_int) (pw_a1 (pt_cm (c_neS hu) (pd_var 3 (pv 3)) (pd_f (pf_lst pa_n)))))) (sd_one (sd_asg (fun te h => ps_set (i := 6) sc_L_rw_drawn.nd rfl (by first | exact Or.inl rfl | exact Or.inr rfl) h) (pd_lend 3 (pd_call h_L_summed (hr.mono (by decide)) hgu (by rfl) (pa_c (pd_var 1 (pv 1)) (pa_c (pd_var 3 (pv 3)) (pa_c (pd_f (pf_lc (own := [("one", 8)]) rfl sc_L_rw_drawn.nd (by kernel_rfl) (id_seq (pd_var 3 (pv 3))) (fun b => (gd_name (pg_name (i := 8) sc_L_rw_drawn.nd rfl (by first | exact Or.inl rfl | exact Or.inr rfl)))) (fun b => td_nil) (fun b => (pd_sub (pd_call h_L_roll (hr.mono (by decide)) hgu (by rfl) (pa_c (pd_var 0 (pv 0)) (pa_c pd_int pa_n)) (al_c (al_c al_n))) pd_int)))) pa_n))) (al_c (al_c (al_c al_n))))))) sd_nil)))
    (sd_one (sd_drop (pd_append (pd_var 3 (pv 3)) (pa_c (pd_var 6 (pv 6)) pa_n))))))))
    (sd_one (sd_retF (pf_take 3 (pv 3))))))
theorem sc_L_dot : FnScope ["one", "other", "left", "right"] ["one", "other"] (defScope (top 34)) := ⟨rfl, rfl, rfl, by decide +kernel, rfl, by decide +kernel, by decide +kernel⟩
theorem ok_L_dot {f : Addr} {fd : FuncData} (T : Glb mg) (F : Fun K "_law_dot" "_law_dot" (top 34) f fd) (hm : mg "_law_dot" = some (.ref f)) (hb : Binds K fd ["one", "other"] []) : FnD P w K mg base "_law_dot" 1 2 F_L_dot := by
  refine fnD (k := 0) F hm hb sc_L_dot F_L_dot fun cdv A outer s H E hr hgu ds μ hl hG => ⟨b_L_dot, ?_, rfl⟩
  have hu := room_u hr
  exact (sd_one (sd_ret (pd_b (bi_sum rfl) (by rfl) T.b_sum rfl (pa_c (pd_f (pf_lc (own := [("left", 2), ("right", 3)]) rfl sc_L_dot.nd (by kernel_rfl) (id_zp (pa_c (pd_var 0 (pv 0)) (pa_c (pd_var 1 (pv 1)) pa_n)) (by rfl) T.b_zip) (fun b => (gd_tup rfl (gd_cons (gd_name (pg_name (i := 2) sc_L_dot.nd rfl (by first | exact Or.inl rfl | exact Or.inr rfl))) (gd_cons (gd_name (pg_name (i := 3) sc_L_dot.nd rfl (by first | exact Or.inl rfl | exact Or.inr rfl))) gd_nil)))) (fun b => td_nil) (fun b => (pd_mul (pd_var 2 (pv 2)) (pd_var 3 (pv 3)))))) pa_n))))
theorem sc_L_is_number : FnScope ["value"] ["value"] (defScope (top 42)) := ⟨rfl, rfl, rfl, by decide +kernel, rfl, by decide +kernel, by decide +kernel⟩
theorem ok_L_is_number {f : Addr} {fd : FuncData} (T : Glb mg) (F : Fun K "_law_is_number" "_law_is_number" (top 42) f fd) (hm : mg "_law_is_number" = some (.ref f)) (hb : Binds K fd ["value"] []) : FnD P w K mg base "_law_is_number" 1 1 F_L_is_number := by
  refine fnD (k := 0) F hm hb sc_L_is_number F_L_is_number fun cdv A outer s H E hr hgu ds μ hl hG => ⟨b_L_is_number, ?_, rfl⟩
  have hu := room_u hr
  exact (sd_one (sd_ret (pd_and (pd_b bi_isi (by rfl) T.b_isinstance rfl (pa_c (pd_var 0 (pv 0)) (pa_c (pd_bltT (by rfl) T.b_int rfl) pa_n))) (pd_one (pd_not (pd_b bi_isi (by rfl) T.b_isinstance rfl (pa_c (pd_var 0 (pv 0)) (pa_c (pd_bltT (by rfl) T.b_bool rfl) pa_n))))))))
theorem sc_L_is_row : FnScope ["wide", "value", "one"] ["wide", "value"] (defScope (top 43)) := ⟨rfl, rfl, rfl, by decide +kernel, rfl, by decide +kernel, by decide +kernel⟩
theorem ok_L_is_row {f : Addr} {fd : FuncData} (T : Glb mg) (F : Fun K "_law_is_row" "_law_is_row" (top 43) f fd) (hm : mg "_law_is_row" = some (.ref f)) (hb : Binds K fd ["wide", "value"] []) (h_L_is_number : FnD P w K mg base "_law_is_number" 1 1 F_L_is_number) : FnD P w K mg base "_law_is_row" 2 2 F_L_is_row := by
  refine fnD (k := 1) F hm hb sc_L_is_row F_L_is_row fun cdv A outer s H E hr hgu ds μ hl hG => ⟨b_L_is_row, ?_, rfl⟩
  have hu := room_u hr
  exact (sd_one (sd_ret (pd_and (pd_b bi_isi (by rfl) T.b_isinstance rfl (pa_c (pd_var 1 (pv 1)) (pa_c (pd_bltT (by rfl) T.b_tuple rfl) pa_n))) (pd_and (pd_cm (c_eqS hu) (pd_b bi_len (by rfl) T.b_len rfl (pa_c (pd_var 1 (pv 1)) pa_n)) (pd_var 0 (pv 0))) (pd_one (pd_cm (c_eqS hu) (pd_f (pf_lc (own := [("one", 2)]) rfl sc_L_is_row.nd (by kernel_rfl) (id_seq (pd_var 1 (pv 1))) (fun b => (gd_name (pg_name (i := 2) sc_L_is_row.nd rfl (by first | exact Or.inl rfl | exact Or.inr rfl)))) (fun b => (td_one (pt_nt (pt_tr (pd_call h_L_is_number (hr.mono (by decide)) hgu (by rfl) (pa_c (pd_var 2 (pv 2)) pa_n) (al_c al_n)))))) (fun b => pd_int))) (pd_f (pf_lst pa_n))))))))
theorem sc_L_is_paper : FnScope ["wide", "rows", "row", "value", "word", "times", "numbers", "one"] ["wide", "rows", "row", "value"] (defScope (top 44)) := ⟨rfl, rfl, rfl, by decide +kernel, rfl, by decide +kernel, by decide +kernel⟩
theorem ok_L_is_paper {f : Addr} {fd : FuncData} (T : Glb mg) (F : Fun K "_law_is_paper" "_law_is_paper" (top 44) f fd) (hm : mg "_law_is_paper" = some (.ref f)) (hb : Binds K fd ["wide", "rows", "row", "value"] []) (h_L_dot : FnD P w K mg base "_law_dot" 1 2 F_L_dot) (h_L_summed : FnD P w K mg base "_law_summed" 1 3 F_L_summed) (h_L_is_number : FnD P w K mg base "_law_is_number" 1 1 F_L_is_number) (h_L_is_row : FnD P w K mg base "_law_is_row" 2 2 F_L_is_row) : FnD P w K mg base "_law_is_paper" 3 4 F_L_is_paper := by
  refine fnD (k := 2) F hm hb sc_L_is_paper F_L_is_paper fun cdv A outer s H E hr hgu ds μ hl hG => ⟨b_L_is_paper, ?_, rfl⟩
  have hu := room_u hr
  exact (sd_cons (sd_if (PWD.pt (pw_o (pt_nt (pt_tr (pd_b bi_isi (by rfl) T.b_isinstance rfl (pa_c (pd_var 3 (pv 3)) (pa_c (pd_bltT (by rfl) T.b_tuple rfl) pa_n))))) (pw_o (pt_cm (c_ni hu) (pd_b bi_len (by rfl) T.b_len rfl (pa_c (pd_var 3 (pv 3)) pa_n)) (pd_tup (pa_c pd_int (pa_c pd_int pa_n)))) (pw_o1 (pt_nt (pt_tr (pd_b bi_isi (by rfl) T.b_isinstance rfl (pa_c (pd_ix (pd_var 3 (pv 3)) pd_int) (pa_c (pd_bltT (by rfl) T.b_str rfl) pa_n))))))))) (sd_one (sd_ret pd_bl)) sd_nil)
    (sd_cons (sd_if (pt_cm (c_eqS hu) (pd_b bi_len (by rfl) T.b_len rfl (pa_c (pd_var 3 (pv 3)) pa_n)) pd_int) (sd_cons (sd_if (PWD.pt (pw_o (pt_cm (c_neS hu) (pd_ix (pd_var 3 (pv 3)) pd_int) pd_str) (pw_o (pt_nt (pt_tr (pd_call h_L_is_row (hr.mono (by decide)) hgu (by rfl) (pa_c (pd_var 0 (pv 0)) (pa_c (pd_ix (pd_var 3 (pv 3)) pd_int) pa_n)) (al_c (al_c al_n))))) (pw_o1 (pt_cm (c_eqS hu) (pd_call h_L_dot (hr.mono (by decide)) hgu (by rfl) (pa_c (pd_ix (pd_var 3 (pv 3)) pd_int) (pa_c (pd_var 2 (pv 2)) pa_n)) (al_c (al_c al_n))) pd_int))))) (sd_one (sd_ret pd_bl)) sd_nil)
    (sd_one (sd_ret (pd_cm (c_eqS hu) (pd_f (pf_lc (own := [("one", 7)]) rfl sc_L_is_paper.nd (by kernel_rfl) (id_seq (pd_var 1 (pv 1))) (fun b => (gd_name (pg_name (i := 7) sc_L_is_paper.nd rfl (by first | exact Or.inl rfl | exact Or.inr rfl)))) (fun b => (td_one (pt_cm (c_neS hu) (pd_call h_L_dot (hr.mono (by decide)) hgu (by rfl) (pa_c (pd_ix (pd_var 3 (pv 3)) pd_int) (pa_c (pd_var 7 (pv 7)) pa_n)) (al_c (al_c al_n))) pd_int))) (fun b => pd_int))) (pd_f (pf_lst pa_n)))))) sd_nil)
    (sd_cons (sd_asgG (fun te t h g => ps_asg h g) (pd_var 3 (pv 3)) (gd_tup rfl (gd_cons (gd_name (pg_name (i := 4) sc_L_is_paper.nd rfl (by first | exact Or.inl rfl | exact Or.inr rfl))) (gd_cons (gd_name (pg_name (i := 5) sc_L_is_paper.nd rfl (by first | exact Or.inl rfl | exact Or.inr rfl))) (gd_cons (gd_name (pg_name (i := 6) sc_L_is_paper.nd rfl (by first | exact Or.inl rfl | exact Or.inr rfl))) gd_nil)))))
    (sd_cons (sd_if (PWD.pt (pw_o (pt_cm (c_neS hu) (pd_var 4 (pv 4)) pd_str) (pw_o (pt_nt (pt_tr (pd_call h_L_is_number (hr.mono (by decide)) hgu (by rfl) (pa_c (pd_var 5 (pv 5)) pa_n) (al_c al_n)))) (pw_o (pt_cm c_lt (pd_var 5 (pv 5)) pd_int) (pw_o1 (pt_nt (pt_tr (pd_call h_L_is_row (hr.mono (by decide)) hgu (by rfl) (pa_c (pd_b bi_len (by rfl) T.b_len rfl (pa_c (pd_var 1 (pv 1)) pa_n)) (pa_c (pd_var 6 (pv 6)) pa_n)) (al_c (al_c al_n)))))))))) (sd_one (sd_ret pd_bl)) sd_nil)
    (sd_one (sd_ret (pd_cm (c_eqS hu) (pd_call h_L_summed (hr.mono (by decide)) hgu (by rfl) (pa_c (pd_var 0 (pv 0)) (pa_c (pd_var 1 (pv 1)) (pa_c (pd_var 6 (pv 6)) pa_n))) (al_c (al_c (al_c al_n)))) (pd_ty bi_tuple (by rfl) T.b_tuple rfl (pa_c (pd_f (pf_lc (own := [("one", 7)]) rfl sc_L_is_paper.nd (by kernel_rfl) (id_seq (pd_var 2 (pv 2))) (fun b => (gd_name (pg_name (i := 7) sc_L_is_paper.nd rfl (by first | exact Or.inl rfl | exact Or.inr rfl)))) (fun b => td_nil) (fun b => (pd_mul (pd_var 5 (pv 5)) (pd_var 7 (pv 7)))))) pa_n)))))))))
theorem sc_L_apart : FnScope ["lot", "wide", "row", "leads", "found", "at", "share", "line"] ["lot", "wide"] (defScope (top 39)) := ⟨rfl, rfl, rfl, by decide +kernel, rfl, by decide +kernel, by decide +kernel⟩
theorem ok_L_apart {f : Addr} {fd : FuncData} (T : Glb mg) (F : Fun K "_law_apart" "_law_apart" (top 39) f fd) (hm : mg "_law_apart" = some (.ref f)) (hb : Binds K fd ["lot", "wide"] []) (h_L_lead : FnD P w K mg base "_law_lead" 1 1 F_L_lead) (h_L_lot : FnD P w K mg base "_law_lot" 4 1 F_L_lot) : FnD P w K mg base "_law_apart" 5 2 F_L_apart := by
  refine fnD (k := 4) F hm hb sc_L_apart F_L_apart fun cdv A outer s H E hr hgu ds μ hl hG => ⟨b_L_apart, ?_, rfl⟩
  have hu := room_u hr
  exact (sd_cons (sd_parM (fun ta h => ps_par (i := 3) (j := 4) rfl sc_L_apart.nd rfl rfl (by decide) rfl rfl h (by rfl)) (pm_v (pd_f (pf_lc (own := [("row", 2)]) rfl sc_L_apart.nd (by kernel_rfl) (id_seq (pd_var 0 (pv 0))) (fun b => (gd_name (pg_name (i := 2) sc_L_apart.nd rfl (by first | exact Or.inl rfl | exact Or.inr rfl)))) (fun b => td_nil) (fun b => (pd_call h_L_lead (hr.mono (by decide)) hgu (by rfl) (pa_c (pd_var 2 (pv 2)) pa_n) (al_c al_n))))) (pm_c (pf_lst pa_n) pm_n)))
    (sd_cons (sd_frz 4 (sd_for (passes_of rfl) rfl (id_rng1 (by rfl) T.b_range (pa_c (pd_var 1 (pv 1)) pa_n)) (gd_name (pg_name (i := 5) sc_L_apart.nd rfl (by first | exact Or.inl rfl | exact Or.inr rfl))) (sd_one (sd_if (pt_cm (c_ni hu) (pd_var 5 (pv 5)) (pd_var 3 (pv 3))) (sd_cons (sd_asg (fun te h => ps_set (i := 6) sc_L_apart.nd rfl (by first | exact Or.inl rfl | exact Or.inr rfl) h) pd_int)
    (sd_cons (sd_for (passes_of rfl) rfl (id_seq (pd_var 0 (pv 0))) (gd_name (pg_name (i := 2) sc_L_apart.nd rfl (by first | exact Or.inl rfl | exact Or.inr rfl))) (sd_one (sd_asg (fun te h => ps_set (i := 6) sc_L_apart.nd rfl (by first | exact Or.inl rfl | exact Or.inr rfl) h) (pd_mul (pd_var 6 (pv 6)) (pd_ix (pd_var 2 (pv 2)) (pd_call h_L_lead (hr.mono (by decide)) hgu (by rfl) (pa_c (pd_var 2 (pv 2)) pa_n) (al_c al_n)))))))
    (sd_cons (sd_asgO (fun te h => ps_set (i := 7) sc_L_apart.nd rfl (by first | exact Or.inl rfl | exact Or.inr rfl) h) (pf_rep (pf_lst (pa_c pd_int pa_n)) (pd_var 1 (pv 1))))
    (sd_cons (sd_setI (fun te t h g => ps_asg h g) set_list ss_list (pd_var 6 (pv 6)) (pd_var 7 (pv 7)) (pd_var 5 (pv 5)))
    (sd_cons (sd_for (passes_of rfl) rfl (id_seq (pd_var 0 (pv 0))) (gd_name (pg_name (i := 2) sc_L_apart.nd rfl (by first | exact Or.inl rfl | exact Or.inr rfl))) (sd_one (sd_setI (fun te t h g => ps_asg h g) set_list ss_list (pd_sub pd_int (pd_mul (pd_ix (pd_var 2 (pv 2)) (pd_var 5 (pv 5))) (pd_fdiv (pd_var 6 (pv 6)) (pd_ix (pd_var 2 (pv 2)) (pd_call h_L_lead (hr.mono (by decide)) hgu (by rfl) (pa_c (pd_var 2 (pv 2)) pa_n) (al_c al_n)))))) (pd_var 7 (pv 7)) (pd_call h_L_lead (hr.mono (by decide)) hgu (by rfl) (pa_c (pd_var 2 (pv 2)) pa_n) (al_c al_n)))))
    (sd_one (sd_drop (pd_append (pd_var 4 (pv 4)) (pa_c (pd_ty bi_tuple (by rfl) T.b_tuple rfl (pa_c (pd_var 7 (pv 7)) pa_n)) pa_n))))))))) sd_nil))))
    (sd_one (sd_ret (pd_call h_L_lot (hr.mono (by decide)) hgu (by rfl) (pa_c (pd_var 4 (pv 4)) pa_n) (al_c al_n))))))
theorem sc_L_own : FnScope ["dice", "wide", "rows", "row", "found", "lot", "line", "by", "numbers", "told", "times", "one"] ["dice", "wide", "rows", "row"] (defScope (top 45)) := ⟨rfl, rfl, rfl, by decide +kernel, rfl, by decide +kernel, by decide +kernel⟩
theorem ok_L_own {f : Addr} {fd : FuncData} (T : Glb mg) (F : Fun K "_law_own" "_law_own" (top 45) f fd) (hm : mg "_law_own" = some (.ref f)) (hb : Binds K fd ["dice", "wide", "rows", "row"] []) (h_L_roll : FnD P w K mg base "_law_roll" 1 2 F_L_roll) (h_L_pick : FnD P w K mg base "_law_pick" 2 2 F_L_pick) (h_L_lot : FnD P w K mg base "_law_lot" 4 1 F_L_lot) (h_L_apart : FnD P w K mg base "_law_apart" 5 2 F_L_apart) (h_L_summed : FnD P w K mg base "_law_summed" 1 3 F_L_summed) : FnD P w K mg base "_law_own" 6 4 F_L_own := by
  refine fnD (k := 5) F hm hb sc_L_own F_L_own fun cdv A outer s H E hr hgu ds μ hl hG => ⟨b_L_own, ?_, rfl⟩
  have hu := room_u hr
  exact (sd_cons (sd_parM (fun ta h => ps_par (i := 4) (j := 5) rfl sc_L_own.nd rfl rfl (by decide) rfl rfl h (by rfl)) (pm_c (pf_lst pa_n) (pm_v (pd_call h_L_lot (hr.mono (by decide)) hgu (by rfl) (pa_c (pd_var 2 (pv 2)) pa_n) (al_c al_n)) pm_n)))
    (sd_cons (sd_for (passes_of rfl) rfl (id_seq (pd_call h_L_apart (hr.mono (by decide)) hgu (by rfl) (pa_c (pd_var 5 (pv 5)) (pa_c (pd_var 1 (pv 1)) pa_n)) (al_c (al_c al_n)))) (gd_name (pg_name (i := 6) sc_L_own.nd rfl (by first | exact Or.inl rfl | exact Or.inr rfl))) (sd_cons (sd_asg (fun te h => ps_set (i := 7) sc_L_own.nd rfl (by first | exact Or.inl rfl | exact Or.inr rfl) h) (pd_call h_L_pick (hr.mono (by decide)) hgu (by rfl) (pa_c (pd_var 0 (pv 0)) (pa_c (pd_f (pf_lst (pa_c pd_int (pa_c (pd_neg pd_int) (pa_c (pd_pow pd_int pd_int) pa_n))))) pa_n)) (al_c (al_c al_n))))
    (sd_one (sd_drop (pd_append (pd_var 4 (pv 4)) (pa_c (pd_tup (pa_c pd_str (pa_c (pd_ty bi_tuple (by rfl) T.b_tuple rfl (pa_c (pd_f (pf_lc (own := [("one", 11)]) rfl sc_L_own.nd (by kernel_rfl) (id_seq (pd_var 6 (pv 6))) (fun b => (gd_name (pg_name (i := 11) sc_L_own.nd rfl (by first | exact Or.inl rfl | exact Or.inr rfl)))) (fun b => td_nil) (fun b => (pd_mul (pd_var 7 (pv 7)) (pd_var 11 (pv 11)))))) pa_n)) pa_n))) pa_n))))))
    (sd_cons (sd_asg (fun te h => ps_set (i := 8) sc_L_own.nd rfl (by first | exact Or.inl rfl | exact Or.inr rfl) h) (pd_ty bi_tuple (by rfl) T.b_tuple rfl (pa_c (pd_f (pf_lc (own := [("one", 11)]) rfl sc_L_own.nd (by kernel_rfl) (id_seq (pd_var 2 (pv 2))) (fun b => (gd_name (pg_name (i := 11) sc_L_own.nd rfl (by first | exact Or.inl rfl | exact Or.inr rfl)))) (fun b => td_nil) (fun b => (pd_sub (pd_call h_L_roll (hr.mono (by decide)) hgu (by rfl) (pa_c (pd_var 0 (pv 0)) (pa_c pd_int pa_n)) (al_c (al_c al_n))) pd_int)))) pa_n)))
    (sd_cons (sd_drop (pd_append (pd_var 4 (pv 4)) (pa_c (pd_tup (pa_c pd_str (pa_c pd_int (pa_c (pd_var 8 (pv 8)) pa_n)))) pa_n)))
    (sd_cons (sd_asg (fun te h => ps_set (i := 9) sc_L_own.nd rfl (by first | exact Or.inl rfl | exact Or.inr rfl) h) (pd_call h_L_summed (hr.mono (by decide)) hgu (by rfl) (pa_c (pd_var 1 (pv 1)) (pa_c (pd_var 2 (pv 2)) (pa_c (pd_var 8 (pv 8)) pa_n))) (al_c (al_c (al_c al_n)))))
    (sd_cons (sd_for (passes_of rfl) rfl (id_seq (pd_tup (pa_c pd_int (pa_c pd_int (pa_c (pd_pow pd_int pd_int) pa_n))))) (gd_name (pg_name (i := 10) sc_L_own.nd rfl (by first | exact Or.inl rfl | exact Or.inr rfl))) (sd_cons (sd_drop (pd_append (pd_var 4 (pv 4)) (pa_c (pd_tup (pa_c pd_str (pa_c (pd_var 10 (pv 10)) (pa_c (pd_ty bi_tuple (by rfl) T.b_tuple rfl (pa_c (pd_f (pf_lc (own := [("one", 11)]) rfl sc_L_own.nd (by kernel_rfl) (id_seq (pd_var 8 (pv 8))) (fun b => (gd_name (pg_name (i := 11) sc_L_own.nd rfl (by first | exact Or.inl rfl | exact Or.inr rfl)))) (fun b => td_nil) (fun b => (pd_mul (pd_var 10 (pv 10)) (pd_var 11 (pv 11)))))) pa_n)) pa_n)))) pa_n)))
    (sd_one (sd_if (pt_cm (c_eqS hu) (pd_var 9 (pv 9)) (pd_var 3 (pv 3))) (sd_one (sd_drop (pd_append (pd_var 4 (pv 4)) (pa_c (pd_tup (pa_c pd_str (pa_c (pd_mul pd_int (pd_var 10 (pv 10))) (pa_c (pd_ty bi_tuple (by rfl) T.b_tuple rfl (pa_c (pd_f (pf_lc (own := [("one", 11)]) rfl sc_L_own.nd (by kernel_rfl) (id_seq (pd_var 8 (pv 8))) (fun b => (gd_name (pg_name (i := 11) sc_L_own.nd rfl (by first | exact Or.inl rfl | exact Or.inr rfl)))) (fun b => td_nil) (fun b => (pd_mul (pd_mul pd_int (pd_var 10 (pv 10))) (pd_var 11 (pv 11)))))) pa_n)) pa_n)))) pa_n)))) sd_nil))))
    (sd_one (sd_retF (pf_take 4 (pv 4))))))))))
theorem sc_L_near : FnScope ["dice", "wide", "paper", "some", "line", "at", "word", "times", "numbers", "one"] ["dice", "wide", "paper"] (defScope (top 46)) := ⟨rfl, rfl, rfl, by decide +kernel, rfl, by decide +kernel, by decide +kernel⟩
theorem ok_L_near {f : Addr} {fd : FuncData} (T : Glb mg) (F : Fun K "_law_near" "_law_near" (top 46) f fd) (hm : mg "_law_near" = some (.ref f)) (hb : Binds K fd ["dice", "wide", "paper"] []) (h_L_roll : FnD P w K mg base "_law_roll" 1 2 F_L_roll) : FnD P w K mg base "_law_near" 2 3 F_L_near := by
  refine fnD (k := 1) F hm hb sc_L_near F_L_near fun cdv A outer s H E hr hgu ds μ hl hG => ⟨b_L_near, ?_, rfl⟩
  have hu := room_u hr
  exact (sd_cons (sd_asgO (fun te h => ps_set (i := 3) sc_L_near.nd rfl (by first | exact Or.inl rfl | exact Or.inr rfl) h) (pf_lst (pa_c pd_non (pa_c (pd_tup pa_n) (pa_c (pd_f (pf_ty bif_list (by rfl) T.b_list rfl (pa_c (pd_var 2 (pv 2)) pa_n))) (pa_c (pd_add (pd_var 2 (pv 2)) (pd_tup (pa_c pd_int pa_n))) (pa_c (pd_rev (pd_var 2 (pv 2))) (pa_c (pd_sl (pd_var 2 (pv 2)) (po_s pd_int) po_n) (pa_c (pd_tup (pa_c pd_str (pa_c pd_int (pa_c (pd_mul (pd_tup (pa_c pd_int pa_n)) pd_int) pa_n)))) (pa_c (pd_tup (pa_c pd_str (pa_c (pd_mul (pd_tup (pa_c pd_int pa_n)) (pd_var 1 (pv 1))) pa_n))) pa_n))))))))))
    (sd_cons (sd_if (pt_cm (c_eqS hu) (pd_ix (pd_var 2 (pv 2)) pd_int) pd_str) (sd_cons (sd_asg (fun te h => ps_set (i := 4) sc_L_near.nd rfl (by first | exact Or.inl rfl | exact Or.inr rfl) h) (pd_ix (pd_var 2 (pv 2)) pd_int))
    (sd_cons (sd_asg (fun te h => ps_set (i := 5) sc_L_near.nd rfl (by first | exact Or.inl rfl | exact Or.inr rfl) h) (pd_call h_L_roll (hr.mono (by decide)) hgu (by rfl) (pa_c (pd_var 0 (pv 0)) (pa_c (pd_var 1 (pv 1)) pa_n)) (al_c (al_c al_n))))
    (sd_cons (sd_asgO (fun te h => ps_set (i := 3) sc_L_near.nd rfl (by first | exact Or.inl rfl | exact Or.inr rfl) h) (pf_cat (pd_var 3 (pv 3)) (pd_f (pf_lst (pa_c (pd_tup (pa_c pd_str (pa_c (pd_add (pd_add (pd_sl (pd_var 4 (pv 4)) po_n (po_s (pd_var 5 (pv 5)))) (pd_tup (pa_c (pd_add (pd_ix (pd_var 4 (pv 4)) (pd_var 5 (pv 5))) pd_int) pa_n))) (pd_sl (pd_var 4 (pv 4)) (po_s (pd_add (pd_var 5 (pv 5)) pd_int)) po_n)) pa_n))) (pa_c (pd_tup (pa_c pd_str (pa_c (pd_f (pf_ty bif_list (by rfl) T.b_list rfl (pa_c (pd_var 4 (pv 4)) pa_n))) pa_n))) (pa_c (pd_tup (pa_c pd_str (pa_c (pd_add (pd_var 4 (pv 4)) (pd_tup (pa_c pd_int pa_n))) pa_n))) pa_n)))))))
    (sd_one (sd_ret (pd_add (pd_var 3 (pv 3)) (pd_f (pf_lst (pa_c (pd_tup (pa_c pd_str (pa_c (pd_add (pd_add (pd_sl (pd_var 4 (pv 4)) po_n (po_s (pd_var 5 (pv 5)))) (pd_tup (pa_c pd_bl pa_n))) (pd_sl (pd_var 4 (pv 4)) (po_s (pd_add (pd_var 5 (pv 5)) pd_int)) po_n)) pa_n))) (pa_c (pd_add (pd_tup (pa_c pd_str pa_n)) (pd_sl (pd_var 2 (pv 2)) (po_s pd_int) po_n)) (pa_c (pd_tup (pa_c pd_str (pa_c pd_non pa_n))) pa_n))))))))))) sd_nil)
    (sd_cons (sd_asgG (fun te t h g => ps_asg h g) (pd_var 2 (pv 2)) (gd_tup rfl (gd_cons (gd_name (pg_name (i := 6) sc_L_near.nd rfl (by first | exact Or.inl rfl | exact Or.inr rfl))) (gd_cons (gd_name (pg_name (i := 7) sc_L_near.nd rfl (by first | exact Or.inl rfl | exact Or.inr rfl))) (gd_cons (gd_name (pg_name (i := 8) sc_L_near.nd rfl (by first | exact Or.inl rfl | exact Or.inr rfl))) gd_nil)))))
    (sd_cons (sd_asgO (fun te h => ps_set (i := 3) sc_L_near.nd rfl (by first | exact Or.inl rfl | exact Or.inr rfl) h) (pf_cat (pd_var 3 (pv 3)) (pd_f (pf_lst (pa_c (pd_tup (pa_c pd_str (pa_c (pd_sub pd_int (pd_var 7 (pv 7))) (pa_c (pd_var 8 (pv 8)) pa_n)))) (pa_c (pd_tup (pa_c pd_str (pa_c pd_int (pa_c (pd_var 8 (pv 8)) pa_n)))) (pa_c (pd_tup (pa_c pd_str (pa_c (pd_add (pd_var 7 (pv 7)) pd_int) (pa_c (pd_var 8 (pv 8)) pa_n)))) (pa_c (pd_tup (pa_c pd_str (pa_c (pd_var 8 (pv 8)) pa_n))) pa_n))))))))
    (sd_cons (sd_asgO (fun te h => ps_set (i := 3) sc_L_near.nd rfl (by first | exact Or.inl rfl | exact Or.inr rfl) h) (pf_cat (pd_var 3 (pv 3)) (pd_f (pf_lst (pa_c (pd_tup (pa_c pd_str (pa_c (pd_var 7 (pv 7)) (pa_c (pd_f (pf_ty bif_list (by rfl) T.b_list rfl (pa_c (pd_var 8 (pv 8)) pa_n))) pa_n)))) (pa_c (pd_tup (pa_c pd_str (pa_c (pd_var 7 (pv 7)) (pa_c (pd_add (pd_var 8 (pv 8)) (pd_tup (pa_c pd_int pa_n))) pa_n)))) (pa_c (pd_tup (pa_c pd_str (pa_c pd_bl (pa_c (pd_var 8 (pv 8)) pa_n)))) pa_n)))))))
    (sd_cons (sd_if (pt_cm (c_neS hu) (pd_var 8 (pv 8)) (pd_tup pa_n)) (sd_cons (sd_asg (fun te h => ps_set (i := 5) sc_L_near.nd rfl (by first | exact Or.inl rfl | exact Or.inr rfl) h) (pd_call h_L_roll (hr.mono (by decide)) hgu (by rfl) (pa_c (pd_var 0 (pv 0)) (pa_c (pd_b bi_len (by rfl) T.b_len rfl (pa_c (pd_var 8 (pv 8)) pa_n)) pa_n)) (al_c (al_c al_n))))
    (sd_cons (sd_drop (pd_append (pd_var 3 (pv 3)) (pa_c (pd_tup (pa_c pd_str (pa_c (pd_var 7 (pv 7)) (pa_c (pd_add (pd_add (pd_sl (pd_var 8 (pv 8)) po_n (po_s (pd_var 5 (pv 5)))) (pd_tup (pa_c (pd_add (pd_ix (pd_var 8 (pv 8)) (pd_var 5 (pv 5))) pd_int) pa_n))) (pd_sl (pd_var 8 (pv 8)) (po_s (pd_add (pd_var 5 (pv 5)) pd_int)) po_n)) pa_n)))) pa_n)))
    (sd_one (sd_drop (pd_append (pd_var 3 (pv 3)) (pa_c (pd_tup (pa_c pd_str (pa_c (pd_var 7 (pv 7)) (pa_c (pd_ty bi_tuple (by rfl) T.b_tuple rfl (pa_c (pd_f (pf_lc (own := [("one", 9)]) rfl sc_L_near.nd (by kernel_rfl) (id_seq (pd_var 8 (pv 8))) (fun b => (gd_name (pg_name (i := 9) sc_L_near.nd rfl (by first | exact Or.inl rfl | exact Or.inr rfl)))) (fun b => td_nil) (fun b => (pd_sub pd_int (pd_var 9 (pv 9)))))) pa_n)) pa_n)))) pa_n)))))) sd_nil)
    (sd_one (sd_ret (pd_f (pf_take 3 (pv 3)))))))))))
theorem sc_L_right : FnScope ["dice", "wide", "rows", "row", "lot", "told", "value", "one"] ["dice", "wide"] (defScope (top 47)) := ⟨rfl, rfl, rfl, by decide +kernel, rfl, by decide +kernel, by decide +kernel⟩
theorem ok_L_right {f : Addr} {fd : FuncData} (T : Glb mg) (F : Fun K "_law_right" "_law_right" (top 47) f fd) (hm : mg "_law_right" = some (.ref f)) (hb : Binds K fd ["dice", "wide"] []) (h_span_paper : FnD P w K mg base "span_paper" 7 3 F_span_paper) (h_is_span_paper : FnD P w K mg base "is_span_paper" 4 4 F_is_span_paper) (h_L_roll : FnD P w K mg base "_law_roll" 1 2 F_L_roll) (h_L_pick : FnD P w K mg base "_law_pick" 2 2 F_L_pick) (h_L_lot : FnD P w K mg base "_law_lot" 4 1 F_L_lot) (h_L_holds : FnD P w K mg base "_law_holds" 3 2 F_L_holds) (h_L_rw_drawn : FnD P w K mg base "_law_rw_drawn" 3 3 F_L_rw_drawn) (h_L_summed : FnD P w K mg base "_law_summed" 1 3 F_L_summed) (h_L_is_paper : FnD P w K mg base "_law_is_paper" 3 4 F_L_is_paper) (h_L_own : FnD P w K mg base "_law_own" 6 4 F_L_own) (h_L_near : FnD P w K mg base "_law_near" 2 3 F_L_near) : FnD P w K mg base "_law_right" 8 2 F_L_right := by
  refine fnD (k := 7) F hm hb sc_L_right F_L_right fun cdv A outer s H E hr hgu ds μ hl hG => ⟨b_L_right, ?_, rfl⟩
  have hu := room_u hr
  exact (sd_cons (sd_asg (fun te h => ps_set (i := 2) sc_L_right.nd rfl (by first | exact Or.inl rfl | exact Or.inr rfl) h) (pd_f (pf_call h_L_rw_drawn (hr.mono (by decide)) hgu (by rfl) (pa_c (pd_var 0 (pv 0)) (pa_c (pd_var 1 (pv 1)) (pa_c (pd_call h_L_roll (hr.mono (by decide)) hgu (by rfl) (pa_c (pd_var 0 (pv 0)) (pa_c (pd_add (pd_var 1 (pv 1)) pd_int) pa_n)) (al_c (al_c al_n))) pa_n))) (al_c (al_c (al_c al_n))))))
    (sd_cons (sd_asg (fun te h => ps_set (i := 3) sc_L_right.nd rfl (by first | exact Or.inl rfl | exact Or.inr rfl) h) (pd_call h_L_pick (hr.mono (by decide)) hgu (by rfl) (pa_c (pd_var 0 (pv 0)) (pa_c (pd_add (pd_f (pf_call h_L_rw_drawn (hr.mono (by decide)) hgu (by rfl) (pa_c (pd_var 0 (pv 0)) (pa_c (pd_var 1 (pv 1)) (pa_c pd_int pa_n))) (al_c (al_c (al_c al_n))))) (pd_f (pf_lst (pa_c (pd_call h_L_summed (hr.mono (by decide)) hgu (by rfl) (pa_c (pd_var 1 (pv 1)) (pa_c (pd_var 2 (pv 2)) (pa_c (pd_f (pf_lc (own := [("one", 7)]) rfl sc_L_right.nd (by kernel_rfl) (id_seq (pd_var 2 (pv 2))) (fun b => (gd_name (pg_name (i := 7) sc_L_right.nd rfl (by first | exact Or.inl rfl | exact Or.inr rfl)))) (fun b => td_nil) (fun b => (pd_sub (pd_call h_L_roll (hr.mono (by decide)) hgu (by rfl) (pa_c (pd_var 0 (pv 0)) (pa_c pd_int pa_n)) (al_c (al_c al_n))) pd_int)))) pa_n))) (al_c (al_c (al_c al_n)))) pa_n)))) pa_n)) (al_c (al_c al_n))))
    (sd_cons (sd_asg (fun te h => ps_set (i := 4) sc_L_right.nd rfl (by first | exact Or.inl rfl | exact Or.inr rfl) h) (pd_ty bi_tuple (by rfl) T.b_tuple rfl (pa_c (pd_var 2 (pv 2)) pa_n)))
    (sd_cons (sd_asg (fun te h => ps_set (i := 5) sc_L_right.nd rfl (by first | exact Or.inl rfl | exact Or.inr rfl) h) (pd_call h_span_paper (hr.mono (by decide)) hgu (by rfl) (pa_c (pd_var 1 (pv 1)) (pa_c (pd_var 4 (pv 4)) (pa_c (pd_var 3 (pv 3)) pa_n))) (al_c (al_c (al_c al_n)))))
    (sd_cons (sd_if (PWD.pt (pw_o (pt_nt (pt_tr (pd_call h_L_is_paper (hr.mono (by decide)) hgu (by rfl) (pa_c (pd_var 1 (pv 1)) (pa_c (pd_var 4 (pv 4)) (pa_c (pd_var 3 (pv 3)) (pa_c (pd_var 5 (pv 5)) pa_n)))) (al_c (al_c (al_c (al_c al_n))))))) (pw_o1 (pt_cm (c_neS hu) (pd_cm (c_eqS hu) (pd_ix (pd_var 5 (pv 5)) pd_int) pd_str) (pd_call h_L_holds (hr.mono (by decide)) hgu (by rfl) (pa_c (pd_call h_L_lot (hr.mono (by decide)) hgu (by rfl) (pa_c (pd_var 2 (pv 2)) pa_n) (al_c al_n)) (pa_c (pd_var 3 (pv 3)) pa_n)) (al_c (al_c al_n))))))) (sd_one (sd_ret pd_bl)) sd_nil)
    (sd_cons (sd_for (passes_of rfl) rfl (id_seq (pd_add (pd_add (pd_f (pf_lst (pa_c (pd_var 5 (pv 5)) pa_n))) (pd_f (pf_call h_L_own (hr.mono (by decide)) hgu (by rfl) (pa_c (pd_var 0 (pv 0)) (pa_c (pd_var 1 (pv 1)) (pa_c (pd_var 4 (pv 4)) (pa_c (pd_var 3 (pv 3)) pa_n)))) (al_c (al_c (al_c (al_c al_n))))))) (pd_call h_L_near (hr.mono (by decide)) hgu (by rfl) (pa_c (pd_var 0 (pv 0)) (pa_c (pd_var 1 (pv 1)) (pa_c (pd_var 5 (pv 5)) pa_n))) (al_c (al_c (al_c al_n)))))) (gd_name (pg_name (i := 6) sc_L_right.nd rfl (by first | exact Or.inl rfl | exact Or.inr rfl))) (sd_one (sd_if (pt_cm (c_neS hu) (pd_b (bi_repr hgu hu) (by rfl) T.b_repr rfl (pa_c (pd_call h_is_span_paper (hr.mono (by decide)) hgu (by rfl) (pa_c (pd_var 1 (pv 1)) (pa_c (pd_var 4 (pv 4)) (pa_c (pd_var 3 (pv 3)) (pa_c (pd_var 6 (pv 6)) pa_n)))) (al_c (al_c (al_c (al_c al_n))))) pa_n)) (pd_b (bi_repr hgu hu) (by rfl) T.b_repr rfl (pa_c (pd_call h_L_is_paper (hr.mono (by decide)) hgu (by rfl) (pa_c (pd_var 1 (pv 1)) (pa_c (pd_var 4 (pv 4)) (pa_c (pd_var 3 (pv 3)) (pa_c (pd_var 6 (pv 6)) pa_n)))) (al_c (al_c (al_c (al_c al_n))))) pa_n))) (sd_one (sd_ret pd_bl)) sd_nil)))
    (sd_one (sd_ret pd_bl))))))))
theorem sc_law : FnScope ["script", "spot", "dice", "turn", "told"] ["script"] (defScope (top 48)) := ⟨rfl, rfl, rfl, by decide +kernel, rfl, by decide +kernel, by decide +kernel⟩
theorem ok_law {f : Addr} {fd : FuncData} (T : Glb mg) (F : Fun K "law" "law" (top 48) f fd) (hm : mg "law" = some (.ref f)) (hb : Binds K fd ["script"] []) (h_span_paper : FnD P w K mg base "span_paper" 7 3 F_span_paper) (h_L_dice : FnD P w K mg base "_law_dice" 1 2 F_L_dice) (h_L_roll : FnD P w K mg base "_law_roll" 1 2 F_L_roll) (h_L_right : FnD P w K mg base "_law_right" 8 2 F_L_right) : FnD P w K mg base "law" 9 1 F_law := by
  refine fnD (k := 8) F hm hb sc_law F_law fun cdv A outer s H E hr hgu ds μ hl hG => ⟨b_law, ?_, rfl⟩
  have hu := room_u hr
  exact (sd_cons (sd_for (passes_of rfl) rfl (id_rng1 (by rfl) T.b_range (pa_c (pd_b (bi_max2 rfl) (by rfl) T.b_max rfl (pa_c pd_int (pa_c (pd_b (bi_min2 rfl) (by rfl) T.b_min rfl (pa_c pd_int (pa_c (pd_b bi_len (by rfl) T.b_len rfl (pa_c (pd_var 0 (pv 0)) pa_n)) pa_n))) pa_n))) pa_n)) (gd_name (pg_name (i := 1) sc_law.nd rfl (by first | exact Or.inl rfl | exact Or.inr rfl))) (sd_cons (sd_asgR (fun te h => ps_set (i := 2) sc_law.nd rfl (by first | exact Or.inl rfl | exact Or.inr rfl) h) (pf_call h_L_dice (hr.mono (by decide)) hgu (by rfl) (pa_c (pd_var 0 (pv 0)) (pa_c (pd_var 1 (pv 1)) pa_n)) (al_c (al_c al_n))))
    (sd_one (sd_for (passes_of rfl) rfl (id_rng1 (by rfl) T.b_range (pa_c pd_int pa_n)) (gd_name (pg_name (i := 3) sc_law.nd rfl (by first | exact Or.inl rfl | exact Or.inr rfl))) (sd_one (sd_if (pt_nt (pt_tr (pd_call h_L_right (hr.mono (by decide)) hgu (by rfl) (pa_c (pd_var 2 (pv 2)) (pa_c (pd_add pd_int (pd_call h_L_roll (hr.mono (by decide)) hgu (by rfl) (pa_c (pd_var 2 (pv 2)) (pa_c pd_int pa_n)) (al_c (al_c al_n)))) pa_n)) (al_c (al_c al_n))))) (sd_one (sd_ret pd_bl)) sd_nil))))))
    (sd_cons (sd_asg (fun te h => ps_set (i := 4) sc_law.nd rfl (by first | exact Or.inl rfl | exact Or.inr rfl) h) (pd_f (pf_lst (pa_c (pd_sl (pd_call h_span_paper (hr.mono (by decide)) hgu (by rfl) (pa_c pd_int (pa_c (pd_tup pa_n) (pa_c (pd_tup (pa_c pd_int (pa_c pd_int pa_n))) pa_n))) (al_c (al_c (al_c al_n)))) po_n (po_s pd_int)) (pa_c (pd_ix (pd_call h_span_paper (hr.mono (by decide)) hgu (by rfl) (pa_c pd_int (pa_c (pd_tup pa_n) (pa_c (pd_tup (pa_c pd_int (pa_c pd_int pa_n))) pa_n))) (al_c (al_c (al_c al_n)))) pd_int) (pa_c (pd_ix (pd_call h_span_paper (hr.mono (by decide)) hgu (by rfl) (pa_c pd_int (pa_c (pd_tup (pa_c (pd_tup (pa_c pd_int (pa_c pd_int pa_n))) pa_n)) (pa_c (pd_tup (pa_c pd_int (pa_c pd_int pa_n))) pa_n))) (al_c (al_c (al_c al_n)))) pd_int) pa_n))))))
    (sd_one (sd_ret (pd_cm (c_eqS hu) (pd_var 4 (pv 4)) (pd_f (pf_lst (pa_c (pd_tup (pa_c pd_str pa_n)) (pa_c pd_str (pa_c pd_str pa_n))))))))))
end
end K12

namespace K12
open PySem PySem.Spec PyProof.Rows L2 DL
variable [DLX]
theorem all_mk {P : Program} {w : World} {K : PySem.W.Frag} {h : Heap} {mg : Str → Option Value} (X : K.In h) (G : h.Ns mainGlobals mg)
    {f0 : Addr} {od0 an0 : Option Addr} {sl0 : Array (Option Value)} {oc0 kV0 dc0 pm0 cd0 ct0 : Value}
    (a0 : PySem.W.nsIn K mainGlobals "is_integer" = some (some (.ref f0))) (l0 : K.lookup f0 = some ⟨oc0, od0, .func (PySem.W.fnOf "is_integer" "is_integer" (defArgs (top 8)) (defBody (top 8)) (defScope (top 8)) .none kV0 dc0 pm0 an0 cd0 ct0), sl0⟩) (c0 : PySem.W.codeIn K cd0 "is_integer" = true) (k0 : PySem.W.keepIn K (.ref f0) = true)
    {f1 : Addr} {od1 an1 : Option Addr} {sl1 : Array (Option Value)} {oc1 kV1 dc1 pm1 cd1 ct1 : Value}
    (a1 : PySem.W.nsIn K mainGlobals "require_width" = some (some (.ref f1))) (l1 : K.lookup f1 = some ⟨oc1, od1, .func (PySem.W.fnOf "require_width" "require_width" (defArgs (top 9)) (defBody (top 9)) (defScope (top 9)) .none kV1 dc1 pm1 an1 cd1 ct1), sl1⟩) (c1 : PySem.W.codeIn K cd1 "require_width" = true) (k1 : PySem.W.keepIn K (.ref f1) = true)
    {f2 : Addr} {od2 an2 : Option Addr} {sl2 : Array (Option Value)} {oc2 kV2 dc2 pm2 cd2 ct2 : Value}
    (a2 : PySem.W.nsIn K mainGlobals "dot" = some (some (.ref f2))) (l2 : K.lookup f2 = some ⟨oc2, od2, .func (PySem.W.fnOf "dot" "dot" (defArgs (top 14)) (defBody (top 14)) (defScope (top 14)) .none kV2 dc2 pm2 an2 cd2 ct2), sl2⟩) (c2 : PySem.W.codeIn K cd2 "dot" = true) (k2 : PySem.W.keepIn K (.ref f2) = true)
    {f3 : Addr} {od3 an3 : Option Addr} {sl3 : Array (Option Value)} {oc3 kV3 dc3 pm3 cd3 ct3 : Value}
    (a3 : PySem.W.nsIn K mainGlobals "lead_in" = some (some (.ref f3))) (l3 : K.lookup f3 = some ⟨oc3, od3, .func (PySem.W.fnOf "lead_in" "lead_in" (defArgs (top 11)) (defBody (top 11)) (defScope (top 11)) .none kV3 dc3 pm3 an3 cd3 ct3), sl3⟩) (c3 : PySem.W.codeIn K cd3 "lead_in" = true) (k3 : PySem.W.keepIn K (.ref f3) = true)
    {f4 : Addr} {od4 an4 : Option Addr} {sl4 : Array (Option Value)} {oc4 kV4 dc4 pm4 cd4 ct4 : Value}
    (a4 : PySem.W.nsIn K mainGlobals "common_share" = some (some (.ref f4))) (l4 : K.lookup f4 = some ⟨oc4, od4, .func (PySem.W.fnOf "common_share" "common_share" (defArgs (top 12)) (defBody (top 12)) (defScope (top 12)) .none kV4 dc4 pm4 an4 cd4 ct4), sl4⟩) (c4 : PySem.W.codeIn K cd4 "common_share" = true) (k4 : PySem.W.keepIn K (.ref f4) = true)
    {f5 : Addr} {od5 an5 : Option Addr} {sl5 : Array (Option Value)} {oc5 kV5 dc5 pm5 cd5 ct5 : Value}
    (a5 : PySem.W.nsIn K mainGlobals "lowest_row" = some (some (.ref f5))) (l5 : K.lookup f5 = some ⟨oc5, od5, .func (PySem.W.fnOf "lowest_row" "lowest_row" (defArgs (top 13)) (defBody (top 13)) (defScope (top 13)) .none kV5 dc5 pm5 an5 cd5 ct5), sl5⟩) (c5 : PySem.W.codeIn K cd5 "lowest_row" = true) (k5 : PySem.W.keepIn K (.ref f5) = true)
    {f6 : Addr} {od6 an6 : Option Addr} {sl6 : Array (Option Value)} {oc6 kV6 dc6 pm6 cd6 ct6 : Value}
    (a6 : PySem.W.nsIn K mainGlobals "less_by" = some (some (.ref f6))) (l6 : K.lookup f6 = some ⟨oc6, od6, .func (PySem.W.fnOf "less_by" "less_by" (defArgs (top 17)) (defBody (top 17)) (defScope (top 17)) .none kV6 dc6 pm6 an6 cd6 ct6), sl6⟩) (c6 : PySem.W.codeIn K cd6 "less_by" = true) (k6 : PySem.W.keepIn K (.ref f6) = true)
    {f7 : Addr} {od7 an7 : Option Addr} {sl7 : Array (Option Value)} {oc7 kV7 dc7 pm7 cd7 ct7 : Value}
    (a7 : PySem.W.nsIn K mainGlobals "rest_by" = some (some (.ref f7))) (l7 : K.lookup f7 = some ⟨oc7, od7, .func (PySem.W.fnOf "rest_by" "rest_by" (defArgs (top 18)) (defBody (top 18)) (defScope (top 18)) .none kV7 dc7 pm7 an7 cd7 ct7), sl7⟩) (c7 : PySem.W.codeIn K cd7 "rest_by" = true) (k7 : PySem.W.keepIn K (.ref f7) = true)
    {f8 : Addr} {od8 an8 : Option Addr} {sl8 : Array (Option Value)} {oc8 kV8 dc8 pm8 cd8 ct8 : Value}
    (a8 : PySem.W.nsIn K mainGlobals "with_row" = some (some (.ref f8))) (l8 : K.lookup f8 = some ⟨oc8, od8, .func (PySem.W.fnOf "with_row" "with_row" (defArgs (top 19)) (defBody (top 19)) (defScope (top 19)) .none kV8 dc8 pm8 an8 cd8 ct8), sl8⟩) (c8 : PySem.W.codeIn K cd8 "with_row" = true) (k8 : PySem.W.keepIn K (.ref f8) = true)
    {f9 : Addr} {od9 an9 : Option Addr} {sl9 : Array (Option Value)} {oc9 kV9 dc9 pm9 cd9 ct9 : Value}
    (a9 : PySem.W.nsIn K mainGlobals "lot_in" = some (some (.ref f9))) (l9 : K.lookup f9 = some ⟨oc9, od9, .func (PySem.W.fnOf "lot_in" "lot_in" (defArgs (top 20)) (defBody (top 20)) (defScope (top 20)) .none kV9 dc9 pm9 an9 cd9 ct9), sl9⟩) (c9 : PySem.W.codeIn K cd9 "lot_in" = true) (k9 : PySem.W.keepIn K (.ref f9) = true)
    {f10 : Addr} {od10 an10 : Option Addr} {sl10 : Array (Option Value)} {oc10 kV10 dc10 pm10 cd10 ct10 : Value}
    (a10 : PySem.W.nsIn K mainGlobals "apart_in" = some (some (.ref f10))) (l10 : K.lookup f10 = some ⟨oc10, od10, .func (PySem.W.fnOf "apart_in" "apart_in" (defArgs (top 21)) (defBody (top 21)) (defScope (top 21)) .none kV10 dc10 pm10 an10 cd10 ct10), sl10⟩) (c10 : PySem.W.codeIn K cd10 "apart_in" = true) (k10 : PySem.W.keepIn K (.ref f10) = true)
    {f11 : Addr} {od11 an11 : Option Addr} {sl11 : Array (Option Value)} {oc11 kV11 dc11 pm11 cd11 ct11 : Value}
    (a11 : PySem.W.nsIn K mainGlobals "is_plain_row" = some (some (.ref f11))) (l11 : K.lookup f11 = some ⟨oc11, od11, .func (PySem.W.fnOf "is_plain_row" "is_plain_row" (defArgs (top 10)) (defBody (top 10)) (defScope (top 10)) .none kV11 dc11 pm11 an11 cd11 ct11), sl11⟩) (c11 : PySem.W.codeIn K cd11 "is_plain_row" = true) (k11 : PySem.W.keepIn K (.ref f11) = true)
    {f12 : Addr} {od12 an12 : Option Addr} {sl12 : Array (Option Value)} {oc12 kV12 dc12 pm12 cd12 ct12 : Value}
    (a12 : PySem.W.nsIn K mainGlobals "require_row" = some (some (.ref f12))) (l12 : K.lookup f12 = some ⟨oc12, od12, .func (PySem.W.fnOf "require_row" "require_row" (defArgs (top 22)) (defBody (top 22)) (defScope (top 22)) .none kV12 dc12 pm12 an12 cd12 ct12), sl12⟩) (c12 : PySem.W.codeIn K cd12 "require_row" = true) (k12 : PySem.W.keepIn K (.ref f12) = true)
    {f13 : Addr} {od13 an13 : Option Addr} {sl13 : Array (Option Value)} {oc13 kV13 dc13 pm13 cd13 ct13 : Value}
    (a13 : PySem.W.nsIn K mainGlobals "require_rows" = some (some (.ref f13))) (l13 : K.lookup f13 = some ⟨oc13, od13, .func (PySem.W.fnOf "require_rows" "require_rows" (defArgs (top 23)) (defBody (top 23)) (defScope (top 23)) .none kV13 dc13 pm13 an13 cd13 ct13), sl13⟩) (c13 : PySem.W.codeIn K cd13 "require_rows" = true) (k13 : PySem.W.keepIn K (.ref f13) = true)
    {f14 : Addr} {od14 an14 : Option Addr} {sl14 : Array (Option Value)} {oc14 kV14 dc14 pm14 cd14 ct14 : Value}
    (a14 : PySem.W.nsIn K mainGlobals "sum_in" = some (some (.ref f14))) (l14 : K.lookup f14 = some ⟨oc14, od14, .func (PySem.W.fnOf "sum_in" "sum_in" (defArgs (top 24)) (defBody (top 24)) (defScope (top 24)) .none kV14 dc14 pm14 an14 cd14 ct14), sl14⟩) (c14 : PySem.W.codeIn K cd14 "sum_in" = true) (k14 : PySem.W.keepIn K (.ref f14) = true)
    {f15 : Addr} {od15 an15 : Option Addr} {sl15 : Array (Option Value)} {oc15 kV15 dc15 pm15 cd15 ct15 : Value}
    (a15 : PySem.W.nsIn K mainGlobals "span_paper" = some (some (.ref f15))) (l15 : K.lookup f15 = some ⟨oc15, od15, .func (PySem.W.fnOf "span_paper" "span_paper" (defArgs (top 25)) (defBody (top 25)) (defScope (top 25)) .none kV15 dc15 pm15 an15 cd15 ct15), sl15⟩) (c15 : PySem.W.codeIn K cd15 "span_paper" = true) (k15 : PySem.W.keepIn K (.ref f15) = true)
    {f16 : Addr} {od16 an16 : Option Addr} {sl16 : Array (Option Value)} {oc16 kV16 dc16 pm16 cd16 ct16 : Value}
    (a16 : PySem.W.nsIn K mainGlobals "_law_dice" = some (some (.ref f16))) (l16 : K.lookup f16 = some ⟨oc16, od16, .func (PySem.W.fnOf "_law_dice" "_law_dice" (defArgs (top 28)) (defBody (top 28)) (defScope (top 28)) .none kV16 dc16 pm16 an16 cd16 ct16), sl16⟩) (c16 : PySem.W.codeIn K cd16 "_law_dice" = true) (k16 : PySem.W.keepIn K (.ref f16) = true)
    {f17 : Addr} {od17 an17 : Option Addr} {sl17 : Array (Option Value)} {oc17 kV17 dc17 pm17 cd17 ct17 : Value}
    (a17 : PySem.W.nsIn K mainGlobals "_law_roll" = some (some (.ref f17))) (l17 : K.lookup f17 = some ⟨oc17, od17, .func (PySem.W.fnOf "_law_roll" "_law_roll" (defArgs (top 29)) (defBody (top 29)) (defScope (top 29)) .none kV17 dc17 pm17 an17 cd17 ct17), sl17⟩) (c17 : PySem.W.codeIn K cd17 "_law_roll" = true) (k17 : PySem.W.keepIn K (.ref f17) = true)
    {f18 : Addr} {od18 an18 : Option Addr} {sl18 : Array (Option Value)} {oc18 kV18 dc18 pm18 cd18 ct18 : Value}
    (a18 : PySem.W.nsIn K mainGlobals "sum_of_rows" = some (some (.ref f18))) (l18 : K.lookup f18 = some ⟨oc18, od18, .func (PySem.W.fnOf "sum_of_rows" "sum_of_rows" (defArgs (top 15)) (defBody (top 15)) (defScope (top 15)) .none kV18 dc18 pm18 an18 cd18 ct18), sl18⟩) (c18 : PySem.W.codeIn K cd18 "sum_of_rows" = true) (k18 : PySem.W.keepIn K (.ref f18) = true)
    {f19 : Addr} {od19 an19 : Option Addr} {sl19 : Array (Option Value)} {oc19 kV19 dc19 pm19 cd19 ct19 : Value}
    (a19 : PySem.W.nsIn K mainGlobals "times_row" = some (some (.ref f19))) (l19 : K.lookup f19 = some ⟨oc19, od19, .func (PySem.W.fnOf "times_row" "times_row" (defArgs (top 16)) (defBody (top 16)) (defScope (top 16)) .none kV19 dc19 pm19 an19 cd19 ct19), sl19⟩) (c19 : PySem.W.codeIn K cd19 "times_row" = true) (k19 : PySem.W.keepIn K (.ref f19) = true)
    {f20 : Addr} {od20 an20 : Option Addr} {sl20 : Array (Option Value)} {oc20 kV20 dc20 pm20 cd20 ct20 : Value}
    (a20 : PySem.W.nsIn K mainGlobals "is_span_paper" = some (some (.ref f20))) (l20 : K.lookup f20 = some ⟨oc20, od20, .func (PySem.W.fnOf "is_span_paper" "is_span_paper" (defArgs (top 26)) (defBody (top 26)) (defScope (top 26)) .none kV20 dc20 pm20 an20 cd20 ct20), sl20⟩) (c20 : PySem.W.codeIn K cd20 "is_span_paper" = true) (k20 : PySem.W.keepIn K (.ref f20) = true)
    {f21 : Addr} {od21 an21 : Option Addr} {sl21 : Array (Option Value)} {oc21 kV21 dc21 pm21 cd21 ct21 : Value}
    (a21 : PySem.W.nsIn K mainGlobals "_law_pick" = some (some (.ref f21))) (l21 : K.lookup f21 = some ⟨oc21, od21, .func (PySem.W.fnOf "_law_pick" "_law_pick" (defArgs (top 30)) (defBody (top 30)) (defScope (top 30)) .none kV21 dc21 pm21 an21 cd21 ct21), sl21⟩) (c21 : PySem.W.codeIn K cd21 "_law_pick" = true) (k21 : PySem.W.keepIn K (.ref f21) = true)
    {f22 : Addr} {od22 an22 : Option Addr} {sl22 : Array (Option Value)} {oc22 kV22 dc22 pm22 cd22 ct22 : Value}
    (a22 : PySem.W.nsIn K mainGlobals "_law_lead" = some (some (.ref f22))) (l22 : K.lookup f22 = some ⟨oc22, od22, .func (PySem.W.fnOf "_law_lead" "_law_lead" (defArgs (top 32)) (defBody (top 32)) (defScope (top 32)) .none kV22 dc22 pm22 an22 cd22 ct22), sl22⟩) (c22 : PySem.W.codeIn K cd22 "_law_lead" = true) (k22 : PySem.W.keepIn K (.ref f22) = true)
    {f23 : Addr} {od23 an23 : Option Addr} {sl23 : Array (Option Value)} {oc23 kV23 dc23 pm23 cd23 ct23 : Value}
    (a23 : PySem.W.nsIn K mainGlobals "_law_gcd" = some (some (.ref f23))) (l23 : K.lookup f23 = some ⟨oc23, od23, .func (PySem.W.fnOf "_law_gcd" "_law_gcd" (defArgs (top 31)) (defBody (top 31)) (defScope (top 31)) .none kV23 dc23 pm23 an23 cd23 ct23), sl23⟩) (c23 : PySem.W.codeIn K cd23 "_law_gcd" = true) (k23 : PySem.W.keepIn K (.ref f23) = true)
    {f24 : Addr} {od24 an24 : Option Addr} {sl24 : Array (Option Value)} {oc24 kV24 dc24 pm24 cd24 ct24 : Value}
    (a24 : PySem.W.nsIn K mainGlobals "_law_lowest" = some (some (.ref f24))) (l24 : K.lookup f24 = some ⟨oc24, od24, .func (PySem.W.fnOf "_law_lowest" "_law_lowest" (defArgs (top 33)) (defBody (top 33)) (defScope (top 33)) .none kV24 dc24 pm24 an24 cd24 ct24), sl24⟩) (c24 : PySem.W.codeIn K cd24 "_law_lowest" = true) (k24 : PySem.W.keepIn K (.ref f24) = true)
    {f25 : Addr} {od25 an25 : Option Addr} {sl25 : Array (Option Value)} {oc25 kV25 dc25 pm25 cd25 ct25 : Value}
    (a25 : PySem.W.nsIn K mainGlobals "_law_less" = some (some (.ref f25))) (l25 : K.lookup f25 = some ⟨oc25, od25, .func (PySem.W.fnOf "_law_less" "_law_less" (defArgs (top 35)) (defBody (top 35)) (defScope (top 35)) .none kV25 dc25 pm25 an25 cd25 ct25), sl25⟩) (c25 : PySem.W.codeIn K cd25 "_law_less" = true) (k25 : PySem.W.keepIn K (.ref f25) = true)
    {f26 : Addr} {od26 an26 : Option Addr} {sl26 : Array (Option Value)} {oc26 kV26 dc26 pm26 cd26 ct26 : Value}
    (a26 : PySem.W.nsIn K mainGlobals "_law_with_row" = some (some (.ref f26))) (l26 : K.lookup f26 = some ⟨oc26, od26, .func (PySem.W.fnOf "_law_with_row" "_law_with_row" (defArgs (top 36)) (defBody (top 36)) (defScope (top 36)) .none kV26 dc26 pm26 an26 cd26 ct26), sl26⟩) (c26 : PySem.W.codeIn K cd26 "_law_with_row" = true) (k26 : PySem.W.keepIn K (.ref f26) = true)
    {f27 : Addr} {od27 an27 : Option Addr} {sl27 : Array (Option Value)} {oc27 kV27 dc27 pm27 cd27 ct27 : Value}
    (a27 : PySem.W.nsIn K mainGlobals "_law_lot" = some (some (.ref f27))) (l27 : K.lookup f27 = some ⟨oc27, od27, .func (PySem.W.fnOf "_law_lot" "_law_lot" (defArgs (top 37)) (defBody (top 37)) (defScope (top 37)) .none kV27 dc27 pm27 an27 cd27 ct27), sl27⟩) (c27 : PySem.W.codeIn K cd27 "_law_lot" = true) (k27 : PySem.W.keepIn K (.ref f27) = true)
    {f28 : Addr} {od28 an28 : Option Addr} {sl28 : Array (Option Value)} {oc28 kV28 dc28 pm28 cd28 ct28 : Value}
    (a28 : PySem.W.nsIn K mainGlobals "_law_holds" = some (some (.ref f28))) (l28 : K.lookup f28 = some ⟨oc28, od28, .func (PySem.W.fnOf "_law_holds" "_law_holds" (defArgs (top 38)) (defBody (top 38)) (defScope (top 38)) .none kV28 dc28 pm28 an28 cd28 ct28), sl28⟩) (c28 : PySem.W.codeIn K cd28 "_law_holds" = true) (k28 : PySem.W.keepIn K (.ref f28) = true)
    {f29 : Addr} {od29 an29 : Option Addr} {sl29 : Array (Option Value)} {oc29 kV29 dc29 pm29 cd29 ct29 : Value}
    (a29 : PySem.W.nsIn K mainGlobals "_law_summed" = some (some (.ref f29))) (l29 : K.lookup f29 = some ⟨oc29, od29, .func (PySem.W.fnOf "_law_summed" "_law_summed" (defArgs (top 41)) (defBody (top 41)) (defScope (top 41)) .none kV29 dc29 pm29 an29 cd29 ct29), sl29⟩) (c29 : PySem.W.codeIn K cd29 "_law_summed" = true) (k29 : PySem.W.keepIn K (.ref f29) = true)
    {f30 : Addr} {od30 an30 : Option Addr} {sl30 : Array (Option Value)} {oc30 kV30 dc30 pm30 cd30 ct30 : Value}
    (a30 : PySem.W.nsIn K mainGlobals "_law_rw_drawn" = some (some (.ref f30))) (l30 : K.lookup f30 = some ⟨oc30, od30, .func (PySem.W.fnOf "_law_rw_drawn" "_law_rw_drawn" (defArgs (top 40)) (defBody (top 40)) (defScope (top 40)) .none kV30 dc30 pm30 an30 cd30 ct30), sl30⟩) (c30 : PySem.W.codeIn K cd30 "_law_rw_drawn" = true) (k30 : PySem.W.keepIn K (.ref f30) = true)
    {f31 : Addr} {od31 an31 : Option Addr} {sl31 : Array (Option Value)} {oc31 kV31 dc31 pm31 cd31 ct31 : Value}
    (a31 : PySem.W.nsIn K mainGlobals "_law_dot" = some (some (.ref f31))) (l31 : K.lookup f31 = some ⟨oc31, od31, .func (PySem.W.fnOf "_law_dot" "_law_dot" (defArgs (top 34)) (defBody (top 34)) (defScope (top 34)) .none kV31 dc31 pm31 an31 cd31 ct31), sl31⟩) (c31 : PySem.W.codeIn K cd31 "_law_dot" = true) (k31 : PySem.W.keepIn K (.ref f31) = true)
    {f32 : Addr} {od32 an32 : Option Addr} {sl32 : Array (Option Value)} {oc32 kV32 dc32 pm32 cd32 ct32 : Value}
    (a32 : PySem.W.nsIn K mainGlobals "_law_is_number" = some (some (.ref f32))) (l32 : K.lookup f32 = some ⟨oc32, od32, .func (PySem.W.fnOf "_law_is_number" "_law_is_number" (defArgs (top 42)) (defBody (top 42)) (defScope (top 42)) .none kV32 dc32 pm32 an32 cd32 ct32), sl32⟩) (c32 : PySem.W.codeIn K cd32 "_law_is_number" = true) (k32 : PySem.W.keepIn K (.ref f32) = true)
    {f33 : Addr} {od33 an33 : Option Addr} {sl33 : Array (Option Value)} {oc33 kV33 dc33 pm33 cd33 ct33 : Value}
    (a33 : PySem.W.nsIn K mainGlobals "_law_is_row" = some (some (.ref f33))) (l33 : K.lookup f33 = some ⟨oc33, od33, .func (PySem.W.fnOf "_law_is_row" "_law_is_row" (defArgs (top 43)) (defBody (top 43)) (defScope (top 43)) .none kV33 dc33 pm33 an33 cd33 ct33), sl33⟩) (c33 : PySem.W.codeIn K cd33 "_law_is_row" = true) (k33 : PySem.W.keepIn K (.ref f33) = true)
    {f34 : Addr} {od34 an34 : Option Addr} {sl34 : Array (Option Value)} {oc34 kV34 dc34 pm34 cd34 ct34 : Value}
    (a34 : PySem.W.nsIn K mainGlobals "_law_is_paper" = some (some (.ref f34))) (l34 : K.lookup f34 = some ⟨oc34, od34, .func (PySem.W.fnOf "_law_is_paper" "_law_is_paper" (defArgs (top 44)) (defBody (top 44)) (defScope (top 44)) .none kV34 dc34 pm34 an34 cd34 ct34), sl34⟩) (c34 : PySem.W.codeIn K cd34 "_law_is_paper" = true) (k34 : PySem.W.keepIn K (.ref f34) = true)
    {f35 : Addr} {od35 an35 : Option Addr} {sl35 : Array (Option Value)} {oc35 kV35 dc35 pm35 cd35 ct35 : Value}
    (a35 : PySem.W.nsIn K mainGlobals "_law_apart" = some (some (.ref f35))) (l35 : K.lookup f35 = some ⟨oc35, od35, .func (PySem.W.fnOf "_law_apart" "_law_apart" (defArgs (top 39)) (defBody (top 39)) (defScope (top 39)) .none kV35 dc35 pm35 an35 cd35 ct35), sl35⟩) (c35 : PySem.W.codeIn K cd35 "_law_apart" = true) (k35 : PySem.W.keepIn K (.ref f35) = true)
    {f36 : Addr} {od36 an36 : Option Addr} {sl36 : Array (Option Value)} {oc36 kV36 dc36 pm36 cd36 ct36 : Value}
    (a36 : PySem.W.nsIn K mainGlobals "_law_own" = some (some (.ref f36))) (l36 : K.lookup f36 = some ⟨oc36, od36, .func (PySem.W.fnOf "_law_own" "_law_own" (defArgs (top 45)) (defBody (top 45)) (defScope (top 45)) .none kV36 dc36 pm36 an36 cd36 ct36), sl36⟩) (c36 : PySem.W.codeIn K cd36 "_law_own" = true) (k36 : PySem.W.keepIn K (.ref f36) = true)
    {f37 : Addr} {od37 an37 : Option Addr} {sl37 : Array (Option Value)} {oc37 kV37 dc37 pm37 cd37 ct37 : Value}
    (a37 : PySem.W.nsIn K mainGlobals "_law_near" = some (some (.ref f37))) (l37 : K.lookup f37 = some ⟨oc37, od37, .func (PySem.W.fnOf "_law_near" "_law_near" (defArgs (top 46)) (defBody (top 46)) (defScope (top 46)) .none kV37 dc37 pm37 an37 cd37 ct37), sl37⟩) (c37 : PySem.W.codeIn K cd37 "_law_near" = true) (k37 : PySem.W.keepIn K (.ref f37) = true)
    {f38 : Addr} {od38 an38 : Option Addr} {sl38 : Array (Option Value)} {oc38 kV38 dc38 pm38 cd38 ct38 : Value}
    (a38 : PySem.W.nsIn K mainGlobals "_law_right" = some (some (.ref f38))) (l38 : K.lookup f38 = some ⟨oc38, od38, .func (PySem.W.fnOf "_law_right" "_law_right" (defArgs (top 47)) (defBody (top 47)) (defScope (top 47)) .none kV38 dc38 pm38 an38 cd38 ct38), sl38⟩) (c38 : PySem.W.codeIn K cd38 "_law_right" = true) (k38 : PySem.W.keepIn K (.ref f38) = true)
    {f39 : Addr} {od39 an39 : Option Addr} {sl39 : Array (Option Value)} {oc39 kV39 dc39 pm39 cd39 ct39 : Value}
    (a39 : PySem.W.nsIn K mainGlobals "law" = some (some (.ref f39))) (l39 : K.lookup f39 = some ⟨oc39, od39, .func (PySem.W.fnOf "law" "law" (defArgs (top 48)) (defBody (top 48)) (defScope (top 48)) .none kV39 dc39 pm39 an39 cd39 ct39), sl39⟩) (c39 : PySem.W.codeIn K cd39 "law" = true) (k39 : PySem.W.keepIn K (.ref f39) = true)
    (z_abs : PySem.W.nsIn K mainGlobals "abs" = some none)
    (z_all : PySem.W.nsIn K mainGlobals "all" = some none)
    (z_bool : PySem.W.nsIn K mainGlobals "bool" = some none)
    (z_enumerate : PySem.W.nsIn K mainGlobals "enumerate" = some none)
    (z_int : PySem.W.nsIn K mainGlobals "int" = some none)
    (z_isinstance : PySem.W.nsIn K mainGlobals "isinstance" = some none)
    (z_len : PySem.W.nsIn K mainGlobals "len" = some none)
    (z_list : PySem.W.nsIn K mainGlobals "list" = some none)
    (z_max : PySem.W.nsIn K mainGlobals "max" = some none)
    (z_min : PySem.W.nsIn K mainGlobals "min" = some none)
    (z_range : PySem.W.nsIn K mainGlobals "range" = some none)
    (z_repr : PySem.W.nsIn K mainGlobals "repr" = some none)
    (z_sorted : PySem.W.nsIn K mainGlobals "sorted" = some none)
    (z_str : PySem.W.nsIn K mainGlobals "str" = some none)
    (z_sum : PySem.W.nsIn K mainGlobals "sum" = some none)
    (z_tuple : PySem.W.nsIn K mainGlobals "tuple" = some none)
    (z_zip : PySem.W.nsIn K mainGlobals "zip" = some none)
    {t_APART : Tok} (e_APART : PySem.W.nsIn K mainGlobals "APART" = some (some (.str "apart" t_APART)))
    {t_MAX_WIDTH : Tok} (e_MAX_WIDTH : PySem.W.nsIn K mainGlobals "MAX_WIDTH" = some (some (.int (60) t_MAX_WIDTH)))
    {t_SUM : Tok} (e_SUM : PySem.W.nsIn K mainGlobals "SUM" = some (some (.str "sum" t_SUM)))
    {base : Heap} : FnD P w K mg base "law" 9 1 F_law := by
  have T : Glb mg := ⟨PySem.W.mg_none_of X G z_abs, PySem.W.mg_none_of X G z_all, PySem.W.mg_none_of X G z_bool, PySem.W.mg_none_of X G z_enumerate, PySem.W.mg_none_of X G z_int, PySem.W.mg_none_of X G z_isinstance, PySem.W.mg_none_of X G z_len, PySem.W.mg_none_of X G z_list, PySem.W.mg_none_of X G z_max, PySem.W.mg_none_of X G z_min, PySem.W.mg_none_of X G z_range, PySem.W.mg_none_of X G z_repr, PySem.W.mg_none_of X G z_sorted, PySem.W.mg_none_of X G z_str, PySem.W.mg_none_of X G z_sum, PySem.W.mg_none_of X G z_tuple, PySem.W.mg_none_of X G z_zip, ⟨_, PySem.W.mg_of X G e_APART⟩, ⟨_, PySem.W.mg_of X G e_MAX_WIDTH⟩, ⟨_, PySem.W.mg_of X G e_SUM⟩⟩
  have F0 := fun_mk (st := top 8) l0 c0 k0
  have h_is_integer : FnD P w K mg base "is_integer" 1 1 F_is_integer := ok_is_integer T F0 (PySem.W.mg_of X G a0) (F0.binds (ps := ["value"]) fun _ _ _ _ _ _ us hl => match us, hl with | [_], _ => rfl) 
  have F1 := fun_mk (st := top 9) l1 c1 k1
  have h_require_width : FnD P w K mg base "require_width" 2 1 F_require_width := ok_require_width T F1 (PySem.W.mg_of X G a1) (F1.binds (ps := ["width"]) fun _ _ _ _ _ _ us hl => match us, hl with | [_], _ => rfl) h_is_integer
  have F2 := fun_mk (st := top 14) l2 c2 k2
  have h_dot : FnD P w K mg base "dot" 1 2 F_dot := ok_dot T F2 (PySem.W.mg_of X G a2) (F2.binds (ps := ["one", "other"]) fun _ _ _ _ _ _ us hl => match us, hl with | [_, _], _ => rfl) 
  have F3 := fun_mk (st := top 11) l3 c3 k3
  have h_lead_in : FnD P w K mg base "lead_in" 1 1 F_lead_in := ok_lead_in T F3 (PySem.W.mg_of X G a3) (F3.binds (ps := ["row"]) fun _ _ _ _ _ _ us hl => match us, hl with | [_], _ => rfl) 
  have F4 := fun_mk (st := top 12) l4 c4 k4
  have h_common_share : FnD P w K mg base "common_share" 1 2 F_common_share := ok_common_share T F4 (PySem.W.mg_of X G a4) (F4.binds (ps := ["one", "other"]) fun _ _ _ _ _ _ us hl => match us, hl with | [_, _], _ => rfl) 
  have F5 := fun_mk (st := top 13) l5 c5 k5
  have h_lowest_row : FnD P w K mg base "lowest_row" 2 1 F_lowest_row := ok_lowest_row T F5 (PySem.W.mg_of X G a5) (F5.binds (ps := ["row"]) fun _ _ _ _ _ _ us hl => match us, hl with | [_], _ => rfl) h_lead_in h_common_share
  have F6 := fun_mk (st := top 17) l6 c6 k6
  have h_less_by : FnD P w K mg base "less_by" 2 2 F_less_by := ok_less_by T F6 (PySem.W.mg_of X G a6) (F6.binds (ps := ["row", "other"]) fun _ _ _ _ _ _ us hl => match us, hl with | [_, _], _ => rfl) h_lead_in
  have F7 := fun_mk (st := top 18) l7 c7 k7
  have h_rest_by : FnD P w K mg base "rest_by" 3 2 F_rest_by := ok_rest_by T F7 (PySem.W.mg_of X G a7) (F7.binds (ps := ["lot", "row"]) fun _ _ _ _ _ _ us hl => match us, hl with | [_, _], _ => rfl) h_less_by
  have F8 := fun_mk (st := top 19) l8 c8 k8
  have h_with_row : FnD P w K mg base "with_row" 4 2 F_with_row := ok_with_row T F8 (PySem.W.mg_of X G a8) (F8.binds (ps := ["lot", "row"]) fun _ _ _ _ _ _ us hl => match us, hl with | [_, _], _ => rfl) h_lead_in h_lowest_row h_less_by h_rest_by
  have F9 := fun_mk (st := top 20) l9 c9 k9
  have h_lot_in : FnD P w K mg base "lot_in" 5 1 F_lot_in := ok_lot_in T F9 (PySem.W.mg_of X G a9) (F9.binds (ps := ["rows"]) fun _ _ _ _ _ _ us hl => match us, hl with | [_], _ => rfl) h_with_row
  have F10 := fun_mk (st := top 21) l10 c10 k10
  have h_apart_in : FnD P w K mg base "apart_in" 6 2 F_apart_in := ok_apart_in T F10 (PySem.W.mg_of X G a10) (F10.binds (ps := ["width", "lot"]) fun _ _ _ _ _ _ us hl => match us, hl with | [_, _], _ => rfl) h_lead_in h_lot_in
  have F11 := fun_mk (st := top 10) l11 c11 k11
  have h_is_plain_row : FnD P w K mg base "is_plain_row" 2 2 F_is_plain_row := ok_is_plain_row T F11 (PySem.W.mg_of X G a11) (F11.binds (ps := ["width", "value"]) fun _ _ _ _ _ _ us hl => match us, hl with | [_, _], _ => rfl) h_is_integer
  have F12 := fun_mk (st := top 22) l12 c12 k12
  have h_require_row : FnD P w K mg base "require_row" 3 2 F_require_row := ok_require_row T F12 (PySem.W.mg_of X G a12) (F12.binds (ps := ["width", "row"]) fun _ _ _ _ _ _ us hl => match us, hl with | [_, _], _ => rfl) h_is_plain_row
  have F13 := fun_mk (st := top 23) l13 c13 k13
  have h_require_rows : FnD P w K mg base "require_rows" 3 2 F_require_rows := ok_require_rows T F13 (PySem.W.mg_of X G a13) (F13.binds (ps := ["width", "rows"]) fun _ _ _ _ _ _ us hl => match us, hl with | [_, _], _ => rfl) h_is_plain_row
  have F14 := fun_mk (st := top 24) l14 c14 k14
  have h_sum_in : FnD P w K mg base "sum_in" 4 3 F_sum_in := ok_sum_in T F14 (PySem.W.mg_of X G a14) (F14.binds (ps := ["width", "rows", "row"]) fun _ _ _ _ _ _ us hl => match us, hl with | [_, _, _], _ => rfl) h_lead_in h_common_share h_lowest_row h_rest_by
  have F15 := fun_mk (st := top 25) l15 c15 k15
  have h_span_paper : FnD P w K mg base "span_paper" 7 3 F_span_paper := ok_span_paper T F15 (PySem.W.mg_of X G a15) (F15.binds (ps := ["width", "rows", "row"]) fun _ _ _ _ _ _ us hl => match us, hl with | [_, _, _], _ => rfl) h_require_width h_dot h_lot_in h_apart_in h_require_row h_require_rows h_sum_in
  have F16 := fun_mk (st := top 28) l16 c16 k16
  have h_L_dice : FnD P w K mg base "_law_dice" 1 2 F_L_dice := ok_L_dice T F16 (PySem.W.mg_of X G a16) (F16.binds (ps := ["script", "spot"]) fun _ _ _ _ _ _ us hl => match us, hl with | [_, _], _ => rfl) 
  have F17 := fun_mk (st := top 29) l17 c17 k17
  have h_L_roll : FnD P w K mg base "_law_roll" 1 2 F_L_roll := ok_L_roll T F17 (PySem.W.mg_of X G a17) (F17.binds (ps := ["dice", "total"]) fun _ _ _ _ _ _ us hl => match us, hl with | [_, _], _ => rfl) 
  have F18 := fun_mk (st := top 15) l18 c18 k18
  have h_sum_of_rows : FnD P w K mg base "sum_of_rows" 1 2 F_sum_of_rows := ok_sum_of_rows T F18 (PySem.W.mg_of X G a18) (F18.binds (ps := ["one", "other"]) fun _ _ _ _ _ _ us hl => match us, hl with | [_, _], _ => rfl) 
  have F19 := fun_mk (st := top 16) l19 c19 k19
  have h_times_row : FnD P w K mg base "times_row" 1 2 F_times_row := ok_times_row T F19 (PySem.W.mg_of X G a19) (F19.binds (ps := ["number", "row"]) fun _ _ _ _ _ _ us hl => match us, hl with | [_, _], _ => rfl) 
  have F20 := fun_mk (st := top 26) l20 c20 k20
  have h_is_span_paper : FnD P w K mg base "is_span_paper" 4 4 F_is_span_paper := ok_is_span_paper T F20 (PySem.W.mg_of X G a20) (F20.binds (ps := ["width", "rows", "row", "value"]) fun _ _ _ _ _ _ us hl => match us, hl with | [_, _, _, _], _ => rfl) h_is_integer h_require_width h_is_plain_row h_dot h_sum_of_rows h_times_row h_require_row h_require_rows
  have F21 := fun_mk (st := top 30) l21 c21 k21
  have h_L_pick : FnD P w K mg base "_law_pick" 2 2 F_L_pick := ok_L_pick T F21 (PySem.W.mg_of X G a21) (F21.binds (ps := ["dice", "items"]) fun _ _ _ _ _ _ us hl => match us, hl with | [_, _], _ => rfl) h_L_roll
  have F22 := fun_mk (st := top 32) l22 c22 k22
  have h_L_lead : FnD P w K mg base "_law_lead" 1 1 F_L_lead := ok_L_lead T F22 (PySem.W.mg_of X G a22) (F22.binds (ps := ["row"]) fun _ _ _ _ _ _ us hl => match us, hl with | [_], _ => rfl) 
  have F23 := fun_mk (st := top 31) l23 c23 k23
  have h_L_gcd : FnD P w K mg base "_law_gcd" 1 2 F_L_gcd := ok_L_gcd T F23 (PySem.W.mg_of X G a23) (F23.binds (ps := ["one", "other"]) fun _ _ _ _ _ _ us hl => match us, hl with | [_, _], _ => rfl) 
  have F24 := fun_mk (st := top 33) l24 c24 k24
  have h_L_lowest : FnD P w K mg base "_law_lowest" 2 1 F_L_lowest := ok_L_lowest T F24 (PySem.W.mg_of X G a24) (F24.binds (ps := ["row"]) fun _ _ _ _ _ _ us hl => match us, hl with | [_], _ => rfl) h_L_gcd h_L_lead
  have F25 := fun_mk (st := top 35) l25 c25 k25
  have h_L_less : FnD P w K mg base "_law_less" 2 2 F_L_less := ok_L_less T F25 (PySem.W.mg_of X G a25) (F25.binds (ps := ["row", "other"]) fun _ _ _ _ _ _ us hl => match us, hl with | [_, _], _ => rfl) h_L_lead
  have F26 := fun_mk (st := top 36) l26 c26 k26
  have h_L_with_row : FnD P w K mg base "_law_with_row" 3 2 F_L_with_row := ok_L_with_row T F26 (PySem.W.mg_of X G a26) (F26.binds (ps := ["lot", "row"]) fun _ _ _ _ _ _ us hl => match us, hl with | [_, _], _ => rfl) h_L_lead h_L_lowest h_L_less
  have F27 := fun_mk (st := top 37) l27 c27 k27
  have h_L_lot : FnD P w K mg base "_law_lot" 4 1 F_L_lot := ok_L_lot T F27 (PySem.W.mg_of X G a27) (F27.binds (ps := ["rows"]) fun _ _ _ _ _ _ us hl => match us, hl with | [_], _ => rfl) h_L_with_row
  have F28 := fun_mk (st := top 38) l28 c28 k28
  have h_L_holds : FnD P w K mg base "_law_holds" 3 2 F_L_holds := ok_L_holds T F28 (PySem.W.mg_of X G a28) (F28.binds (ps := ["lot", "row"]) fun _ _ _ _ _ _ us hl => match us, hl with | [_, _], _ => rfl) h_L_lead h_L_less
  have F29 := fun_mk (st := top 41) l29 c29 k29
  have h_L_summed : FnD P w K mg base "_law_summed" 1 3 F_L_summed := ok_L_summed T F29 (PySem.W.mg_of X G a29) (F29.binds (ps := ["wide", "rows", "numbers"]) fun _ _ _ _ _ _ us hl => match us, hl with | [_, _, _], _ => rfl) 
  have F30 := fun_mk (st := top 40) l30 c30 k30
  have h_L_rw_drawn : FnD P w K mg base "_law_rw_drawn" 3 3 F_L_rw_drawn := ok_L_rw_drawn T F30 (PySem.W.mg_of X G a30) (F30.binds (ps := ["dice", "wide", "many"]) fun _ _ _ _ _ _ us hl => match us, hl with | [_, _, _], _ => rfl) h_L_roll h_L_pick h_L_summed
  have F31 := fun_mk (st := top 34) l31 c31 k31
  have h_L_dot : FnD P w K mg base "_law_dot" 1 2 F_L_dot := ok_L_dot T F31 (PySem.W.mg_of X G a31) (F31.binds (ps := ["one", "other"]) fun _ _ _ _ _ _ us hl => match us, hl with | [_, _], _ => rfl) 
  have F32 := fun_mk (st := top 42) l32 c32 k32
  have h_L_is_number : FnD P w K mg base "_law_is_number" 1 1 F_L_is_number := ok_L_is_number T F32 (PySem.W.mg_of X G a32) (F32.binds (ps := ["value"]) fun _ _ _ _ _ _ us hl => match us, hl with | [_], _ => rfl) 
  have F33 := fun_mk (st := top 43) l33 c33 k33
  have h_L_is_row : FnD P w K mg base "_law_is_row" 2 2 F_L_is_row := ok_L_is_row T F33 (PySem.W.mg_of X G a33) (F33.binds (ps := ["wide", "value"]) fun _ _ _ _ _ _ us hl => match us, hl with | [_, _], _ => rfl) h_L_is_number
  have F34 := fun_mk (st := top 44) l34 c34 k34
  have h_L_is_paper : FnD P w K mg base "_law_is_paper" 3 4 F_L_is_paper := ok_L_is_paper T F34 (PySem.W.mg_of X G a34) (F34.binds (ps := ["wide", "rows", "row", "value"]) fun _ _ _ _ _ _ us hl => match us, hl with | [_, _, _, _], _ => rfl) h_L_dot h_L_summed h_L_is_number h_L_is_row
  have F35 := fun_mk (st := top 39) l35 c35 k35
  have h_L_apart : FnD P w K mg base "_law_apart" 5 2 F_L_apart := ok_L_apart T F35 (PySem.W.mg_of X G a35) (F35.binds (ps := ["lot", "wide"]) fun _ _ _ _ _ _ us hl => match us, hl with | [_, _], _ => rfl) h_L_lead h_L_lot
  have F36 := fun_mk (st := top 45) l36 c36 k36
  have h_L_own : FnD P w K mg base "_law_own" 6 4 F_L_own := ok_L_own T F36 (PySem.W.mg_of X G a36) (F36.binds (ps := ["dice", "wide", "rows", "row"]) fun _ _ _ _ _ _ us hl => match us, hl with | [_, _, _, _], _ => rfl) h_L_roll h_L_pick h_L_lot h_L_apart h_L_summed
  have F37 := fun_mk (st := top 46) l37 c37 k37
  have h_L_near : FnD P w K mg base "_law_near" 2 3 F_L_near := ok_L_near T F37 (PySem.W.mg_of X G a37) (F37.binds (ps := ["dice", "wide", "paper"]) fun _ _ _ _ _ _ us hl => match us, hl with | [_, _, _], _ => rfl) h_L_roll
  have F38 := fun_mk (st := top 47) l38 c38 k38
  have h_L_right : FnD P w K mg base "_law_right" 8 2 F_L_right := ok_L_right T F38 (PySem.W.mg_of X G a38) (F38.binds (ps := ["dice", "wide"]) fun _ _ _ _ _ _ us hl => match us, hl with | [_, _], _ => rfl) h_span_paper h_is_span_paper h_L_roll h_L_pick h_L_lot h_L_holds h_L_rw_drawn h_L_summed h_L_is_paper h_L_own h_L_near
  have F39 := fun_mk (st := top 48) l39 c39 k39
  have h_law : FnD P w K mg base "law" 9 1 F_law := ok_law T F39 (PySem.W.mg_of X G a39) (F39.binds (ps := ["script"]) fun _ _ _ _ _ _ us hl => match us, hl with | [_], _ => rfl) h_span_paper h_L_dice h_L_roll h_L_right
  exact h_law
end K12

instance k12DLX : DL.DLX := ⟨[], fun _ => none⟩
namespace K12
open PySem PySem.Spec PyProof.Rows L2 DL
/-! ### the values that are met: trees without things that change -/
inductive Fine : D → Prop
  | non : Fine .non
  | bl (b : Bool) : Fine (.bl b)
  | int (i : Int) : Fine (.int i)
  | str (x : Str) : Fine (.str x)
  | tup (xs : List D) (h : ∀ x ∈ xs, Fine x) : Fine (.tup xs)
  | lst (xs : List D) (h : ∀ x ∈ xs, Fine x) : Fine (.lst xs)
  | dct (kvs : List (D × D)) : Fine (.dct kvs)
def isI : D → Bool | .int _ => true | _ => false
theorem Fine.no {d : D} (h : Fine d) : noOwn d = true := by cases h <;> rfl
theorem is_integer_ok {d : D} (h : Fine d) (μ : List Cell) : F_is_integer [d] μ = .ok (.bl (isI d)) μ := by
  cases h <;> rfl
theorem ri_fine (xs : List Int) : Fine (Ri xs) := .tup _ fun x hx => by
  obtain ⟨i, _, rfl⟩ := List.mem_map.mp hx
  exact .int i
/-- a row of w ints -/
def rowB (w : Nat) : D → Bool
  | .tup xs => xs.length == w && xs.all isI
  | _ => false
theorem rowB_of {w : Nat} {d : D} (h : rowB w d = true) : ∃ xs : List Int, d = Ri xs ∧ xs.length = w := by
  unfold rowB at h
  split at h
  · rename_i ds
    rw [Bool.and_eq_true] at h
    have key : ∀ ds : List D, ds.all isI = true → ∃ xs : List Int, ds = xs.map .int := by
      intro ds
      induction ds with
      | nil => exact fun _ => ⟨[], rfl⟩
      | cons d ds ih =>
        intro h
        rw [List.all_cons, Bool.and_eq_true] at h
        obtain ⟨xs, rfl⟩ := ih h.2
        cases d <;> simp [isI] at h
        exact ⟨_ :: xs, rfl⟩
    obtain ⟨xs, rfl⟩ := key ds h.2
    exact ⟨xs, rfl, by simpa using h.1⟩
  · cases h
theorem rowB_ri (w : Nat) (xs : List Int) : rowB w (Ri xs) = (xs.length == w) := by
  unfold rowB
  have : (xs.map D.int).all isI = true := by simp [isI]
  simp [this]
/-- all(..) of bools -/
theorem bl_py {α : Type} (f : α → Bool) : ∀ xs : List α, toPyL (xs.map fun x => D.bl (f x)) = some (xs.map fun x => .bool (f x))
  | [] => rfl
  | x :: xs => by simp [toPyL, toPy, bl_py f xs]
theorem bl_plain {α : Type} (f : α → Bool) : ∀ xs : List α, PyData.plainAll (xs.map fun x => PyData.bool (f x)) = true
  | [] => by simp [PyData.plainAll]
  | x :: xs => by simp [PyData.plainAll, PyData.plain, bl_plain f xs]
@[simp] theorem all_bl {α : Type} (s : S) (f : α → Bool) (xs : List α) : gAll s [.lst (xs.map fun x => .bl (f x))] = some (.bl (xs.all f)) := by
  simp only [gAll, asl_lst, Option.bind_some, truthP, bl_py, bl_plain, Bool.true_and]
  rw [if_pos (by simp)]
  simp only [Option.map_some]
  congr 2
  rw [List.all_map]
  rfl
@[simp] theorem any_bl {α : Type} (s : S) (f : α → Bool) (xs : List α) : gAny s [.lst (xs.map fun x => .bl (f x))] = some (.bl (xs.any f)) := by
  simp only [gAny, asl_lst, Option.bind_some, truthP, bl_py, bl_plain, Bool.true_and]
  rw [if_pos (by simp)]
  simp only [Option.map_some]
  congr 2
  rw [List.any_map]
  rfl
theorem require_width_ok {w : Nat} (h1 : 1 ≤ w) (h2 : w ≤ 60) (μ : List Cell) : F_require_width [.int w] μ = .ok .non μ := by
  have d1 : decide ((1 : Int) ≤ w) = true := decide_eq_true (by omega)
  have d2 : decide ((w : Int) ≤ 60) = true := decide_eq_true (by omega)
  simp [F_require_width, b_require_width, runF, is_integer_ok (.int _), isI, dChainT, dChain, d1, d2]
/-- a comprehension over fine data -/
theorem isI_comp (a b : D) (c : Slot) (μ : List Cell) : ∀ ds : List D, (∀ d ∈ ds, Fine d) → dLcGo [2] (gNm 2) dYes (dCall F_is_integer (dCons (dVar 2) dNil)) ds ⟨[.val a, .val b, c], μ⟩ = .ok (ds.map fun d => .bl (isI d)) ⟨[.val a, .val b, c], μ⟩
  | [], _ => rfl
  | d :: ds, h => by
    have hd := h d (by simp)
    simp [dLcGo, wipeD, backD, is_integer_ok hd, hd.no, isI_comp a b c μ ds fun x hx => h x (by simp [hx])]
theorem is_plain_row_ok {w : Nat} {v : D} (h : Fine v) (hl : ∀ xs, v = .tup xs → xs.length ≤ 16777216) (μ : List Cell) : F_is_plain_row [.int w, v] μ = .ok (.bl (rowB w v)) μ := by
  cases h with
  | tup xs hx =>
    have hl := hl xs rfl
    by_cases hw : xs.length = w
    · subst hw
      simp [F_is_plain_row, b_is_plain_row, runF, gIsi, tyD, kitB, gLen, hl, isI_comp _ _ _ _ _ hx, rowB]
    · have e : ((xs.length : Int) == (w : Int)) = false := by simp; omega
      have e2 : (xs.length == w) = false := by simpa using hw
      simp [F_is_plain_row, b_is_plain_row, runF, gIsi, tyD, kitB, gLen, e, rowB, e2]
  | non => rfl
  | bl b => rfl
  | int i => rfl
  | str x => rfl
  | lst xs h => rfl
  | dct k => rfl
end K12

namespace K12
open PySem PySem.Spec PyProof.Rows L2 DL
def lead : List Int → Option Nat
  | [] => none
  | x :: xs => if x = 0 then (lead xs).map (· + 1) else some 0
def optD : Option Nat → D | some i => .int i | none => .non
theorem lead_loop (r : Slot) (μ : List Cell) : ∀ (xs : List Int) (k : Nat) (a b : Slot), ∃ a' b', dFor (gT (gC (gNm 1) (gC (gNm 2) gN))) (dIfS (dCmpT neS (dVar 2) (dC (.int (0)))) (dRet (dVar 1)) dSkip) (enD k (xs.map .int)) ⟨[r, a, b], μ⟩ =
    (match lead xs with | some i => .rt (.int ((k : Int) + (i : Int))) ⟨[r, a', b'], μ⟩ | none => .nx ⟨[r, a', b'], μ⟩)
  | [], k, a, b => ⟨a, b, rfl⟩
  | x :: xs, k, a, b => by
    by_cases h : x = 0
    · subst h
      obtain ⟨a', b', e⟩ := lead_loop r μ xs (k + 1) (.val (.int k)) (.val (.int 0))
      refine ⟨a', b', ?_⟩
      simp [enD, dFor, lead]
      rw [e]
      cases lead xs with
      | none => rfl
      | some i =>
        simp only [Option.map_some]
        rw [show ((k + 1 : Nat) : Int) + (i : Int) = (k : Int) + ((i + 1 : Nat) : Int) from by omega]
    · refine ⟨.val (.int k), .val (.int x), ?_⟩
      have hx : (!(x == 0)) = true := by simpa using h
      simp [enD, dFor, lead, h, hx]
theorem lead_in_ok (xs : List Int) (μ : List Cell) : F_lead_in [Ri xs] μ = .ok (optD (lead xs)) μ := by
  obtain ⟨a', b', e⟩ := lead_loop (.val (Ri xs)) μ xs 0 .no .no
  simp [F_lead_in, b_lead_in, runF, dForI, e]
  cases lead xs with
  | none => simp [optD]
  | some i => simp [optD]
/-! the common share -/
theorem fmod_lt {a b : Int} (h : b ≠ 0) : (a.fmod b).natAbs < b.natAbs := by
  rcases Int.lt_or_gt_of_ne h with h | h
  · have e : a.fmod b = -((-a).fmod (-b)) := by rw [Int.neg_fmod_neg, Int.neg_neg]
    have h1 := Int.fmod_nonneg_of_pos (-a) (b := -b) (by omega)
    have h2 := Int.fmod_lt_of_pos (-a) (b := -b) (by omega)
    omega
  · have h1 := Int.fmod_nonneg_of_pos a h
    have h2 := Int.fmod_lt_of_pos a h
    omega
theorem gcd_fmod (a b : Int) : Int.gcd b (a.fmod b) = Int.gcd a b := by
  rw [Int.fmod_def, Int.gcd_sub_mul_left_right, Int.gcd_comm]
theorem share_loop (μ : List Cell) : ∀ (n : Nat) (a b : Int), b.natAbs < n → ∃ g : Int, g.natAbs = Int.gcd a b ∧ dWhile (dCmpT neS (dVar 1) (dC (.int (0)))) (dPar 0 1 (dCons (dVar 1) (dCons (dOp gMod (dVar 0) (dVar 1)) dNil))) n ⟨[.val (.int a), .val (.int b)], μ⟩ = .nx ⟨[.val (.int g), .val (.int 0)], μ⟩
  | 0, a, b, h => by omega
  | n + 1, a, b, h => by
    by_cases hb : b = 0
    · subst hb
      exact ⟨a, by simp, by simp [dWhile]⟩
    · obtain ⟨g, h1, h2⟩ := share_loop μ n b (a.fmod b) (by have := fmod_lt (a := a) hb; omega)
      refine ⟨g, by rw [h1, gcd_fmod], ?_⟩
      have hx : (!(b == 0)) = true := by simpa using hb
      simp [dWhile, hx, dPar, mod_ii hb, h2]
theorem common_share_ok (a b : Int) (μ : List Cell) : F_common_share [.int a, .int b] μ = .ok (.int (Int.gcd a b)) μ := by
  obtain ⟨g, h1, h2⟩ := share_loop μ (b.natAbs + 1) a b (by omega)
  simp [F_common_share, fu0_common_share, b_common_share, runF, h2, gAbs]
  split <;> omega
theorem L_gcd_ok (a b : Int) (μ : List Cell) : F_L_gcd [.int a, .int b] μ = .ok (.int (Int.gcd a b)) μ := common_share_ok a b μ
/-! the lowest row -/
def gcdF (g : Nat) : List Int → Nat
  | [] => g
  | x :: xs => gcdF (Int.gcd g x) xs
def gcdL (xs : List Int) : Nat := gcdF 0 xs
def leadV (xs : List Int) : Int := match lead xs with | some i => xs.getD i 0 | none => 0
def sgn (xs : List Int) : Int := if leadV xs < 0 then -(gcdL xs : Int) else gcdL xs
def low (xs : List Int) : List Int := if gcdL xs = 0 then xs else xs.map fun x => x.fdiv (sgn xs)
theorem gcdF_dvd : ∀ (xs : List Int) (g : Nat), gcdF g xs ∣ g ∧ ∀ x ∈ xs, (gcdF g xs : Int) ∣ x
  | [], g => ⟨Nat.dvd_refl _, by simp⟩
  | x :: xs, g => by
    obtain ⟨h1, h2⟩ := gcdF_dvd xs (Int.gcd g x)
    have a1 : (Int.gcd g x : Int) ∣ (g : Int) := Int.gcd_dvd_left ..
    have a2 : (Int.gcd g x : Int) ∣ x := Int.gcd_dvd_right ..
    refine ⟨Nat.dvd_trans h1 (Int.natCast_dvd_natCast.mp a1), fun y hy => ?_⟩
    rcases List.mem_cons.mp hy with rfl | hy
    · exact Int.dvd_trans (Int.natCast_dvd_natCast.mpr h1) a2
    · exact h2 y hy
theorem gcdF_zero : ∀ (xs : List Int) (g : Nat), gcdF g xs = 0 ↔ g = 0 ∧ ∀ x ∈ xs, x = 0
  | [], g => by simp [gcdF]
  | x :: xs, g => by
    rw [gcdF, gcdF_zero xs]
    simp only [Int.gcd_eq_zero_iff, List.mem_cons, forall_eq_or_imp]
    constructor
    · rintro ⟨⟨a, b⟩, c⟩
      exact ⟨by omega, b, c⟩
    · rintro ⟨a, b, c⟩
      exact ⟨⟨by omega, b⟩, c⟩
theorem lead_some : ∀ {xs : List Int} {i : Nat}, lead xs = some i → ∃ h : i < xs.length, xs[i] ≠ 0
  | [], i, h => by simp [lead] at h
  | x :: xs, i, h => by
    unfold lead at h
    split at h
    · simp only [Option.map_eq_some_iff] at h
      obtain ⟨j, h1, rfl⟩ := h
      obtain ⟨h2, h3⟩ := lead_some h1
      exact ⟨by simp; omega, by simpa using h3⟩
    · cases h
      exact ⟨by simp, by simpa⟩
theorem lead_none : ∀ {xs : List Int}, lead xs = none ↔ ∀ x ∈ xs, x = 0
  | [] => by simp [lead]
  | x :: xs => by
    unfold lead
    split
    · rename_i h
      simp [h, lead_none (xs := xs)]
    · rename_i h
      simp [h]
theorem gcdL_zero {xs : List Int} : gcdL xs = 0 ↔ lead xs = none := by
  rw [lead_none, gcdL, gcdF_zero]
  simp
/-- the ints are not too great -/
def Bd (n : Nat) (xs : List Int) : Prop := ∀ x ∈ xs, x.natAbs < 2 ^ n
theorem log_lt {a n : Nat} (h : a < 2 ^ n) (hn : 0 < n) : a.log2 < n := by
  by_cases ha : a = 0
  · subst ha; simpa using hn
  · exact (Nat.log2_lt ha).mpr h
theorem fdivOk_of {a b : Int} {n : Nat} (h0 : b ≠ 0) (h : b.natAbs < 2 ^ n) (hn : 0 < n) (hn2 : n ≤ 8900) : fdivOk a b = true := by
  have hl := log_lt h hn
  unfold fdivOk Builtin.divisionGoesByPylong
  have e : (b == 0) = false := by simpa using h0
  have e2 : (b != 0) = true := by simpa using h0
  simp only [e, e2, Bool.true_and, Bool.not_eq_true', Bool.and_eq_false_iff, decide_eq_false_iff_not]
  left
  simp only [Bool.false_eq_true, if_false]
  omega
theorem gcdL_bd {xs : List Int} {n : Nat} (h : Bd n xs) (h0 : gcdL xs ≠ 0) : gcdL xs < 2 ^ n := by
  have h1 : lead xs ≠ none := fun z => h0 (gcdL_zero.mpr z)
  cases e : lead xs with
  | none => exact absurd e h1
  | some i =>
    obtain ⟨hi, hx⟩ := lead_some e
    have hm : xs[i] ∈ xs := List.getElem_mem hi
    have hd := (gcdF_dvd xs 0).2 _ hm
    have := Nat.le_of_dvd (by omega) (Int.ofNat_dvd_left.mp hd)
    have := h _ hm
    unfold gcdL
    omega
theorem share_for (r : Slot) (μ : List Cell) : ∀ (xs : List Int) (g : Nat) (c : DL.Slot), ∃ c', (c' = c ∨ ∃ d, c' = .val d) ∧ dFor (gNm 2) (dAsg 1 (dCall F_common_share (dCons (dVar 1) (dCons (dVar 2) dNil)))) (xs.map .int) ⟨[r, .val (.int g), c], μ⟩ = .nx ⟨[r, .val (.int (gcdF g xs)), c'], μ⟩
  | [], g, c => ⟨c, .inl rfl, rfl⟩
  | x :: xs, g, c => by
    obtain ⟨c', hc, e⟩ := share_for r μ xs (Int.gcd g x) (.val (.int x))
    refine ⟨c', .inr (hc.elim (fun z => ⟨_, z⟩) fun z => z), ?_⟩
    simp [dFor, common_share_ok, gcdF]
    exact e
theorem div_comp (r c : Slot) (μ : List Cell) {s : Int} (h : ∀ a, fdivOk a s = true) : ∀ xs : List Int, dLcGo [2] (gNm 2) dYes (dOp gFdiv (dVar 2) (dVar 1)) (xs.map .int) ⟨[r, .val (.int s), c], μ⟩ = .ok (xs.map fun x => .int (x.fdiv s)) ⟨[r, .val (.int s), c], μ⟩
  | [] => rfl
  | x :: xs => by
    simp [dLcGo, wipeD, backD, fdiv_ii (h x), div_comp r c μ h xs]
theorem ix_row (s : S) (xs : List Int) (i : Nat) (h : i < xs.length) : gIx s (.tup (xs.map .int)) (.int i) = some (.int xs[i]) := by
  simp [gIx, L2.atI, L2.ixN, h]
theorem lowest_row_ok {xs : List Int} (h : Bd 8000 xs) (hl : xs.length ≤ 16777216) (μ : List Cell) : F_lowest_row [Ri xs] μ = .ok (Ri (low xs)) μ := by
  obtain ⟨c', hc, e⟩ := share_for (.val (Ri xs)) μ xs 0 .no
  have hc : c' = .no ∨ ∃ d, c' = .val d := hc
  have e : dFor (gNm 2) (dAsg 1 (dCall F_common_share (dCons (dVar 1) (dCons (dVar 2) dNil)))) (xs.map .int) ⟨[.val (Ri xs), .val (.int 0), .no], μ⟩ = .nx ⟨[.val (Ri xs), .val (.int (gcdL xs)), c'], μ⟩ := e
  by_cases h0 : gcdL xs = 0
  · simp [F_lowest_row, b_lowest_row, runF, dForI, e, h0, gTuple, low]
  · have h1 : ((gcdL xs : Int) == 0) = false := by simpa using h0
    cases el : lead xs with
    | none => exact absurd (gcdL_zero.mpr el) h0
    | some i =>
      obtain ⟨hi, hx⟩ := lead_some el
      have hb := gcdL_bd h h0
      have lv : leadV xs = xs[i] := by
        unfold leadV
        rw [el]
        simp [List.getD, hi]
      by_cases hs : xs[i] < 0
      · have ed : decide (xs[i] < 0) = true := decide_eq_true hs
        have es : sgn xs = -(gcdL xs : Int) := by unfold sgn; rw [lv, if_pos hs]
        have ok : ∀ a, fdivOk a (-(gcdL xs : Int)) = true := fun a => fdivOk_of (n := 8000) (by omega) (by omega) (by decide) (by decide)
        rcases hc with rfl | ⟨d, rfl⟩ <;> simp [F_lowest_row, b_lowest_row, runF, dForI, e, h1, lead_in_ok, el, optD, ix_row _ _ _ hi, ed, gTuple, low, h0, hl, div_comp _ _ _ ok, es]
      · have ed : decide (xs[i] < 0) = false := decide_eq_false hs
        have es : sgn xs = (gcdL xs : Int) := by unfold sgn; rw [lv, if_neg hs]
        have ok : ∀ a, fdivOk a (gcdL xs : Int) = true := fun a => fdivOk_of (n := 8000) (by omega) (by omega) (by decide) (by decide)
        rcases hc with rfl | ⟨d, rfl⟩ <;> simp [F_lowest_row, b_lowest_row, runF, dForI, e, h1, lead_in_ok, el, optD, ix_row _ _ _ hi, ed, gTuple, low, h0, hl, div_comp _ _ _ ok, es]
end K12

namespace K12
open PySem PySem.Spec PyProof.Rows L2 DL
/-! ### the law's lead and lowest -/
def nz (k : Nat) : List Int → List Int
  | [] => []
  | x :: xs => if x = 0 then nz (k + 1) xs else (k : Int) :: nz (k + 1) xs
def leadL (xs : List Int) : Nat := match lead xs with | some i => i | none => xs.length
theorem nz_comp (r : DL.Slot) (μ : List Cell) : ∀ (xs : List Int) (k : Nat), dLcGo [1, 2] (gT (gC (gNm 1) (gC (gNm 2) gN))) (dCmpT neS (dVar 2) (dC (.int (0)))) (dVar 1) (enD k (xs.map .int)) ⟨[r, .no, .no], μ⟩ = .ok ((nz k xs).map .int) ⟨[r, .no, .no], μ⟩
  | [], k => rfl
  | x :: xs, k => by
    by_cases h : x = 0
    · subst h
      simp [enD, dLcGo, wipeD, backD, nz, nz_comp r μ xs (k + 1)]
    · have hx : (!(x == 0)) = true := by simpa using h
      simp [enD, dLcGo, wipeD, backD, nz, nz_comp r μ xs (k + 1), h, hx]
theorem nz_ge : ∀ (xs : List Int) (k : Nat), ∀ y ∈ nz k xs, (k : Int) ≤ y
  | [], k => by simp [nz]
  | x :: xs, k => by
    intro y hy
    unfold nz at hy
    split at hy
    · have := nz_ge xs (k + 1) y hy
      omega
    · rcases List.mem_cons.mp hy with rfl | hy
      · omega
      · have := nz_ge xs (k + 1) y hy
        omega
theorem nz_lead : ∀ (xs : List Int) (k : Nat), match lead xs with | some i => ∃ rest, nz k xs = ((k + i : Nat) : Int) :: rest ∧ ∀ y ∈ rest, ((k + i : Nat) : Int) ≤ y | none => nz k xs = []
  | [], k => by simp [lead, nz]
  | x :: xs, k => by
    have ih := nz_lead xs (k + 1)
    by_cases hx : x = 0
    · simp only [lead, nz, hx, if_true]
      cases e : lead xs with
      | none => rw [e] at ih; simpa using ih
      | some i =>
        rw [e] at ih
        obtain ⟨rest, h1, h2⟩ := ih
        simp only [Option.map_some]
        rw [show k + 1 + i = k + (i + 1) from by omega] at h1 h2
        exact ⟨rest, h1, h2⟩
    · simp only [lead, nz, hx, if_false]
      refine ⟨nz (k + 1) xs, by simp, fun y hy => ?_⟩
      have := nz_ge xs (k + 1) y hy
      omega
theorem min_head (a : Int) (l : List Int) (h : ∀ y ∈ l, a ≤ y) : l.foldl min a = a := by
  induction l with
  | nil => rfl
  | cons b l ih =>
    rw [List.foldl_cons, show min a b = a from by have := h b (by simp); omega]
    exact ih fun y hy => h y (by simp [hy])
theorem ints_map (ns : List Int) : intsD (ns.map .int) = some ns := by
  unfold intsD
  induction ns with
  | nil => rfl
  | cons n ns ih => simp [List.mapM_cons, DL.intD, ih]
theorem nz_len : ∀ (xs : List Int) (k : Nat), (nz k xs).length ≤ xs.length
  | [], k => by simp [nz]
  | x :: xs, k => by
    have := nz_len xs (k + 1)
    unfold nz
    split <;> simp <;> omega
theorem add_ll (s : S) (a b : List D) (h : a.length + b.length ≤ 16777216) : gAdd s (.lst a) (.lst b) = some (.lst (a ++ b)) := by
  simp [gAdd, h]
theorem lead_lt {xs : List Int} : leadL xs ≤ xs.length := by
  unfold leadL
  cases e : lead xs with
  | none => exact Nat.le_refl _
  | some i => exact Nat.le_of_lt (lead_some e).1
theorem L_lead_ok (xs : List Int) (hl : xs.length < 16777216) (μ : List Cell) : F_L_lead [Ri xs] μ = .ok (.int (leadL xs)) μ := by
  have h2 := nz_len xs 0
  have h3 := nz_lead xs 0
  have e : gAdd ⟨[.val (Ri xs), .no, .no], μ⟩ (.lst ((nz 0 xs).map .int)) (.lst [.int (xs.length : Int)]) = some (.lst ((nz 0 xs).map .int ++ [.int (xs.length : Int)])) := add_ll _ _ _ (by simp; omega)
  have ei : intsD ((nz 0 xs).map .int ++ [.int (xs.length : Int)]) = some (nz 0 xs ++ [(xs.length : Int)]) := by
    have := ints_map (nz 0 xs ++ [(xs.length : Int)])
    rwa [List.map_append] at this
  have en : (enD 0 (xs.map .int)).length = xs.length := by rw [enD_len]; simp
  have em : minD (nz 0 xs ++ [(xs.length : Int)]) = some (.int (leadL xs)) := by
    cases el : lead xs with
    | none => rw [el] at h3; simp [h3, minD, leadL, el]
    | some i =>
      rw [el] at h3
      obtain ⟨rest, h4, h5⟩ := h3
      rw [h4]
      simp only [List.cons_append, minD, Nat.zero_add]
      rw [min_head]
      · simp [leadL, el]
      · intro y hy
        rcases List.mem_append.mp hy with hy | hy
        · simpa using h5 y hy
        · have := (lead_some el).1
          simp at hy
          omega
  simp [F_L_lead, b_L_lead, runF, en, nz_comp, gLen, e, gMin, ei, em, Nat.le_of_lt hl]
theorem fdiv_neg {x g : Int} (h : g ∣ x) (h0 : g ≠ 0) : x.fdiv (-g) = -1 * x.fdiv g := by
  obtain ⟨c, rfl⟩ := h
  have h1 : (g * c).fdiv g = c := by rw [Int.mul_fdiv_cancel_left _ h0]
  have h2 : (g * c).fdiv (-g) = -c := by
    rw [show g * c = (-g) * (-c) from by rw [Int.neg_mul_neg], Int.mul_fdiv_cancel_left _ (by omega)]
  rw [h1, h2]
  omega
theorem mulOk_of {a b : Int} {n m : Nat} (ha : a.natAbs < 2 ^ n) (hb : b.natAbs < 2 ^ m) (hn : 0 < n) (hm : 0 < m) (h : n + m ≤ 50000) : mulOk a b = true := by
  have h1 := log_lt ha hn
  have h2 := log_lt hb hm
  unfold mulOk
  exact decide_eq_true (by omega)
theorem fdiv_abs {x g : Int} (h : g ∣ x) (h0 : g ≠ 0) : (x.fdiv g).natAbs ≤ x.natAbs := by
  obtain ⟨c, rfl⟩ := h
  rw [Int.mul_fdiv_cancel_left _ h0, Int.natAbs_mul]
  have : 1 ≤ g.natAbs := by omega
  exact Nat.le_mul_of_pos_left _ this
theorem shareL_for (r q : DL.Slot) (μ : List Cell) : ∀ (xs : List Int) (g : Nat) (c : DL.Slot), ∃ c', (c' = c ∨ ∃ d, c' = .val d) ∧ dFor (gNm 2) (dAsg 1 (dCall F_L_gcd (dCons (dVar 1) (dCons (dVar 2) dNil)))) (xs.map .int) ⟨[r, .val (.int g), c, q], μ⟩ = .nx ⟨[r, .val (.int (gcdF g xs)), c', q], μ⟩
  | [], g, c => ⟨c, .inl rfl, rfl⟩
  | x :: xs, g, c => by
    obtain ⟨c', hc, e⟩ := shareL_for r q μ xs (Int.gcd g x) (.val (.int x))
    refine ⟨c', .inr (hc.elim (fun z => ⟨_, z⟩) fun z => z), ?_⟩
    simp [dFor, L_gcd_ok, gcdF]
    exact e
theorem divL_comp (r c : DL.Slot) (μ : List Cell) {s g : Int} (hs : s = 1 ∨ s = -1) (h0 : g ≠ 0) (h : ∀ a, fdivOk a g = true) : ∀ xs : List Int, (∀ x ∈ xs, g ∣ x ∧ x.natAbs < 2 ^ 8000) → dLcGo [2] (gNm 2) dYes (dOp gMul (dVar 3) (dOp gFdiv (dVar 2) (dVar 1))) (xs.map .int) ⟨[r, .val (.int g), c, .val (.int s)], μ⟩ = .ok (xs.map fun x => .int (s * x.fdiv g)) ⟨[r, .val (.int g), c, .val (.int s)], μ⟩
  | [], _ => rfl
  | x :: xs, hx => by
    obtain ⟨h1, h2⟩ := hx x (by simp)
    have hm : mulOk s (x.fdiv g) = true := mulOk_of (n := 1) (m := 8000) (by rcases hs with rfl | rfl <;> decide) (by have := fdiv_abs h1 h0; omega) (by decide) (by decide) (by decide)
    simp [dLcGo, wipeD, backD, fdiv_ii (h x), mul_ii hm, divL_comp r c μ hs h0 h xs fun y hy => hx y (by simp [hy])]
theorem L_lowest_ok {xs : List Int} (h : Bd 8000 xs) (hl : xs.length < 16777216) (μ : List Cell) : F_L_lowest [Ri xs] μ = .ok (Ri (low xs)) μ := by
  obtain ⟨c', hc, e⟩ := shareL_for (.val (Ri xs)) .no μ xs 0 .no
  have hc : c' = .no ∨ ∃ d, c' = .val d := hc
  have e : dFor (gNm 2) (dAsg 1 (dCall F_L_gcd (dCons (dVar 1) (dCons (dVar 2) dNil)))) (xs.map .int) ⟨[.val (Ri xs), .val (.int 0), .no, .no], μ⟩ = .nx ⟨[.val (Ri xs), .val (.int (gcdL xs)), c', .no], μ⟩ := e
  have hl2 := Nat.le_of_lt hl
  by_cases h0 : gcdL xs = 0
  · simp [F_L_lowest, b_L_lowest, runF, dForI, e, h0, gTuple, low]
  · have h1 : ((gcdL xs : Int) == 0) = false := by simpa using h0
    cases el : lead xs with
    | none => exact absurd (gcdL_zero.mpr el) h0
    | some i =>
      obtain ⟨hi, hx⟩ := lead_some el
      have hb := gcdL_bd h h0
      have hg : ((gcdL xs : Nat) : Int) ≠ 0 := by omega
      have lv : leadV xs = xs[i] := by
        unfold leadV
        rw [el]
        simp [List.getD, hi]
      have ll : leadL xs = i := by unfold leadL; rw [el]
      have hd : ∀ x ∈ xs, (gcdL xs : Int) ∣ x ∧ x.natAbs < 2 ^ 8000 := fun x hx => ⟨(gcdF_dvd xs 0).2 x hx, h x hx⟩
      have ok : ∀ a, fdivOk a (gcdL xs : Int) = true := fun a => fdivOk_of (n := 8000) (by omega) (by omega) (by decide) (by decide)
      by_cases hs : xs[i] < 0
      · have ed : decide (0 < xs[i]) = false := decide_eq_false (by omega)
        have es : sgn xs = -(gcdL xs : Int) := by unfold sgn; rw [lv, if_pos hs]
        have el2 : low xs = xs.map fun x => -1 * x.fdiv (gcdL xs) := by
          unfold low
          rw [if_neg h0, es]
          exact List.map_congr_left fun x hx => fdiv_neg (hd x hx).1 hg
        have dc := divL_comp (.val (Ri xs)) c' μ (.inr rfl : (-1 : Int) = 1 ∨ (-1 : Int) = -1) hg ok xs hd
        rw [el2]
        rcases hc with rfl | ⟨d, rfl⟩ <;> simp [F_L_lowest, b_L_lowest, runF, dForI, e, h1, L_lead_ok _ hl, ll, ix_row _ _ _ hi, ed, gTuple, hl2, dc]
      · have ed : decide (0 < xs[i]) = true := decide_eq_true (by omega)
        have es : sgn xs = (gcdL xs : Int) := by unfold sgn; rw [lv, if_neg hs]
        have el2 : low xs = xs.map fun x => 1 * x.fdiv (gcdL xs) := by
          unfold low
          rw [if_neg h0, es]
          exact List.map_congr_left fun x hx => by rw [Int.one_mul]
        have dc := divL_comp (.val (Ri xs)) c' μ (.inl rfl : (1 : Int) = 1 ∨ (1 : Int) = -1) hg ok xs hd
        rw [el2]
        rcases hc with rfl | ⟨d, rfl⟩ <;> simp [F_L_lowest, b_L_lowest, runF, dForI, e, h1, L_lead_ok _ hl, ll, ix_row _ _ _ hi, ed, gTuple, hl2, dc]
end K12

namespace K12
open PySem PySem.Spec PyProof.Rows L2 DL
/-! ### rows put together -/
def zw (f : Int → Int → Int) (xs ys : List Int) : List Int := List.zipWith f xs ys
theorem zw_len {f : Int → Int → Int} {xs ys : List Int} (h : xs.length = ys.length) : (zw f xs ys).length = xs.length := by simp [zw, h]
theorem tup_ints (s : S) (xs : List Int) : gTuple s [.lst (xs.map .int)] = some (Ri xs) := rfl
theorem sum_ints (s : S) (xs : List Int) : gSum s [.lst (xs.map .int)] = some (.int xs.sum) := by simp [gSum, ints_map]
theorem add_comp (a b : DL.Slot) (μ : List Cell) : ∀ xs ys : List Int, dLcGo [2, 3] (gT (gC (gNm 2) (gC (gNm 3) gN))) dYes (dOp gAdd (dVar 2) (dVar 3)) (zpD (xs.map .int) (ys.map .int)) ⟨[a, b, .no, .no], μ⟩ = .ok ((zw (· + ·) xs ys).map .int) ⟨[a, b, .no, .no], μ⟩
  | [], ys => by simp [zpD, dLcGo, zw]
  | x :: xs, [] => by simp [zpD, dLcGo, zw]
  | x :: xs, y :: ys => by
    have ih := add_comp a b μ xs ys
    unfold zw at ih
    simp [zpD, dLcGo, zw, wipeD, backD, ih]
theorem mul_comp (a b : DL.Slot) (μ : List Cell) {n m : Nat} (hn : 0 < n) (hm : 0 < m) (hnm : n + m ≤ 50000) : ∀ xs ys : List Int, Bd n xs → Bd m ys → dLcGo [2, 3] (gT (gC (gNm 2) (gC (gNm 3) gN))) dYes (dOp gMul (dVar 2) (dVar 3)) (zpD (xs.map .int) (ys.map .int)) ⟨[a, b, .no, .no], μ⟩ = .ok ((zw (· * ·) xs ys).map .int) ⟨[a, b, .no, .no], μ⟩
  | [], ys, _, _ => by simp [zpD, dLcGo, zw]
  | x :: xs, [], _, _ => by simp [zpD, dLcGo, zw]
  | x :: xs, y :: ys, h1, h2 => by
    have ih := mul_comp a b μ hn hm hnm xs ys (fun z hz => h1 z (by simp [hz])) (fun z hz => h2 z (by simp [hz]))
    have hk := mulOk_of (h1 x (by simp)) (h2 y (by simp)) hn hm hnm
    unfold zw at ih
    simp [zpD, dLcGo, zw, wipeD, backD, ih, mul_ii hk]
theorem zp_len (xs ys : List Int) : (zpD (xs.map .int) (ys.map .int)).length = min xs.length ys.length := by simp [zpD_len]
theorem sum_of_rows_ok (xs ys : List Int) (hl : xs.length ≤ 16777216) (μ : List Cell) : F_sum_of_rows [Ri xs, Ri ys] μ = .ok (Ri (zw (· + ·) xs ys)) μ := by
  have h : min xs.length ys.length ≤ 16777216 := by omega
  simp [F_sum_of_rows, b_sum_of_rows, runF, zp_len, h, add_comp, tup_ints]
theorem dot_ok {xs ys : List Int} {n m : Nat} (hn : 0 < n) (hm : 0 < m) (hnm : n + m ≤ 50000) (h1 : Bd n xs) (h2 : Bd m ys) (hl : xs.length ≤ 16777216) (μ : List Cell) : F_dot [Ri xs, Ri ys] μ = .ok (.int (zw (· * ·) xs ys).sum) μ := by
  have h : min xs.length ys.length ≤ 16777216 := by omega
  simp [F_dot, b_dot, runF, zp_len, h, mul_comp _ _ _ hn hm hnm _ _ h1 h2, sum_ints]
theorem L_dot_ok {xs ys : List Int} {n m : Nat} (hn : 0 < n) (hm : 0 < m) (hnm : n + m ≤ 50000) (h1 : Bd n xs) (h2 : Bd m ys) (hl : xs.length ≤ 16777216) (μ : List Cell) : F_L_dot [Ri xs, Ri ys] μ = .ok (.int (zw (· * ·) xs ys).sum) μ := dot_ok hn hm hnm h1 h2 hl μ
theorem times_comp (a b : DL.Slot) (μ : List Cell) {k : Int} {n m : Nat} (hn : 0 < n) (hm : 0 < m) (hnm : n + m ≤ 50000) (hk : k.natAbs < 2 ^ n) : ∀ xs : List Int, Bd m xs → dLcGo [2] (gNm 2) dYes (dOp gMul (dVar 0) (dVar 2)) (xs.map .int) ⟨[.val (.int k), b, .no], μ⟩ = .ok ((xs.map fun x => k * x).map .int) ⟨[.val (.int k), b, .no], μ⟩
  | [], _ => rfl
  | x :: xs, h => by
    have ih := times_comp a b μ hn hm hnm hk xs fun z hz => h z (by simp [hz])
    have hx := mulOk_of hk (h x (by simp)) hn hm hnm
    simp only [List.map_map] at ih
    simp [dLcGo, wipeD, backD, ih, mul_ii hx]
theorem times_row_ok {k : Int} {xs : List Int} {n m : Nat} (hn : 0 < n) (hm : 0 < m) (hnm : n + m ≤ 50000) (hk : k.natAbs < 2 ^ n) (h : Bd m xs) (hl : xs.length ≤ 16777216) (μ : List Cell) : F_times_row [.int k, Ri xs] μ = .ok (Ri (xs.map fun x => k * x)) μ := by
  have e := times_comp (.no) (.val (Ri xs)) μ hn hm hnm hk xs h
  simp only [List.map_map] at e
  simp [F_times_row, b_times_row, runF, hl, e, gTuple]
/-! ### the checks -/
theorem ri_len (xs : List Int) : ∀ ys, Ri xs = .tup ys → ys.length = xs.length := fun ys h => by
  cases h
  simp
theorem require_row_ok {w : Nat} {xs : List Int} (h : xs.length = w) (hl : w ≤ 16777216) (μ : List Cell) : F_require_row [.int w, Ri xs] μ = .ok .non μ := by
  have e := is_plain_row_ok (w := w) (ri_fine xs) (fun ys hy => by rw [ri_len _ _ hy]; omega) μ
  rw [rowB_ri, show (xs.length == w) = true from by simpa using h] at e
  simp [F_require_row, b_require_row, runF, e]
theorem plain_rows (a : D) (μ : List Cell) {w : Nat} (b c : DL.Slot) : ∀ ds : List D, (∀ d ∈ ds, Fine d ∧ ∀ xs, d = .tup xs → xs.length ≤ 16777216) → dLcGo [2] (gNm 2) dYes (dCall F_is_plain_row (dCons (dVar 0) (dCons (dVar 2) dNil))) ds ⟨[.val (.int w), b, c], μ⟩ = .ok (ds.map fun d => .bl (rowB w d)) ⟨[.val (.int w), b, c], μ⟩
  | [], _ => rfl
  | d :: ds, h => by
    obtain ⟨h1, h2⟩ := h d (by simp)
    simp [dLcGo, wipeD, backD, is_plain_row_ok h1 h2, h1.no, plain_rows a μ b c ds fun x hx => h x (by simp [hx])]
theorem require_rows_ok {w : Nat} {m : List (List Int)} (h : ∀ r ∈ m, r.length = w) (hw : w ≤ 16777216) (hl : m.length ≤ 16777216) (μ : List Cell) : F_require_rows [.int w, .tup (m.map Ri)] μ = .ok .non μ := by
  have e := plain_rows (.non) μ (w := w) (.val (.tup (m.map Ri))) .no (m.map Ri) fun d hd => by
    obtain ⟨r, hr, rfl⟩ := List.mem_map.mp hd
    exact ⟨ri_fine r, fun ys hy => by rw [ri_len _ _ hy, h r hr]; exact hw⟩
  have ha : (m.map Ri).all (rowB w) = true := by
    rw [List.all_map, List.all_eq_true]
    intro r hr
    show rowB w (Ri r) = true
    rw [rowB_ri]
    simpa using h r hr
  simp [F_require_rows, b_require_rows, runF, gIsi, tyD, kitB, hl, e, -List.map_map, ha]
end K12

namespace K12
open PySem PySem.Spec PyProof.Rows L2 DL
/-! ### less -/
def at0 (xs : List Int) (j : Nat) : Int := xs.getD j 0
def less (row other : List Int) : List Int := match lead other with
  | none => row
  | some i => if at0 row i = 0 then row else zw (fun a b => at0 other i * a - at0 row i * b) row other
theorem at0_lt {xs : List Int} {i : Nat} (h : i < xs.length) : at0 xs i = xs[i] := by simp [at0, List.getD, h]
theorem at0_ge {xs : List Int} {i : Nat} (h : xs.length ≤ i) : at0 xs i = 0 := by simp [at0, List.getD, h]
theorem lead_iff {xs : List Int} {i : Nat} : lead xs = some i ↔ at0 xs i ≠ 0 ∧ ∀ j < i, at0 xs j = 0 := by
  induction xs generalizing i with
  | nil => simp [lead, at0]
  | cons x xs ih =>
    unfold lead
    by_cases h : x = 0
    · rw [if_pos h]
      simp only [Option.map_eq_some_iff]
      constructor
      · rintro ⟨k, h1, rfl⟩
        obtain ⟨h2, h3⟩ := ih.mp h1
        refine ⟨by simpa [at0] using h2, fun j hj => ?_⟩
        cases j with
        | zero => simpa [at0] using h
        | succ j => simpa [at0] using h3 j (by omega)
      · rintro ⟨h2, h3⟩
        cases i with
        | zero => simp [at0] at h2; exact absurd h h2
        | succ i => exact ⟨i, ih.mpr ⟨by simpa [at0] using h2, fun j hj => by simpa [at0] using h3 (j + 1) (by omega)⟩, rfl⟩
    · rw [if_neg h]
      constructor
      · intro e
        cases e
        exact ⟨by simpa [at0] using h, fun j hj => by omega⟩
      · rintro ⟨h2, h3⟩
        cases i with
        | zero => rfl
        | succ i => exact absurd (by simpa [at0] using h3 0 (by omega)) h
theorem lead_ne {xs : List Int} {j : Nat} (h : at0 xs j ≠ 0) : ∃ i, lead xs = some i ∧ i ≤ j := by
  cases e : lead xs with
  | none =>
    by_cases hj : j < xs.length
    · rw [at0_lt hj] at h
      exact absurd (lead_none.mp e _ (List.getElem_mem hj)) h
    · exact absurd (at0_ge (by omega)) h
  | some i =>
    refine ⟨i, rfl, ?_⟩
    by_cases hj : j < i
    · exact absurd ((lead_iff.mp e).2 j hj) h
    · omega
theorem zw_at {f : Int → Int → Int} (h0 : f 0 0 = 0) {xs ys : List Int} (h : xs.length = ys.length) (j : Nat) : at0 (zw f xs ys) j = f (at0 xs j) (at0 ys j) := by
  by_cases hj : j < xs.length
  · rw [at0_lt (by rw [zw_len h]; exact hj), at0_lt hj, at0_lt (by omega)]
    simp [zw]
  · rw [at0_ge (by rw [zw_len h]; omega), at0_ge (by omega), at0_ge (by omega), h0]
theorem less_len {row other : List Int} (h : row.length = other.length) : (less row other).length = row.length := by
  unfold less
  split
  · rfl
  · split
    · rfl
    · exact zw_len h
theorem less_zero {row other : List Int} (h : row.length = other.length) {i : Nat} (hi : lead other = some i) : at0 (less row other) i = 0 := by
  unfold less
  rw [hi]
  simp only
  split
  · assumption
  · rw [zw_at (by simp) h]
    rw [Int.mul_comm]
    omega
theorem less_iff {row other : List Int} (h : row.length = other.length) {j : Nat} (hj : at0 other j = 0) : at0 (less row other) j = 0 ↔ at0 row j = 0 := by
  unfold less
  split
  · exact Iff.rfl
  · rename_i i hi
    have h1 := (lead_iff.mp hi).1
    split
    · exact Iff.rfl
    · rw [zw_at (by simp) h, hj, Int.mul_zero, Int.sub_zero]
      constructor
      · intro e
        rcases Int.mul_eq_zero.mp e with e | e
        · exact absurd e h1
        · exact e
      · intro e
        rw [e, Int.mul_zero]
theorem bd_at {n : Nat} {xs : List Int} (h : Bd n xs) (j : Nat) : (at0 xs j).natAbs < 2 ^ n := by
  by_cases hj : j < xs.length
  · rw [at0_lt hj]
    exact h _ (List.getElem_mem hj)
  · rw [at0_ge (by omega)]
    exact Nat.pow_pos (by decide)
theorem Bd.mono {n m : Nat} {xs : List Int} (h : Bd n xs) (hn : n ≤ m) : Bd m xs := fun x hx => Nat.lt_of_lt_of_le (h x hx) (Nat.pow_le_pow_right (by decide) hn)
theorem comb_bd {a b c d : Int} {n m : Nat} (ha : a.natAbs < 2 ^ m) (hb : b.natAbs < 2 ^ n) (hc : c.natAbs < 2 ^ n) (hd : d.natAbs < 2 ^ m) : (a * b - c * d).natAbs < 2 ^ (n + m + 1) := by
  have h1 : (a * b).natAbs < 2 ^ (n + m) := by
    rw [Int.natAbs_mul, Nat.add_comm, Nat.pow_add]
    exact Nat.mul_lt_mul'' ha hb
  have h2 : (c * d).natAbs < 2 ^ (n + m) := by
    rw [Int.natAbs_mul, Nat.pow_add]
    exact Nat.mul_lt_mul'' hc hd
  have h3 : (2 : Nat) ^ (n + m + 1) = 2 ^ (n + m) + 2 ^ (n + m) := by rw [Nat.pow_succ]; omega
  omega
theorem less_bd {n m : Nat} {row other : List Int} (h1 : Bd n row) (h2 : Bd m other) : Bd (n + m + 1) (less row other) := by
  unfold less
  split
  · exact h1.mono (by omega)
  · split
    · exact h1.mono (by omega)
    · intro x hx
      unfold zw at hx
      rw [List.mem_iff_getElem] at hx
      obtain ⟨j, hj, rfl⟩ := hx
      rw [List.getElem_zipWith]
      exact comb_bd (bd_at h2 _) (h1 _ (List.getElem_mem _)) (bd_at h1 _) (h2 _ (List.getElem_mem _))
theorem less_comp (μ : List Cell) {row other : List Int} {i : Nat} (hi : i < row.length) (hi2 : i < other.length) {n m : Nat} (hn : 0 < n) (hm : 0 < m) (hnm : n + m ≤ 50000) (br : Bd n row) (bo : Bd m other) : ∀ xs ys : List Int, Bd n xs → Bd m ys →
    dLcGo [3, 4] (gT (gC (gNm 3) (gC (gNm 4) gN))) dYes (dOp gSub (dOp gMul (dOp gIx (dVar 1) (dVar 2)) (dVar 3)) (dOp gMul (dOp gIx (dVar 0) (dVar 2)) (dVar 4))) (zpD (xs.map .int) (ys.map .int)) ⟨[.val (Ri row), .val (Ri other), .val (.int i), .no, .no], μ⟩ =
      .ok ((zw (fun a b => at0 other i * a - at0 row i * b) xs ys).map .int) ⟨[.val (Ri row), .val (Ri other), .val (.int i), .no, .no], μ⟩
  | [], ys, _, _ => by simp [zpD, dLcGo, zw]
  | x :: xs, [], _, _ => by simp [zpD, dLcGo, zw]
  | x :: xs, y :: ys, h1, h2 => by
    have ih := less_comp μ hi hi2 hn hm hnm br bo xs ys (fun z hz => h1 z (by simp [hz])) (fun z hz => h2 z (by simp [hz]))
    have k1 := mulOk_of (bo _ (List.getElem_mem hi2)) (h1 x (by simp)) hm hn (by omega)
    have k2 := mulOk_of (br _ (List.getElem_mem hi)) (h2 y (by simp)) hn hm hnm
    unfold zw at ih
    simp [zpD, dLcGo, zw, wipeD, backD, ih, ix_row _ _ _ hi, ix_row _ _ _ hi2, mul_ii k1, mul_ii k2, at0_lt hi, at0_lt hi2]
theorem less_by_ok {row other : List Int} (h : row.length = other.length) (hl : row.length ≤ 16777216) {i : Nat} (hi : lead other = some i) {n m : Nat} (hn : 0 < n) (hm : 0 < m) (hnm : n + m ≤ 50000) (br : Bd n row) (bo : Bd m other) (μ : List Cell) :
    F_less_by [Ri row, Ri other] μ = .ok (Ri (less row other)) μ := by
  have hio := (lead_some hi).1
  have hir : i < row.length := by omega
  by_cases h0 : row[i] = 0
  · have e : (row[i] == 0) = true := by simpa using h0
    have el : less row other = row := by unfold less; rw [hi]; simp only [at0_lt hir, h0, if_true]
    rw [el]
    simp [F_less_by, b_less_by, runF, lead_in_ok, hi, optD, ix_row _ _ _ hir, e]
  · have e : (row[i] == 0) = false := by simpa using h0
    have el : less row other = zw (fun a b => at0 other i * a - at0 row i * b) row other := by unfold less; rw [hi]; simp only [at0_lt hir, h0, if_false]
    have hmin : min row.length other.length ≤ 16777216 := by omega
    rw [el]
    simp [F_less_by, b_less_by, runF, lead_in_ok, hi, optD, ix_row _ _ _ hir, e, zp_len, hmin, less_comp μ hir hio hn hm hnm br bo row other br bo, tup_ints]
end K12

namespace K12
open PySem PySem.Spec PyProof.Rows L2 DL
/-! ### low, by places -/
theorem fdiv_zero_iff {x g : Int} (h : g ∣ x) (h0 : g ≠ 0) : x.fdiv g = 0 ↔ x = 0 := by
  obtain ⟨c, rfl⟩ := h
  rw [Int.mul_fdiv_cancel_left _ h0]
  constructor
  · intro e; rw [e, Int.mul_zero]
  · intro e
    rcases Int.mul_eq_zero.mp e with e | e
    · exact absurd e h0
    · exact e
theorem sgn_ne {xs : List Int} (h : gcdL xs ≠ 0) : sgn xs ≠ 0 := by unfold sgn; split <;> omega
theorem sgn_dvd {xs : List Int} {x : Int} (h : x ∈ xs) : sgn xs ∣ x := by
  have := (gcdF_dvd xs 0).2 x h
  unfold sgn
  split
  · exact Int.neg_dvd.mpr this
  · exact this
theorem low_len (xs : List Int) : (low xs).length = xs.length := by unfold low; split <;> simp
theorem low_at {xs : List Int} (j : Nat) : at0 (low xs) j = 0 ↔ at0 xs j = 0 := by
  unfold low
  split
  · exact Iff.rfl
  · rename_i h
    by_cases hj : j < xs.length
    · rw [at0_lt (by simpa using hj), at0_lt hj, List.getElem_map]
      exact fdiv_zero_iff (sgn_dvd (List.getElem_mem hj)) (sgn_ne h)
    · rw [at0_ge (by simpa using hj), at0_ge (by omega)]
theorem low_bd {n : Nat} {xs : List Int} (h : Bd n xs) : Bd n (low xs) := by
  unfold low
  split
  · exact h
  · rename_i h0
    intro x hx
    obtain ⟨y, hy, rfl⟩ := List.mem_map.mp hx
    exact Nat.lt_of_le_of_lt (fdiv_abs (sgn_dvd hy) (sgn_ne h0)) (h y hy)
theorem lead_congr {xs ys : List Int} (h : ∀ j, at0 xs j = 0 ↔ at0 ys j = 0) : lead xs = lead ys := by
  cases e : lead xs with
  | none =>
    cases e2 : lead ys with
    | none => rfl
    | some i =>
      obtain ⟨k, h1, _⟩ := lead_ne (xs := xs) (j := i) (fun z => (lead_iff.mp e2).1 ((h i).mp z))
      rw [e] at h1
      cases h1
  | some i =>
    obtain ⟨h1, h2⟩ := lead_iff.mp e
    exact (lead_iff.mpr ⟨fun z => h1 ((h i).mpr z), fun j hj => (h j).mp (h2 j hj)⟩).symm
theorem lead_low (xs : List Int) : lead (low xs) = lead xs := lead_congr fun j => low_at j
/-! ### lots -/
def Apart (r r' : List Int) : Prop := (∀ i, lead r = some i → at0 r' i = 0) ∧ ∀ i, lead r' = some i → at0 r i = 0
theorem Apart.symm {r r' : List Int} (h : Apart r r') : Apart r' r := ⟨h.2, h.1⟩
structure Lt (w n : Nat) (m : List (List Int)) : Prop where
  len : ∀ r ∈ m, r.length = w
  bd : ∀ r ∈ m, Bd n r
  ld : ∀ r ∈ m, lead r ≠ none
  ap : m.Pairwise Apart
theorem Lt.mono {w n k : Nat} {m : List (List Int)} (h : Lt w n m) (hn : n ≤ k) : Lt w k m := ⟨h.len, fun r hr => (h.bd r hr).mono hn, h.ld, h.ap⟩
theorem Lt.perm {w n : Nat} {m m' : List (List Int)} (h : Lt w n m) (p : m'.Perm m) : Lt w n m' :=
  ⟨fun r hr => h.len r (p.mem_iff.mp hr), fun r hr => h.bd r (p.mem_iff.mp hr), fun r hr => h.ld r (p.mem_iff.mp hr), (p.pairwise_iff (fun {_ _} q => q.symm)).mpr h.ap⟩
def rest (lot : List (List Int)) (row : List Int) : List Int := lot.foldl less row
theorem rest_len {w : Nat} : ∀ {lot : List (List Int)} {row : List Int}, (∀ r ∈ lot, r.length = w) → row.length = w → (rest lot row).length = w
  | [], row, _, h => h
  | o :: lot, row, hl, h => by
    have ho := hl o (by simp)
    exact rest_len (lot := lot) (row := less row o) (fun r hr => hl r (by simp [hr])) (by rw [less_len (by omega)]; exact h)
theorem rest_bd {n : Nat} : ∀ {lot : List (List Int)} {row : List Int} {r : Nat}, (∀ o ∈ lot, Bd n o) → Bd r row → Bd (r + lot.length * (n + 1)) (rest lot row)
  | [], row, r, _, h => by simpa [rest] using h
  | o :: lot, row, r, hl, h => by
    have := rest_bd (lot := lot) (row := less row o) (r := r + n + 1) (fun o ho => hl o (by simp [ho])) (less_bd h (hl o (by simp)))
    rw [List.length_cons, show r + (lot.length + 1) * (n + 1) = r + n + 1 + lot.length * (n + 1) from by rw [Nat.add_mul]; omega]
    exact this
/-- what is 0 stays so -/
theorem rest_keep {w : Nat} {j : Nat} : ∀ {lot : List (List Int)} {row : List Int}, (∀ r ∈ lot, r.length = w) → row.length = w → (∀ o ∈ lot, at0 o j = 0) → at0 row j = 0 → at0 (rest lot row) j = 0
  | [], row, _, _, _, h => h
  | o :: lot, row, hl, hr, ho, h => rest_keep (lot := lot) (row := less row o) (fun r hr => hl r (by simp [hr])) (by rw [less_len (by have := hl o (by simp); omega)]; exact hr) (fun o ho' => ho o (by simp [ho']))
      ((less_iff (by have := hl o (by simp); omega) (ho o (by simp))).mpr h)
theorem rest_zero {w : Nat} : ∀ {lot : List (List Int)} {row : List Int}, (∀ r ∈ lot, r.length = w) → row.length = w → lot.Pairwise Apart → ∀ o ∈ lot, ∀ i, lead o = some i → at0 (rest lot row) i = 0
  | [], row, _, _, _ => fun o ho => by simp at ho
  | p :: lot, row, hl, hr, ha => fun o ho i hi => by
    rw [List.pairwise_cons] at ha
    have hp := hl p (by simp)
    have hl' : ∀ r ∈ lot, r.length = w := fun r hr => hl r (by simp [hr])
    have hr' : (less row p).length = w := by rw [less_len (by omega)]; exact hr
    rcases List.mem_cons.mp ho with rfl | ho
    · exact rest_keep (lot := lot) (row := less row o) hl' hr' (fun q hq => (ha.1 q hq).1 i hi) (less_zero (by omega) hi)
    · exact rest_zero (lot := lot) (row := less row p) hl' hr' ha.2 o ho i hi
/-- a row of the lot, rid of a new one that is 0 at its lead -/
theorem less_lead {o left : List Int} (h : o.length = left.length) {i j : Nat} (hi : lead o = some i) (hj : lead left = some j) (h0 : at0 left i = 0) : lead (less o left) = some i := by
  obtain ⟨a1, a2⟩ := lead_iff.mp hi
  obtain ⟨b1, b2⟩ := lead_iff.mp hj
  refine lead_iff.mpr ⟨fun z => a1 ((less_iff h h0).mp z), fun k hk => ?_⟩
  by_cases hz : at0 left k = 0
  · exact (less_iff h hz).mpr (a2 k hk)
  · obtain ⟨j', h1, h2⟩ := lead_ne hz
    rw [hj] at h1
    cases h1
    have e : less o left = o := by unfold less; rw [hj]; simp only [a2 j (by omega), if_true]
    rw [e]
    exact a2 k hk
theorem lt_with {w n : Nat} {lot : List (List Int)} {left : List Int} (L : Lt w n lot) (hl : left.length = w) {b : Nat} (hb : Bd b left) {j : Nat} (hj : lead left = some j) (h0 : ∀ o ∈ lot, ∀ i, lead o = some i → at0 left i = 0) :
    Lt w (n + b + 1) (lot.map (fun o => low (less o left)) ++ [left]) := by
  have key : ∀ o ∈ lot, lead (low (less o left)) = lead o := fun o ho => by
    cases e : lead o with
    | none => exact absurd e (L.ld o ho)
    | some i => rw [lead_low, less_lead (by rw [L.len o ho, hl]) e hj (h0 o ho i e)]
  refine ⟨fun r hr => ?_, fun r hr => ?_, fun r hr => ?_, ?_⟩
  · rcases List.mem_append.mp hr with hr | hr
    · obtain ⟨o, ho, rfl⟩ := List.mem_map.mp hr
      rw [low_len, less_len (by rw [L.len o ho, hl]), L.len o ho]
    · simp at hr; subst hr; exact hl
  · rcases List.mem_append.mp hr with hr | hr
    · obtain ⟨o, ho, rfl⟩ := List.mem_map.mp hr
      exact low_bd (less_bd (L.bd o ho) hb)
    · simp at hr; subst hr; exact hb.mono (by omega)
  · rcases List.mem_append.mp hr with hr | hr
    · obtain ⟨o, ho, rfl⟩ := List.mem_map.mp hr
      rw [key o ho]
      exact L.ld o ho
    · simp at hr; subst hr; rw [hj]; exact fun z => nomatch z
  · rw [List.pairwise_append]
    refine ⟨?_, by simp, fun r hr r' hr' => ?_⟩
    · rw [List.pairwise_map]
      refine L.ap.imp_of_mem fun {o o'} ho ho' ap => ?_
      have one : ∀ o ∈ lot, ∀ o' ∈ lot, (∀ i, lead o = some i → at0 o' i = 0) → ∀ i, lead (low (less o left)) = some i → at0 (low (less o' left)) i = 0 := fun o ho o' ho' h i hi => by
        rw [key o ho] at hi
        rw [low_at]
        exact (less_iff (by rw [L.len o' ho', hl]) (h0 o ho i hi)).mpr (h i hi)
      exact ⟨one o ho o' ho' ap.1, one o' ho' o ho ap.2⟩
    · simp at hr'
      subst hr'
      obtain ⟨o, ho, rfl⟩ := List.mem_map.mp hr
      refine ⟨fun i hi => ?_, fun i hi => ?_⟩
      · rw [key o ho] at hi
        exact h0 o ho i hi
      · rw [low_at]
        exact less_zero (by rw [L.len o ho, hl]) hi
/-! ### the program's words for lots -/
theorem rest_loop (μ : List Cell) (a : DL.Slot) {w n : Nat} (hw : w ≤ 16777216) (hn : 0 < n) : ∀ (lot : List (List Int)) (row : List Int) (r : Nat) (c : DL.Slot), (∀ o ∈ lot, o.length = w ∧ Bd n o ∧ lead o ≠ none) → row.length = w → Bd r row → 0 < r → r + (lot.length + 1) * (n + 1) ≤ 40000 →
    ∃ c', dFor (gNm 2) (dAsg 1 (dCall F_less_by (dCons (dVar 1) (dCons (dVar 2) dNil)))) (lot.map Ri) ⟨[a, .val (Ri row), c], μ⟩ = .nx ⟨[a, .val (Ri (rest lot row)), c'], μ⟩
  | [], row, r, c, _, _, _, _, _ => ⟨c, rfl⟩
  | o :: lot, row, r, c, hl, hr, hb, hr0, hz => by
    obtain ⟨h1, h2, h3⟩ := hl o (by simp)
    cases e : lead o with
    | none => exact absurd e h3
    | some i =>
      have hs : r + (lot.length + 1 + 1) * (n + 1) = r + n + 1 + (lot.length + 1) * (n + 1) := by rw [Nat.add_mul (lot.length + 1)]; omega
      rw [List.length_cons, hs] at hz
      obtain ⟨c', e2⟩ := rest_loop μ a hw hn lot (less row o) (r + n + 1) (.val (Ri o)) (fun q hq => hl q (by simp [hq])) (by rw [less_len (by omega)]; exact hr) (less_bd hb h2) (by omega) hz
      refine ⟨c', ?_⟩
      have e3 := less_by_ok (row := row) (other := o) (by omega) (by omega) e hr0 hn (by omega) hb h2 μ
      simp [dFor, e3, -List.map_map]
      exact e2
theorem rest_by_ok {w n r : Nat} (hw : w ≤ 16777216) (hn : 0 < n) {lot : List (List Int)} {row : List Int} (hl : ∀ o ∈ lot, o.length = w ∧ Bd n o ∧ lead o ≠ none) (hr : row.length = w) (hb : Bd r row) (hr0 : 0 < r) (hz : r + (lot.length + 1) * (n + 1) ≤ 40000) (μ : List Cell) :
    F_rest_by [.tup (lot.map Ri), Ri row] μ = .ok (Ri (rest lot row)) μ := by
  obtain ⟨c', e⟩ := rest_loop μ (.val (.tup (lot.map Ri))) hw hn lot row r .no hl hr hb hr0 hz
  simp [F_rest_by, b_rest_by, runF, dForI, e, -List.map_map]
theorem with_comp (μ : List Cell) (a b d : DL.Slot) {w n r : Nat} (hw : w ≤ 16777216) (hn : 0 < n) (hr0 : 0 < r) (hz : n + r + 1 ≤ 8000) {left : List Int} (hl : left.length = w) (hb : Bd r left) {j : Nat} (hj : lead left = some j) : ∀ lot : List (List Int), (∀ o ∈ lot, o.length = w ∧ Bd n o) →
    dLcGo [4] (gNm 4) dYes (dCall F_lowest_row (dCons (dCall F_less_by (dCons (dVar 4) (dCons (dVar 2) dNil))) dNil)) (lot.map Ri) ⟨[a, b, .val (Ri left), d, .no], μ⟩ = .ok ((lot.map fun o => low (less o left)).map Ri) ⟨[a, b, .val (Ri left), d, .no], μ⟩
  | [], _ => rfl
  | o :: lot, h => by
    obtain ⟨h1, h2⟩ := h o (by simp)
    have ih := with_comp μ a b d hw hn hr0 hz hl hb hj lot fun q hq => h q (by simp [hq])
    have e1 := less_by_ok (row := o) (other := left) (by omega) (by omega) hj hn hr0 (by omega) h2 hb μ
    have e2 := lowest_row_ok (xs := less o left) ((less_bd h2 hb).mono (by omega)) (by rw [less_len (by omega)]; omega) μ
    simp only [List.map_map] at ih
    simp [dLcGo, wipeD, backD, e1, e2, ih]
theorem keys_ok (μ : List Cell) : ∀ m : List (List Int), (∀ r ∈ m, lead r ≠ none) → ∃ ks, keysI F_lead_in (m.map Ri) μ = some (ks, μ) ∧ ks.length = m.length
  | [], _ => ⟨[], rfl, rfl⟩
  | r :: m, h => by
    obtain ⟨ks, h1, h2⟩ := keys_ok μ m fun q hq => h q (by simp [hq])
    cases e : lead r with
    | none => exact absurd e (h r (by simp))
    | some i => exact ⟨(i : Int) :: ks, by simp [keysI, lead_in_ok, e, optD, h1], by simp [h2]⟩
def unRi : D → List Int | .tup ds => ds.filterMap DL.intD | _ => []
theorem unRi_ri (r : List Int) : unRi (Ri r) = r := by
  show (r.map D.int).filterMap DL.intD = r
  rw [List.filterMap_map]
  have : (DL.intD ∘ D.int) = some := rfl
  rw [this, List.filterMap_some]
theorem perm_ri {m : List (List Int)} {ds : List D} (h : ds.Perm (m.map Ri)) : ∃ m' : List (List Int), ds = m'.map Ri ∧ m'.Perm m := by
  refine ⟨ds.map unRi, ?_, ?_⟩
  · rw [List.map_map]
    have : ∀ d ∈ ds, (Ri ∘ unRi) d = d := fun d hd => by
      obtain ⟨r, _, rfl⟩ := List.mem_map.mp (h.mem_iff.mp hd)
      show Ri (unRi (Ri r)) = Ri r
      rw [unRi_ri]
    rw [List.map_congr_left this]
    simp
  · have := h.map unRi
    rw [List.map_map] at this
    have e : (unRi ∘ Ri) = id := funext unRi_ri
    rw [e, List.map_id] at this
    exact this
theorem sortKey_ap {F : FF} {fa : FE} {s : S} {xs : List D} {ks : List Int} {μ' : List Cell} (h : fa s = .ok (.lst xs) s) (hl : xs.length ≤ 16777216) (hk : keysI F xs s.μ = some (ks, μ')) :
    dSortKey F fa s = .ok (.lst (((ks.zip xs).mergeSort fun p q => decide (p.1 ≤ q.1)).map (·.2))) { s with μ := μ' } := by
  unfold dSortKey
  rw [h]
  simp only [bind_ok, asl_lst]
  rw [if_pos hl, hk]
end K12

namespace K12
open PySem PySem.Spec PyProof.Rows L2 DL
/-! ### products, and the rows that are apart from others -/
def dt (x y : List Int) : Int := (zw (· * ·) x y).sum
@[simp] theorem dt_cons (a b : Int) (x y : List Int) : dt (a :: x) (b :: y) = a * b + dt x y := by simp [dt, zw]
@[simp] theorem dt_nil (y : List Int) : dt [] y = 0 := by simp [dt, zw]
@[simp] theorem dt_nil2 (y : List Int) : dt y [] = 0 := by simp [dt, zw]
theorem dt_comm : ∀ x y : List Int, dt x y = dt y x
  | [], y => by simp
  | x :: xs, [] => by simp
  | x :: xs, y :: ys => by rw [dt_cons, dt_cons, dt_comm xs ys, Int.mul_comm]
@[simp] theorem at0_nil (j : Nat) : at0 [] j = 0 := by simp [at0]
@[simp] theorem at0_z (a : Int) (x : List Int) : at0 (a :: x) 0 = a := by simp [at0]
@[simp] theorem at0_s (a : Int) (x : List Int) (j : Nat) : at0 (a :: x) (j + 1) = at0 x j := by simp [at0]
theorem dt_lin (a b : Int) : ∀ {x z r o : List Int}, z.length = r.length → o.length = r.length → (∀ j, at0 z j = a * at0 r j - b * at0 o j) → dt x z = a * dt x r - b * dt x o
  | [], z, r, o, _, _, _ => by simp
  | x :: xs, [], [], [], _, _, _ => by simp
  | x :: xs, z :: zs, r :: rs, o :: os, h1, h2, h => by
    have ih := dt_lin a b (x := xs) (z := zs) (r := rs) (o := os) (by simpa using h1) (by simpa using h2) (fun j => by simpa using h (j + 1))
    have h0 := h 0
    simp only [at0_z] at h0
    rw [dt_cons, dt_cons, dt_cons, ih, h0, Int.mul_sub, Int.mul_add, Int.mul_add, Int.mul_left_comm x a r, Int.mul_left_comm x b o]
    omega
  | x :: xs, [], r :: rs, _, h1, _, _ => by simp at h1
  | x :: xs, z :: zs, [], _, h1, _, _ => by simp at h1
  | x :: xs, [], [], _ :: _, _, h2, _ => by simp at h2
  | x :: xs, _ :: _, _ :: _, [], _, h2, _ => by simp at h2
theorem dt_zero {x z : List Int} (h : ∀ j, at0 z j = 0) : dt x z = 0 := by
  have := dt_lin 0 0 (x := x) (z := z) (r := z) (o := z) rfl rfl (fun j => by rw [h j]; simp)
  simpa using this
theorem dt_map (c : Int) : ∀ x y : List Int, dt (x.map fun a => c * a) y = c * dt x y
  | [], y => by simp
  | x :: xs, [] => by simp
  | x :: xs, y :: ys => by rw [List.map_cons, dt_cons, dt_cons, dt_map c xs ys, Int.mul_add, Int.mul_assoc]
theorem dt_rep : ∀ (n : Nat) (y : List Int), dt (List.replicate n 0) y = 0
  | 0, y => by simp
  | n + 1, [] => by simp
  | n + 1, y :: ys => by rw [List.replicate_succ, dt_cons, dt_rep n ys]; simp
theorem dt_set (v : Int) : ∀ {x y : List Int} {i : Nat}, i < x.length → dt (x.set i v) y = dt x y + (v - at0 x i) * at0 y i
  | [], y, i, h => by simp at h
  | x :: xs, [], i, h => by simp
  | x :: xs, y :: ys, 0, h => by rw [List.set_cons_zero, dt_cons, dt_cons, at0_z, at0_z, Int.sub_mul]; omega
  | x :: xs, y :: ys, i + 1, h => by rw [List.set_cons_succ, dt_cons, dt_cons, dt_set v (by simpa using h), at0_s, at0_s]; omega
theorem at0_set (v : Int) {x : List Int} {i j : Nat} (h : i < x.length) : at0 (x.set i v) j = if j = i then v else at0 x j := by
  unfold at0
  by_cases e : j = i
  · subst e
    simp [List.getD, h]
  · simp [List.getD, e, Ne.symm e]
theorem dt_app {a c : List Int} (h : a.length = c.length) (b d : List Int) : dt (a ++ b) (c ++ d) = dt a c + dt b d := by
  induction a generalizing c with
  | nil => cases c with | nil => simp | cons _ _ => simp at h
  | cons x xs ih => cases c with
    | nil => simp at h
    | cons y ys => rw [List.cons_append, List.cons_append, dt_cons, dt_cons, ih (by simpa using h)]; omega
def Perp (x : List Int) (m : List (List Int)) : Prop := ∀ r ∈ m, dt x r = 0
theorem less_lin {row other : List Int} (h : row.length = other.length) {i : Nat} (hi : lead other = some i) :
    ∃ a b : Int, a ≠ 0 ∧ (0 < at0 other i → 0 < a) ∧ ∀ j, at0 (less row other) j = a * at0 row j - b * at0 other j := by
  unfold less
  rw [hi]
  by_cases h0 : at0 row i = 0
  · exact ⟨1, 0, by decide, fun _ => by decide, fun j => by simp [h0]⟩
  · refine ⟨at0 other i, at0 row i, (lead_iff.mp hi).1, fun z => z, fun j => ?_⟩
    simp only [h0, if_false]
    rw [zw_at (by simp) h]
theorem less_dt {w : Nat} {row other : List Int} (h : row.length = w) (h2 : other.length = w) (hi : lead other ≠ none) :
    ∃ a : Int, a ≠ 0 ∧ ∀ x, dt x other = 0 → dt x (less row other) = a * dt x row := by
  cases e : lead other with
  | none => exact absurd e hi
  | some i =>
    have hro : row.length = other.length := by rw [h, h2]
    obtain ⟨a, b, h3, _, h4⟩ := less_lin hro e
    refine ⟨a, h3, fun x hx => ?_⟩
    have := dt_lin a b (x := x) (z := less row other) (r := row) (o := other) (less_len hro) hro.symm h4
    rw [this, hx]; simp
theorem low_lin (xs : List Int) : ∃ c : Int, c ≠ 0 ∧ ∀ j, at0 xs j = c * at0 (low xs) j := by
  by_cases h0 : gcdL xs = 0
  · exact ⟨1, by decide, fun j => by simp [low, h0]⟩
  · refine ⟨sgn xs, sgn_ne h0, fun j => ?_⟩
    unfold low
    simp only [h0, if_false]
    unfold at0
    by_cases hj : j < xs.length
    · have hm : xs[j] ∈ xs := List.getElem_mem hj
      simp only [List.getD, hj, List.getElem?_eq_getElem, Option.getD_some, List.getElem?_map, Option.map_some]
      exact (Int.mul_fdiv_cancel' (sgn_dvd hm)).symm
    · simp [List.getD, hj]
theorem low_dt (x xs : List Int) : dt x (low xs) = 0 ↔ dt x xs = 0 := by
  obtain ⟨c, h1, h2⟩ := low_lin xs
  have := dt_lin c 0 (x := x) (z := xs) (r := low xs) (o := low xs) (low_len xs).symm rfl (fun j => by rw [h2 j]; simp)
  rw [this, Int.zero_mul, Int.sub_zero, Int.mul_eq_zero]
  exact ⟨fun z => .inr z, fun z => z.elim (fun z => absurd z h1) id⟩
theorem low_pos {xs : List Int} {i : Nat} (h : lead xs = some i) : 0 < at0 (low xs) i := by
  obtain ⟨hi, hx⟩ := lead_some h
  have h0 : gcdL xs ≠ 0 := fun z => by rw [gcdL_zero.mp z] at h; cases h
  have hm : xs[i] ∈ xs := List.getElem_mem hi
  have hl : at0 (low xs) i = xs[i].fdiv (sgn xs) := by
    unfold low at0
    simp [h0, List.getD, hi]
  have hv : leadV xs = xs[i] := by
    unfold leadV
    rw [h]
    simp [List.getD, hi]
  obtain ⟨q, hq⟩ := sgn_dvd hm
  have hs := sgn_ne h0
  rw [hl, hq, Int.mul_fdiv_cancel_left _ hs]
  have hq0 : sgn xs * q ≠ 0 := by rw [← hq]; exact hx
  rcases Int.lt_trichotomy (leadV xs) 0 with hn | hn | hn
  · have es : sgn xs = -(gcdL xs : Int) := by unfold sgn; rw [if_pos hn]
    have : sgn xs * q < 0 := by omega
    rw [es, Int.neg_mul] at this
    have : 0 < (gcdL xs : Int) * q := by omega
    exact Int.pos_of_mul_pos_right this (by omega)
  · omega
  · have es : sgn xs = (gcdL xs : Int) := by unfold sgn; rw [if_neg (by omega)]
    have : 0 < sgn xs * q := by omega
    rw [es] at this
    exact Int.pos_of_mul_pos_right this (by omega)
theorem rest_dt {w : Nat} : ∀ {lot : List (List Int)} {row : List Int}, (∀ o ∈ lot, o.length = w ∧ lead o ≠ none) → row.length = w → ∃ a : Int, a ≠ 0 ∧ ∀ x, Perp x lot → dt x (rest lot row) = a * dt x row
  | [], row, _, _ => ⟨1, by decide, fun x _ => by simp [rest]⟩
  | o :: lot, row, hl, hr => by
    obtain ⟨h1, h2⟩ := hl o (by simp)
    obtain ⟨a, ha, e1⟩ := less_dt hr h1 h2
    obtain ⟨b, hb, e2⟩ := rest_dt (lot := lot) (row := less row o) (fun p hp => hl p (by simp [hp])) (by rw [less_len (by omega)]; exact hr)
    refine ⟨b * a, Int.mul_ne_zero hb ha, fun x hx => ?_⟩
    have := e2 x (fun p hp => hx p (by simp [hp]))
    show dt x (rest lot (less row o)) = _
    rw [this, e1 x (hx o (by simp)), Int.mul_assoc]
/-- what a row more makes of a lot -/
def WR (lot : List (List Int)) (row : List Int) (m' : List (List Int)) : Prop :=
  (lead (low (rest lot row)) = none ∧ m' = lot) ∨ (∃ j, lead (low (rest lot row)) = some j ∧ m'.Perm (lot.map (fun o => low (less o (low (rest lot row)))) ++ [low (rest lot row)]))
theorem lead_none_at {xs : List Int} (h : lead xs = none) (j : Nat) : at0 xs j = 0 := by
  by_cases e : at0 xs j = 0
  · exact e
  · obtain ⟨i, h1, _⟩ := lead_ne e
    rw [h] at h1; cases h1
theorem wr_perp {w : Nat} {lot : List (List Int)} {row : List Int} {m' : List (List Int)} (hl : ∀ o ∈ lot, o.length = w ∧ lead o ≠ none) (hr : row.length = w) (h : WR lot row m') (x : List Int) : Perp x m' ↔ Perp x lot ∧ dt x row = 0 := by
  obtain ⟨a, ha, e⟩ := rest_dt hl hr
  rcases h with ⟨h1, rfl⟩ | ⟨j, h1, h2⟩
  · refine ⟨fun hx => ⟨hx, ?_⟩, fun hx => hx.1⟩
    have := e x hx
    rw [(low_dt x _).mp (dt_zero (lead_none_at h1))] at this
    have := this.symm
    rcases Int.mul_eq_zero.mp this with z | z
    · exact absurd z ha
    · exact z
  · have rl : (low (rest lot row)).length = w := by rw [low_len]; exact rest_len (fun o ho => (hl o ho).1) hr
    have key : ∀ o ∈ lot, dt x (low (rest lot row)) = 0 → (dt x (low (less o (low (rest lot row)))) = 0 ↔ dt x o = 0) := fun o ho h0 => by
      obtain ⟨b, hb, e2⟩ := less_dt (hl o ho).1 rl (by rw [h1]; exact fun z => nomatch z)
      rw [low_dt, e2 x h0, Int.mul_eq_zero]
      exact ⟨fun z => z.elim (fun z => absurd z hb) id, fun z => .inr z⟩
    have hm : Perp x m' ↔ (∀ o ∈ lot, dt x (low (less o (low (rest lot row)))) = 0) ∧ dt x (low (rest lot row)) = 0 := by
      constructor
      · intro hx
        refine ⟨fun o ho => hx _ (h2.mem_iff.mpr (List.mem_append.mpr (.inl (List.mem_map.mpr ⟨o, ho, rfl⟩)))), hx _ (h2.mem_iff.mpr (by simp))⟩
      · rintro ⟨h3, h4⟩ r hr
        rcases List.mem_append.mp (h2.mem_iff.mp hr) with hr | hr
        · obtain ⟨o, ho, rfl⟩ := List.mem_map.mp hr
          exact h3 o ho
        · simp at hr; subst hr; exact h4
    rw [hm]
    constructor
    · rintro ⟨h3, h4⟩
      have hp : Perp x lot := fun o ho => (key o ho h4).mp (h3 o ho)
      refine ⟨hp, ?_⟩
      have := e x hp
      rw [(low_dt x _).mp h4] at this
      rcases Int.mul_eq_zero.mp this.symm with z | z
      · exact absurd z ha
      · exact z
    · rintro ⟨h3, h4⟩
      have h5 : dt x (low (rest lot row)) = 0 := by rw [low_dt, e x h3, h4]; simp
      exact ⟨fun o ho => (key o ho h5).mpr (h3 o ho), h5⟩
/-! ### rows in stairs: what they do not reach has a row apart -/
def Stair (lot : List (List Int)) : Prop := lot.Pairwise fun o p => ∀ i, lead o = some i → at0 p i = 0
theorem stair_perp {w : Nat} {z : List Int} (hz : z.length = w) {j : Nat} (hj : at0 z j ≠ 0) : ∀ {lot : List (List Int)}, (∀ o ∈ lot, o.length = w ∧ lead o ≠ none) → Stair lot → (∀ o ∈ lot, ∀ i, lead o = some i → at0 z i = 0) → ∃ x : List Int, x.length = w ∧ Perp x lot ∧ dt x z ≠ 0
  | [], _, _, _ => by
    have hw : j < w := by
      rcases Nat.lt_or_ge j w with h | h
      · exact h
      · exact absurd (at0_ge (by omega)) hj
    refine ⟨(List.replicate w 0).set j 1, by simp, fun r hr => by simp at hr, ?_⟩
    rw [dt_set 1 (by simpa using hw), dt_rep]
    have : at0 (List.replicate w 0) j = 0 := by simp [at0, List.getD, hw]
    rw [this]
    simpa using hj
  | o :: lot, hl, st, h0 => by
    obtain ⟨h1, h2⟩ := hl o (by simp)
    have st' := List.pairwise_cons.mp st
    obtain ⟨x, hx, hp, hd⟩ := stair_perp hz hj (lot := lot) (fun p hp => hl p (by simp [hp])) st'.2 (fun p hp => h0 p (by simp [hp]))
    cases e : lead o with
    | none => exact absurd e h2
    | some i =>
      obtain ⟨hi, ho⟩ := lead_some e
      have hi2 : i < (x.map fun a => at0 o i * a).length := by simp; omega
      have key : ∀ r, dt ((x.map fun a => at0 o i * a).set i (at0 (x.map fun a => at0 o i * a) i - dt x o)) r = at0 o i * dt x r - dt x o * at0 r i := fun r => by
        rw [dt_set _ hi2, dt_map]
        have : at0 (x.map fun a => at0 o i * a) i - dt x o - at0 (x.map fun a => at0 o i * a) i = - dt x o := by omega
        rw [this, Int.neg_mul]; omega
      refine ⟨(x.map fun a => at0 o i * a).set i (at0 (x.map fun a => at0 o i * a) i - dt x o), by simpa using hx, fun r hr => ?_, ?_⟩
      · rw [key r]
        rcases List.mem_cons.mp hr with rfl | hr
        · rw [Int.mul_comm]; omega
        · rw [hp r hr, st'.1 r hr i e]; simp
      · rw [key z, h0 o (by simp) i e]
        have := (lead_iff.mp e).1
        simp [this, hd]
/-- the rest is 0 at the leads of stairs -/
theorem rest_stair {w : Nat} : ∀ {lot : List (List Int)} {row : List Int}, (∀ r ∈ lot, r.length = w) → row.length = w → Stair lot → ∀ o ∈ lot, ∀ i, lead o = some i → at0 (rest lot row) i = 0
  | [], row, _, _, _ => fun o ho => by simp at ho
  | p :: lot, row, hl, hr, st => fun o ho i hi => by
    have hp := hl p (by simp)
    have st' := List.pairwise_cons.mp st
    have hr' : (less row p).length = w := by rw [less_len (by omega)]; exact hr
    have hl' : ∀ r ∈ lot, r.length = w := fun r h => hl r (by simp [h])
    rcases List.mem_cons.mp ho with rfl | ho
    · exact rest_keep (lot := lot) hl' hr' (fun q hq => st'.1 q hq i hi) (less_zero (by omega) hi)
    · exact rest_stair hl' hr' st'.2 o ho i hi
end K12

namespace K12
open PySem PySem.Spec PyProof.Rows L2 DL
/-! ### how many rows a lot can have -/
theorem nodup_le : ∀ (w : Nat) (l : List Nat), l.Nodup → (∀ x ∈ l, x < w) → l.length ≤ w ∧ (l.length = w → ∀ j < w, j ∈ l)
  | 0, l, _, h => by
    cases l with
    | nil => exact ⟨Nat.le_refl _, fun _ j hj => by omega⟩
    | cons x l => exact absurd (h x (by simp)) (by omega)
  | w + 1, l, hn, h => by
    have hn2 : (l.filter (fun x => decide (x ≠ w))).Nodup := hn.filter _
    obtain ⟨h1, h2⟩ := nodup_le w (l.filter (fun x => decide (x ≠ w))) hn2 (fun x hx => by
      have := List.mem_filter.mp hx
      have h3 := h x this.1
      have h4 : x ≠ w := by simpa using this.2
      omega)
    have hc : l.length ≤ (l.filter (fun x => decide (x ≠ w))).length + 1 ∧ (w ∉ l → l.length = (l.filter (fun x => decide (x ≠ w))).length) := by
      clear h1 h2 hn2 h
      induction l with
      | nil => simp
      | cons x l ih =>
        have hn' := List.nodup_cons.mp hn
        obtain ⟨a, b⟩ := ih hn'.2
        by_cases e : x = w
        · subst e
          have := b hn'.1
          refine ⟨by rw [List.filter_cons_of_neg (by simp), List.length_cons]; omega, fun z => absurd (List.mem_cons_self) z⟩
        · rw [List.filter_cons_of_pos (by simpa using e), List.length_cons, List.length_cons]
          refine ⟨by omega, fun z => ?_⟩
          have := b (fun y => z (List.mem_cons_of_mem _ y))
          omega
    refine ⟨by omega, fun hl j hj => ?_⟩
    have hw : w ∈ l := Classical.byContradiction fun z => by have := hc.2 z; omega
    by_cases e : j = w
    · rw [e]; exact hw
    · exact (List.mem_filter.mp (h2 (by omega) j (by omega))).1
def leads (m : List (List Int)) : List Nat := m.map fun r => leadL r
theorem leadL_some {r : List Int} {i : Nat} (h : lead r = some i) : leadL r = i := by unfold leadL; rw [h]
theorem Lt.nodup {w n : Nat} {m : List (List Int)} (L : Lt w n m) : (leads m).Nodup ∧ ∀ x ∈ leads m, x < w := by
  constructor
  · unfold leads List.Nodup
    rw [List.pairwise_map]
    refine L.ap.imp_of_mem fun {o p} ho hp ap e => ?_
    cases eo : lead o with
    | none => exact L.ld o ho eo
    | some i =>
      cases ep : lead p with
      | none => exact L.ld p hp ep
      | some k =>
        rw [leadL_some eo, leadL_some ep] at e
        subst e
        exact (lead_iff.mp ep).1 (ap.1 i eo)
  · intro x hx
    obtain ⟨o, ho, rfl⟩ := List.mem_map.mp hx
    cases eo : lead o with
    | none => exact absurd eo (L.ld o ho)
    | some i =>
      rw [leadL_some eo]
      obtain ⟨h1, _⟩ := lead_some eo
      rw [L.len o ho] at h1
      exact h1
theorem Lt.le {w n : Nat} {m : List (List Int)} (L : Lt w n m) : m.length ≤ w := by
  have := (nodup_le w (leads m) L.nodup.1 L.nodup.2).1
  simpa [leads] using this
theorem Lt.full {w n : Nat} {m : List (List Int)} (L : Lt w n m) (h : m.length = w) {row : List Int} (hr : row.length = w) : lead (rest m row) = none := by
  cases e : lead (rest m row) with
  | none => rfl
  | some j =>
    obtain ⟨h1, _⟩ := lead_some e
    rw [rest_len L.len hr] at h1
    have h2 := (nodup_le w (leads m) L.nodup.1 L.nodup.2).2 (by simpa [leads] using h) j h1
    obtain ⟨o, ho, h3⟩ := List.mem_map.mp h2
    cases eo : lead o with
    | none => exact absurd eo (L.ld o ho)
    | some i =>
      rw [leadL_some eo] at h3
      subst h3
      exact absurd (rest_zero L.len hr L.ap o ho _ eo) (lead_iff.mp e).1
theorem WR.perm_lt {w n b : Nat} {lot m' : List (List Int)} {row : List Int} (L : Lt w n lot) (hr : row.length = w) (hb : Bd b row) (h : WR lot row m') :
    (m' = lot) ∨ (lot.length < w ∧ m'.length = lot.length + 1 ∧ Lt w (n + (b + lot.length * (n + 1)) + 1) m') := by
  rcases h with ⟨_, h⟩ | ⟨j, h1, h2⟩
  · exact .inl h
  · have rl : (low (rest lot row)).length = w := by rw [low_len]; exact rest_len L.len hr
    have L2 := lt_with L rl (low_bd (rest_bd L.bd hb)) h1 fun o ho i hi => (low_at i).mpr (rest_zero L.len hr L.ap o ho i hi)
    refine .inr ⟨?_, by rw [h2.length_eq]; simp, L2.perm h2⟩
    rcases Nat.lt_or_ge lot.length w with z | z
    · exact z
    · have := L.full (Nat.le_antisymm L.le z) hr
      rw [lead_low, this] at h1
      cases h1
/-- the size of the numbers of a lot of so many rows -/
def BB (r : Nat) : Nat → Nat
  | 0 => 1
  | l + 1 => BB r l + (r + l * (BB r l + 1)) + 1
theorem BB_pos (r : Nat) : ∀ l, 0 < BB r l
  | 0 => Nat.one_pos
  | l + 1 => Nat.succ_pos _
theorem BB_mono (r : Nat) {l k : Nat} (h : l ≤ k) : BB r l ≤ BB r k := by
  induction k with
  | zero => rw [Nat.le_zero.mp h]; exact Nat.le_refl _
  | succ k ih =>
    rcases Nat.lt_or_ge l (k + 1) with z | z
    · exact Nat.le_trans (ih (by omega)) (by show _ ≤ BB r k + _ + 1; omega)
    · rw [Nat.le_antisymm h z]; exact Nat.le_refl _
theorem low_none {xs : List Int} (h : lead xs = none) : low xs = xs := by
  unfold low
  rw [if_pos (gcdL_zero.mpr h)]
theorem bd_none {xs : List Int} (h : lead xs = none) (n : Nat) : Bd n xs := fun x hx => by
  rw [lead_none.mp h x hx]
  exact Nat.two_pow_pos n
theorem with_row_ok {w r K : Nat} (hw : w ≤ 60) (hr0 : 0 < r) {lot : List (List Int)} {row : List Int} (L : Lt w (BB r lot.length) lot) (hr : row.length = w) (hb : Bd r row) (hK : lot.length < w → lot.length + 1 ≤ K) (hz : BB r K ≤ 8000) (hz2 : r + (lot.length + 1) * (BB r lot.length + 1) ≤ 40000) (μ : List Cell) :
    ∃ m', F_with_row [.tup (lot.map Ri), Ri row] μ = .ok (.tup (m'.map Ri)) μ ∧ WR lot row m' := by
  have hk := L.le
  have hn := BB_pos r lot.length
  have e1 := rest_by_ok (w := w) (n := BB r lot.length) (r := r) (by omega) hn (lot := lot) (row := row) (fun o ho => ⟨L.len o ho, L.bd o ho, L.ld o ho⟩) hr hb hr0 hz2 μ
  have rl := rest_len (lot := lot) (row := row) L.len hr
  rcases Nat.lt_or_ge lot.length w with hlt | hge
  · have hB : BB r (lot.length + 1) ≤ 8000 := Nat.le_trans (BB_mono r (hK hlt)) hz
    have hB2 : BB r lot.length + (r + lot.length * (BB r lot.length + 1)) + 1 ≤ 8000 := hB
    generalize BB r lot.length = n at L hn hz2 hB2
    have rb : Bd (r + lot.length * (n + 1)) (rest lot row) := rest_bd L.bd hb
    have e2 := lowest_row_ok (rb.mono (by omega)) (by omega) μ
    cases ej : lead (low (rest lot row)) with
    | none =>
      refine ⟨lot, ?_, .inl ⟨ej, rfl⟩⟩
      simp [F_with_row, b_with_row, runF, e1, e2, lead_in_ok, ej, optD, isN, -List.map_map]
    | some j =>
      have ll : (low (rest lot row)).length = w := by rw [low_len]; exact rl
      have lb := low_bd rb
      have L2 := lt_with L ll lb ej fun o ho i hi => (low_at i).mpr (rest_zero L.len hr L.ap o ho i hi)
      have e3 := with_comp μ (.val (.tup (lot.map Ri))) (.val (Ri row)) .no (w := w) (n := n) (r := r + lot.length * (n + 1)) (by omega) hn (by omega) (by omega) ll lb ej lot fun o ho => ⟨L.len o ho, L.bd o ho⟩
      obtain ⟨ks, k1, k2⟩ := keys_ok μ _ L2.ld
      have pm : (((ks.zip ((lot.map (fun o => low (less o (low (rest lot row)))) ++ [low (rest lot row)]).map Ri)).mergeSort fun p q => decide (p.1 ≤ q.1)).map (·.2)).Perm ((lot.map (fun o => low (less o (low (rest lot row)))) ++ [low (rest lot row)]).map Ri) := by
        refine ((List.mergeSort_perm _ _).map _).trans ?_
        rw [List.map_snd_zip (by simp [k2])]
      obtain ⟨m', h1, h2⟩ := perm_ri pm
      refine ⟨m', ?_, .inr ⟨j, ej, h2⟩⟩
      have hk2 : lot.length ≤ 16777216 := by omega
      have hk3 : lot.length + 1 ≤ 16777216 := by omega
      rw [List.map_append, List.map_cons, List.map_nil] at k1 h1
      have ea : ∀ s : S, gAdd s (.lst ((lot.map fun o => low (less o (low (rest lot row)))).map Ri)) (.lst [Ri (low (rest lot row))]) = some (.lst ((lot.map fun o => low (less o (low (rest lot row)))).map Ri ++ [Ri (low (rest lot row))])) := fun s => add_ll _ _ _ (by simp; omega)
      simp [F_with_row, b_with_row, runF, e1, e2, lead_in_ok, ej, optD, isN, e3, ea, -List.map_map, hk2]
      have sk := sortKey_ap (F := F_lead_in) (fa := dVar 3) (s := ⟨[.val (.tup (lot.map Ri)), .val (Ri row), .val (Ri (low (rest lot row))), .val (.lst ((lot.map fun o => low (less o (low (rest lot row)))).map Ri ++ [Ri (low (rest lot row))])), .no], μ⟩) rfl (by simp; omega) k1
      rw [sk, h1]
      simp [gTuple]
  · have hf := L.full (Nat.le_antisymm L.le hge) hr
    have e2 := lowest_row_ok (bd_none hf 8000) (by omega) μ
    have ej : lead (low (rest lot row)) = none := by rw [lead_low, hf]
    refine ⟨lot, ?_, .inl ⟨ej, rfl⟩⟩
    simp [F_with_row, b_with_row, runF, e1, e2, lead_in_ok, ej, optD, isN, -List.map_map]
/-- what is made of rows -/
def LotOf (w : Nat) (rows m : List (List Int)) : Prop := ∀ x, x.length = w → (Perp x m ↔ Perp x rows)
theorem perp_nil (x : List Int) : Perp x [] := fun r hr => by simp at hr
theorem wr_next {w r : Nat} {lot m1 : List (List Int)} {o : List Int} (L : Lt w (BB r lot.length) lot) (h1 : o.length = w) (h2 : Bd r o) (hW : WR lot o m1) :
    Lt w (BB r m1.length) m1 ∧ m1.length ≤ lot.length + 1 ∧ ∀ x, Perp x m1 ↔ Perp x lot ∧ dt x o = 0 := by
  refine ⟨?_, ?_, fun x => wr_perp (fun o ho => ⟨L.len o ho, L.ld o ho⟩) h1 hW x⟩
  · rcases hW.perm_lt L h1 h2 with rfl | ⟨_, e, L1⟩
    · exact L
    · rw [e]; exact L1
  · rcases hW.perm_lt L h1 h2 with rfl | ⟨_, e, L1⟩ <;> omega
theorem lot_loop {F : FF} {g : Nat} (μ : List Cell) (a : DL.Slot) {w r K : Nat} (hr0 : 0 < r) (hF : ∀ (lot : List (List Int)) (row : List Int), Lt w (BB r lot.length) lot → row.length = w → Bd r row → (lot.length < w → lot.length + 1 ≤ K) → r + (lot.length + 1) * (BB r lot.length + 1) ≤ 40000 → ∃ m', F [.tup (lot.map Ri), Ri row] μ = .ok (.tup (m'.map Ri)) μ ∧ WR lot row m')
    (hz2 : r + (K + 1) * (BB r K + 1) ≤ 40000) : ∀ (rows : List (List Int)) (lot : List (List Int)) (c : DL.Slot), Lt w (BB r lot.length) lot → (∀ o ∈ rows, o.length = w ∧ Bd r o) → lot.length ≤ K → (∀ l, l ≤ w → l ≤ lot.length + rows.length → l ≤ K) →
    ∃ m' c', dFor (gNm 2) (dAsg 1 (dCall F (dCons (dVar 1) (dCons (dVar 2) dNil)))) (rows.map Ri) ⟨[a, .val (.tup (lot.map Ri)), c], μ⟩ = .nx ⟨[a, .val (.tup (m'.map Ri)), c'], μ⟩ ∧ Lt w (BB r m'.length) m' ∧ m'.length ≤ K ∧ (∀ x, Perp x m' ↔ Perp x lot ∧ Perp x rows)
  | [], lot, c, L, _, hK, _ => ⟨lot, c, rfl, L, hK, fun x => ⟨fun h => ⟨h, perp_nil x⟩, fun h => h.1⟩⟩
  | o :: rows, lot, c, L, hl, hK, hK2 => by
    obtain ⟨h1, h2⟩ := hl o (by simp)
    rw [List.length_cons] at hK2
    have hm : r + (lot.length + 1) * (BB r lot.length + 1) ≤ 40000 := Nat.le_trans (Nat.add_le_add_left (Nat.mul_le_mul (by omega) (by have := BB_mono r hK; omega)) r) hz2
    obtain ⟨m1, e1, hW⟩ := hF lot o L h1 h2 (fun hlt => hK2 _ (by omega) (by omega)) hm
    obtain ⟨L1, le1, p1⟩ := wr_next L h1 h2 hW
    have hm1K : m1.length ≤ K := hK2 _ L1.le (by omega)
    obtain ⟨m', c', e2, L2, hm2, p2⟩ := lot_loop (F := F) (g := g) μ a hr0 hF hz2 rows m1 (.val (Ri o)) L1 (fun q hq => hl q (by simp [hq])) hm1K (fun l a b => hK2 l a (by omega))
    refine ⟨m', c', ?_, L2, hm2, fun x => ?_⟩
    · simp [dFor, e1, -List.map_map]
      exact e2
    · rw [p2 x, p1 x]
      constructor
      · rintro ⟨⟨a, b⟩, c⟩
        exact ⟨a, fun r hr => (List.mem_cons.mp hr).elim (fun e => e ▸ b) (c r)⟩
      · rintro ⟨a, b⟩
        exact ⟨⟨a, b o (by simp)⟩, fun r hr => b r (by simp [hr])⟩
def IsRows (rows : List (List Int)) (d : D) : Prop := d = .tup (rows.map Ri) ∨ d = .lst (rows.map Ri)
theorem lot_in_ok {w r K : Nat} (hw : w ≤ 60) (hr0 : 0 < r) {rows : List (List Int)} (hl : ∀ o ∈ rows, o.length = w ∧ Bd r o) (hK : ∀ l, l ≤ w → l ≤ rows.length → l ≤ K) (hz : BB r K ≤ 8000) (hz2 : r + (K + 1) * (BB r K + 1) ≤ 40000) {d : D} (hd : IsRows rows d) (μ : List Cell) :
    ∃ m' : List (List Int), F_lot_in [d] μ = .ok (.tup (m'.map Ri)) μ ∧ Lt w (BB r m'.length) m' ∧ m'.length ≤ K ∧ ∀ x, Perp x m' ↔ Perp x rows := by
  obtain ⟨m', c', e, L, hm, p⟩ := lot_loop (F := F_with_row) (g := 0) μ (.val d) hr0 (fun lot row L a b c d => with_row_ok hw hr0 L a b c hz d μ) hz2 rows [] .no ⟨by simp, by simp, by simp, .nil⟩ hl (Nat.zero_le _) (by simpa using hK)
  refine ⟨m', ?_, L, hm, fun x => by rw [p x]; exact ⟨fun h => h.2, fun h => ⟨perp_nil x, h⟩⟩⟩
  have e : dFor (gNm 2) (dAsg 1 (dCall F_with_row (dCons (dVar 1) (dCons (dVar 2) dNil)))) (rows.map Ri) ⟨[.val d, .val (.tup []), .no], μ⟩ = .nx ⟨[.val d, .val (.tup (m'.map Ri)), c'], μ⟩ := e
  rcases hd with rfl | rfl <;> simp [F_lot_in, b_lot_in, runF, dForI, e, -List.map_map]
/-! ### the law's lots -/
theorem L_less_ok {row other : List Int} (h : row.length = other.length) (hl : row.length < 16777216) {i : Nat} (hi : lead other = some i) {n m : Nat} (hn : 0 < n) (hm : 0 < m) (hnm : n + m ≤ 50000) (br : Bd n row) (bo : Bd m other) (μ : List Cell) :
    F_L_less [Ri row, Ri other] μ = .ok (Ri (less row other)) μ := by
  have hio := (lead_some hi).1
  have hir : i < row.length := by omega
  have e2 := L_lead_ok other (by omega) μ
  rw [leadL_some hi] at e2
  by_cases h0 : row[i] = 0
  · have e : (row[i] == 0) = true := by simpa using h0
    have el : less row other = row := by unfold less; rw [hi]; simp only [at0_lt hir, h0, if_true]
    rw [el]
    simp [F_L_less, b_L_less, runF, e2, ix_row _ _ _ hir, e]
  · have e : (row[i] == 0) = false := by simpa using h0
    have el : less row other = zw (fun a b => at0 other i * a - at0 row i * b) row other := by unfold less; rw [hi]; simp only [at0_lt hir, h0, if_false]
    have hmin : min row.length other.length ≤ 16777216 := by omega
    rw [el]
    simp [F_L_less, b_L_less, runF, e2, ix_row _ _ _ hir, e, zp_len, hmin, less_comp μ hir hio hn hm hnm br bo row other br bo, tup_ints]
theorem L_rest_loop (μ : List Cell) (b : List DL.Slot) (a : DL.Slot) {w n : Nat} (hw : w < 16777216) (hn : 0 < n) : ∀ (lot : List (List Int)) (row : List Int) (r : Nat) (c : DL.Slot), (∀ o ∈ lot, o.length = w ∧ Bd n o ∧ lead o ≠ none) → row.length = w → Bd r row → 0 < r → r + (lot.length + 1) * (n + 1) ≤ 40000 →
    ∃ c', (c' = c ∨ ∃ d, c' = .val d) ∧ dFor (gNm 2) (dAsg 1 (dCall F_L_less (dCons (dVar 1) (dCons (dVar 2) dNil)))) (lot.map Ri) ⟨a :: .val (Ri row) :: c :: b, μ⟩ = .nx ⟨a :: .val (Ri (rest lot row)) :: c' :: b, μ⟩
  | [], row, r, c, _, _, _, _, _ => ⟨c, .inl rfl, rfl⟩
  | o :: lot, row, r, c, hl, hr, hb, hr0, hz => by
    obtain ⟨h1, h2, h3⟩ := hl o (by simp)
    cases e : lead o with
    | none => exact absurd e h3
    | some i =>
      have hs : r + (lot.length + 1 + 1) * (n + 1) = r + n + 1 + (lot.length + 1) * (n + 1) := by rw [Nat.add_mul (lot.length + 1)]; omega
      rw [List.length_cons, hs] at hz
      obtain ⟨c', hc, e2⟩ := L_rest_loop μ b a hw hn lot (less row o) (r + n + 1) (.val (Ri o)) (fun q hq => hl q (by simp [hq])) (by rw [less_len (by omega)]; exact hr) (less_bd hb h2) (by omega) hz
      refine ⟨c', .inr (hc.elim (fun z => ⟨_, z⟩) id), ?_⟩
      have e3 := L_less_ok (row := row) (other := o) (by omega) (by omega) e hr0 hn (by omega) hb h2 μ
      simp [dFor, e3, -List.map_map]
      exact e2
theorem leadL_len {xs : List Int} : leadL xs = xs.length ↔ lead xs = none := by
  unfold leadL
  cases e : lead xs with
  | none => simp
  | some i => have := (lead_some e).1; simp; omega
theorem L_with_comp (μ : List Cell) (a d e f : DL.Slot) {w n r : Nat} (hw : w < 16777216) (hn : 0 < n) (hr0 : 0 < r) (hz : n + r + 1 ≤ 8000) {left : List Int} (hl : left.length = w) (hb : Bd r left) {j : Nat} (hj : lead left = some j) (c : DL.Slot) (hc : ∀ x, c ≠ .own x) : ∀ lot : List (List Int), (∀ o ∈ lot, o.length = w ∧ Bd n o) →
    dLcGo [2] (gNm 2) dYes (dCall F_L_lowest (dCons (dCall F_L_less (dCons (dVar 2) (dCons (dVar 1) dNil))) dNil)) (lot.map Ri) ⟨[a, .val (Ri left), c, d, e, f], μ⟩ = .ok ((lot.map fun o => low (less o left)).map Ri) ⟨[a, .val (Ri left), c, d, e, f], μ⟩
  | [], _ => rfl
  | o :: lot, h => by
    obtain ⟨h1, h2⟩ := h o (by simp)
    have ih := L_with_comp μ a d e f hw hn hr0 hz hl hb hj c hc lot fun q hq => h q (by simp [hq])
    have e1 := L_less_ok (row := o) (other := left) (by omega) (by omega) hj hn hr0 (by omega) h2 hb μ
    have e2 := L_lowest_ok (xs := less o left) ((less_bd h2 hb).mono (by omega)) (by rw [less_len (by omega)]; omega) μ
    simp only [List.map_map] at ih
    cases c with
    | own x => exact absurd rfl (hc x)
    | no => simp [dLcGo, wipeD, backD, e1, e2, ih]
    | val x => simp [dLcGo, wipeD, backD, e1, e2, ih]
end K12

namespace K12
open PySem PySem.Spec PyProof.Rows L2 DL
/-- a pair of a lead and a row -/
abbrev Pr (k : Int) (r : List Int) : D := .tup [.int k, Ri r]
theorem alike_ints : ∀ xs ys : List Int, PySem.W.alikeAll (xs.map .int) (ys.map .int) = true
  | [], ys => by simp [PySem.W.alikeAll]
  | x :: xs, [] => by simp [PySem.W.alikeAll]
  | x :: xs, y :: ys => by simp [PySem.W.alikeAll, PySem.W.alike, alike_ints xs ys]
def prP (p : Int × List Int) : PyData := .tuple [.int p.1, .tuple (p.2.map .int)]
theorem py_prs : ∀ ps : List (Int × List Int), toPyL (ps.map fun p => Pr p.1 p.2) = some (ps.map prP)
  | [] => rfl
  | p :: ps => by simp [toPyL, toPy, py_ints, py_prs ps, prP]
theorem sortOk_prs (ps : List (Int × List Int)) : sortOk (ps.map prP) = true := by
  unfold sortOk
  simp only [Bool.and_eq_true, Bool.or_eq_true, List.all_eq_true, List.mem_map]
  refine ⟨⟨?_, .inl ?_⟩, ?_⟩
  · rintro _ ⟨p, _, rfl⟩ _ ⟨q, _, rfl⟩
    simp [prP, PySem.W.alike, PySem.W.alikeAll, alike_ints]
  · rintro _ ⟨p, _, rfl⟩
    rfl
  · rintro _ ⟨p, _, rfl⟩
    simp [prP, PyData.depth, PyData.depthAll, depth_ints]
theorem sorted_prs (s : S) (ps : List (Int × List Int)) (hl : ps.length ≤ 16777216) : ∃ qs : List (Int × List Int), qs.Perm ps ∧ gSorted s [.lst (ps.map fun p => Pr p.1 p.2)] = some (.lst (qs.map fun p => Pr p.1 p.2)) := by
  have h := List.mergeSort_perm (ps.map fun p => Pr p.1 p.2) (PySem.W.dataLe false encD)
  have : ∃ qs : List (Int × List Int), qs.Perm ps ∧ (ps.map fun p => Pr p.1 p.2).mergeSort (PySem.W.dataLe false encD) = qs.map fun p => Pr p.1 p.2 := by
    let un : D → Int × List Int := fun d => match d with | .tup [.int k, r] => (k, unRi r) | _ => (0, [])
    have e : ∀ p : Int × List Int, un (Pr p.1 p.2) = p := fun p => by
      show (p.1, unRi (Ri p.2)) = p
      rw [unRi_ri]
    refine ⟨((ps.map fun p => Pr p.1 p.2).mergeSort (PySem.W.dataLe false encD)).map un, ?_, ?_⟩
    · have := h.map un
      rw [List.map_map] at this
      have e2 : (un ∘ fun p : Int × List Int => Pr p.1 p.2) = id := funext e
      rwa [e2, List.map_id] at this
    · rw [List.map_map]
      have : ∀ d ∈ (ps.map fun p => Pr p.1 p.2).mergeSort (PySem.W.dataLe false encD), ((fun p : Int × List Int => Pr p.1 p.2) ∘ un) d = d := fun d hd => by
        obtain ⟨r, _, rfl⟩ := List.mem_map.mp (h.mem_iff.mp hd)
        show Pr (un (Pr r.1 r.2)).1 (un (Pr r.1 r.2)).2 = _
        rw [e]
      rw [List.map_congr_left this]
      simp
  obtain ⟨qs, h1, h2⟩ := this
  refine ⟨qs, h1, ?_⟩
  simp only [gSorted, asl_lst, Option.bind_some, py_prs, sortOk_prs, List.length_map, hl, decide_true, Bool.true_and, if_true, h2]
theorem pairs_comp (μ : List Cell) (a b c d e : DL.Slot) : ∀ m : List (List Int), (∀ r ∈ m, r.length < 16777216) → dLcGo [5] (gNm 5) dYes (dTup (dCons (dCall F_L_lead (dCons (dVar 5) dNil)) (dCons (dVar 5) dNil))) (m.map Ri) ⟨[a, b, c, d, e, .no], μ⟩ = .ok (m.map fun r => Pr (leadL r) r) ⟨[a, b, c, d, e, .no], μ⟩
  | [], _ => rfl
  | r :: m, h => by
    have ih := pairs_comp μ a b c d e m fun q hq => h q (by simp [hq])
    simp [dLcGo, wipeD, backD, L_lead_ok r (h r (by simp)), ih]
theorem second_comp (μ : List Cell) (a b c d f : DL.Slot) : ∀ m : List (Int × List Int), dLcGo [4] (gNm 4) dYes (dOp gIx (dVar 4) (dC (.int (1)))) (m.map fun p => Pr p.1 p.2) ⟨[a, b, c, d, .no, f], μ⟩ = .ok (m.map fun p => Ri p.2) ⟨[a, b, c, d, .no, f], μ⟩
  | [] => rfl
  | r :: m => by
    have ih := second_comp μ a b c d f m
    simp [dLcGo, wipeD, backD, ih, gIx, L2.atI, L2.ixN]
theorem L_with_row_ok {w r K : Nat} (hw : w ≤ 60) (hr0 : 0 < r) {lot : List (List Int)} {row : List Int} (L : Lt w (BB r lot.length) lot) (hr : row.length = w) (hb : Bd r row) (hK : lot.length < w → lot.length + 1 ≤ K) (hz : BB r K ≤ 8000) (hz2 : r + (lot.length + 1) * (BB r lot.length + 1) ≤ 40000) (μ : List Cell) :
    ∃ m', F_L_with_row [.tup (lot.map Ri), Ri row] μ = .ok (.tup (m'.map Ri)) μ ∧ WR lot row m' := by
  have hk := L.le
  have hn := BB_pos r lot.length
  have e1 := fun c => L_rest_loop μ [.no, .no, .no] (.val (.tup (lot.map Ri))) (w := w) (n := BB r lot.length) (by omega) hn lot row r c (fun o ho => ⟨L.len o ho, L.bd o ho, L.ld o ho⟩) hr hb hr0 hz2
  obtain ⟨c', hc, e1⟩ := e1 .no
  have hc : ∀ x, c' ≠ .own x := fun x z => by subst z; rcases hc with h | ⟨_, h⟩ <;> cases h
  have rl := rest_len (lot := lot) (row := row) L.len hr
  have el := L_lead_ok (rest lot row) (by omega) μ
  cases ej : lead (rest lot row) with
  | none =>
    have ej2 : leadL (rest lot row) = (rest lot row).length := leadL_len.mpr ej
    refine ⟨lot, ?_, .inl ⟨by rw [lead_low, ej], rfl⟩⟩
    simp [F_L_with_row, b_L_with_row, runF, dForI, e1, el, ej2, gLen, -List.map_map]
  | some j =>
    have ej2 : ((leadL (rest lot row) : Int) == ((rest lot row).length : Int)) = false := by
      have : leadL (rest lot row) ≠ (rest lot row).length := fun z => by rw [leadL_len.mp z] at ej; cases ej
      simp; omega
    have hlt : lot.length < w := by
      rcases Nat.lt_or_ge lot.length w with z | z
      · exact z
      · have := L.full (Nat.le_antisymm hk z) hr
        rw [this] at ej; cases ej
    have hB : BB r (lot.length + 1) ≤ 8000 := Nat.le_trans (BB_mono r (hK hlt)) hz
    have hB2 : BB r lot.length + (r + lot.length * (BB r lot.length + 1)) + 1 ≤ 8000 := hB
    generalize BB r lot.length = n at L hn hz2 hB2
    have rb : Bd (r + lot.length * (n + 1)) (rest lot row) := rest_bd L.bd hb
    have e2 := L_lowest_ok (rb.mono (by omega)) (by omega) μ
    have ej3 : lead (low (rest lot row)) = some j := by rw [lead_low, ej]
    have ll : (low (rest lot row)).length = w := by rw [low_len]; exact rl
    have lb := low_bd rb
    have e3 := L_with_comp μ (.val (.tup (lot.map Ri))) .no .no .no (w := w) (n := n) (r := r + lot.length * (n + 1)) (by omega) hn (by omega) (by omega) ll lb ej3 c' hc lot fun o ho => ⟨L.len o ho, L.bd o ho⟩
    have ea : ∀ s : S, gAdd s (.lst ((lot.map fun o => low (less o (low (rest lot row)))).map Ri)) (.lst [Ri (low (rest lot row))]) = some (.lst ((lot.map fun o => low (less o (low (rest lot row)))).map Ri ++ [Ri (low (rest lot row))])) := fun s => add_ll _ _ _ (by simp; omega)
    have hM : ∃ M, M = lot.map (fun o => low (less o (low (rest lot row)))) ++ [low (rest lot row)] := ⟨_, rfl⟩
    obtain ⟨M, hM⟩ := hM
    have ea2 : (lot.map fun o => low (less o (low (rest lot row)))).map Ri ++ [Ri (low (rest lot row))] = M.map Ri := by rw [hM]; simp
    have hMl : M.length ≤ 61 := by rw [hM]; simp; omega
    have hMr : ∀ q ∈ M, q.length < 16777216 := fun q hq => by
      rw [hM] at hq
      rcases List.mem_append.mp hq with hq | hq
      · obtain ⟨o, ho, rfl⟩ := List.mem_map.mp hq
        rw [low_len, less_len (by rw [L.len o ho, ll]), L.len o ho]; omega
      · simp at hq; subst hq; omega
    obtain ⟨qs, hq1, hq2⟩ := sorted_prs ⟨[.val (.tup (lot.map Ri)), .val (Ri (low (rest lot row))), c', .val (.lst (M.map Ri)), .no, .no], μ⟩ (M.map fun q => ((leadL q : Int), q)) (by simp; omega)
    rw [List.map_map] at hq2
    have hq2 : gSorted ⟨[.val (.tup (lot.map Ri)), .val (Ri (low (rest lot row))), c', .val (.lst (M.map Ri)), .no, .no], μ⟩ [.lst (M.map fun q => Pr (leadL q) q)] = some (.lst (qs.map fun p => Pr p.1 p.2)) := hq2
    have e4 := pairs_comp μ (.val (.tup (lot.map Ri))) (.val (Ri (low (rest lot row)))) c' (.val (.lst (M.map Ri))) .no M hMr
    have e5 := second_comp μ (.val (.tup (lot.map Ri))) (.val (Ri (low (rest lot row)))) c' (.val (.lst (M.map Ri))) .no qs
    have hql : qs.length ≤ 16777216 := by rw [hq1.length_eq]; simp; omega
    refine ⟨qs.map (·.2), ?_, .inr ⟨j, ej3, ?_⟩⟩
    · have hk2 : lot.length ≤ 16777216 := by omega
      have hk3 : M.length ≤ 16777216 := by omega
      cases c' with
      | own x => exact absurd rfl (hc x)
      | no =>
        simp [F_L_with_row, b_L_with_row, runF, dForI, e1, el, ej2, gLen, e2, e3, ea, ea2, e4, e5, hq2, -List.map_map, -List.map_append, hk2, hk3, hql, gTuple, Function.comp_def]
        rw [List.map_map]; rfl
      | val x =>
        simp [F_L_with_row, b_L_with_row, runF, dForI, e1, el, ej2, gLen, e2, e3, ea, ea2, e4, e5, hq2, -List.map_map, -List.map_append, hk2, hk3, hql, gTuple, Function.comp_def]
        rw [List.map_map]; rfl
    · rw [← hM]
      have := hq1.map (·.2)
      rw [List.map_map] at this
      have e6 : ((fun p : Int × List Int => p.2) ∘ fun q => ((leadL q : Int), q)) = id := rfl
      rwa [e6, List.map_id] at this
theorem L_lot_ok {w r K : Nat} (hw : w ≤ 60) (hr0 : 0 < r) {rows : List (List Int)} (hl : ∀ o ∈ rows, o.length = w ∧ Bd r o) (hK : ∀ l, l ≤ w → l ≤ rows.length → l ≤ K) (hz : BB r K ≤ 8000) (hz2 : r + (K + 1) * (BB r K + 1) ≤ 40000) {d : D} (hd : IsRows rows d) (μ : List Cell) :
    ∃ m' : List (List Int), F_L_lot [d] μ = .ok (.tup (m'.map Ri)) μ ∧ Lt w (BB r m'.length) m' ∧ m'.length ≤ K ∧ ∀ x, Perp x m' ↔ Perp x rows := by
  obtain ⟨m', c', e, L, hm, p⟩ := lot_loop (F := F_L_with_row) (g := 0) μ (.val d) hr0 (fun lot row L a b c d => L_with_row_ok hw hr0 L a b c hz d μ) hz2 rows [] .no ⟨by simp, by simp, by simp, .nil⟩ hl (Nat.zero_le _) (by simpa using hK)
  refine ⟨m', ?_, L, hm, fun x => by rw [p x]; exact ⟨fun h => h.2, fun h => ⟨perp_nil x, h⟩⟩⟩
  have e : dFor (gNm 2) (dAsg 1 (dCall F_L_with_row (dCons (dVar 1) (dCons (dVar 2) dNil)))) (rows.map Ri) ⟨[.val d, .val (.tup []), .no], μ⟩ = .nx ⟨[.val d, .val (.tup (m'.map Ri)), c'], μ⟩ := e
  rcases hd with rfl | rfl <;> simp [F_L_lot, b_L_lot, runF, dForI, e, -List.map_map]
theorem L_holds_ok {w n r : Nat} (hw : w ≤ 60) (hn : 0 < n) (hr0 : 0 < r) {lot : List (List Int)} {row : List Int} (L : Lt w n lot) (hr : row.length = w) (hb : Bd r row) (hz2 : r + (lot.length + 1) * (n + 1) ≤ 40000) (μ : List Cell) :
    F_L_holds [.tup (lot.map Ri), Ri row] μ = .ok (.bl (decide (lead (rest lot row) = none))) μ := by
  obtain ⟨c', hc, e1⟩ := L_rest_loop μ [] (.val (.tup (lot.map Ri))) (w := w) (n := n) (by omega) hn lot row r .no (fun o ho => ⟨L.len o ho, L.bd o ho, L.ld o ho⟩) hr hb hr0 hz2
  have rl := rest_len (lot := lot) (row := row) L.len hr
  have el := L_lead_ok (rest lot row) (by omega) μ
  simp [F_L_holds, b_L_holds, runF, dForI, e1, el, gLen, -List.map_map]
  have := @leadL_len (rest lot row)
  by_cases h : lead (rest lot row) = none
  · simp [h, this.mpr h]
  · have h2 : leadL (rest lot row) ≠ (rest lot row).length := fun z => h (this.mp z)
    simp [h]; omega
end K12

namespace K12
open PySem PySem.Spec PyProof.Rows L2 DL
/-! ### rows with marks -/
def mk01 (m p : Nat) : List Int := (List.range (m + 1)).map fun a => if a = p then 1 else 0
theorem mk01_len (m p : Nat) : (mk01 m p).length = m + 1 := by simp [mk01]
theorem mk01_at (m p j : Nat) : at0 (mk01 m p) j = if j = p ∧ j ≤ m then 1 else 0 := by
  unfold mk01 at0
  by_cases h : j < m + 1
  · simp [List.getD, h]
    have : j ≤ m := by omega
    simp [this]
  · have : ¬ j ≤ m := by omega
    simp [List.getD, h, this]
theorem at0_app {x y : List Int} {j : Nat} : at0 (x ++ y) j = if j < x.length then at0 x j else at0 y (j - x.length) := by
  unfold at0
  split
  · rename_i h; simp [List.getD, List.getElem?_append_left h]
  · rename_i h; simp [List.getD, List.getElem?_append_right (Nat.le_of_not_lt h)]
theorem at0_take {x : List Int} {w j : Nat} : at0 (x.take w) j = if j < w then at0 x j else 0 := by
  unfold at0
  by_cases h : j < w
  · simp [List.getD, h, List.getElem?_take]
  · simp [List.getD, h, List.getElem?_take]
theorem lead_take {x : List Int} {w i : Nat} : lead (x.take w) = some i ↔ lead x = some i ∧ i < w := by
  rw [lead_iff, lead_iff]
  constructor
  · rintro ⟨h1, h2⟩
    rw [at0_take] at h1
    have hi : i < w := by
      rcases Nat.lt_or_ge i w with z | z
      · exact z
      · rw [if_neg (by omega)] at h1; exact absurd rfl h1
    rw [if_pos hi] at h1
    refine ⟨⟨h1, fun j hj => ?_⟩, hi⟩
    have := h2 j hj
    rw [at0_take, if_pos (by omega)] at this
    exact this
  · rintro ⟨⟨h1, h2⟩, h3⟩
    refine ⟨by rw [at0_take, if_pos h3]; exact h1, fun j hj => by rw [at0_take, if_pos (by omega)]; exact h2 j hj⟩
theorem bd_app {n : Nat} {x y : List Int} (h1 : Bd n x) (h2 : Bd n y) : Bd n (x ++ y) := fun z hz => (List.mem_append.mp hz).elim (h1 z) (h2 z)
theorem bd_mk (n m p : Nat) (hn : 0 < n) : Bd n (mk01 m p) := fun z hz => by
  obtain ⟨a, _, rfl⟩ := List.mem_map.mp hz
  have : 2 ≤ 2 ^ n := Nat.pow_le_pow_right (n := 2) (by decide) (show 1 ≤ n from hn)
  split <;> simp <;> omega
structure Aug (w m n : Nat) (lot : List (List Int)) : Prop where
  len : ∀ o ∈ lot, o.length = w + m + 1
  bd : ∀ o ∈ lot, Bd n o
  ld : ∀ o ∈ lot, ∃ i, lead o = some i ∧ i < w
  st : Stair lot
  pos : ∀ o ∈ lot, ∀ i, lead o = some i → 0 < at0 o i
  last : ∀ o ∈ lot, at0 o (w + m) = 0
theorem Aug.ldn {w m n : Nat} {lot : List (List Int)} (A : Aug w m n lot) : ∀ o ∈ lot, lead o ≠ none := fun o ho => by
  obtain ⟨i, h, _⟩ := A.ld o ho
  rw [h]; exact fun z => nomatch z
theorem Aug.le {w m n : Nat} {lot : List (List Int)} (A : Aug w m n lot) : lot.length ≤ w := by
  have h1 : (leads lot).Nodup := by
    unfold leads List.Nodup
    rw [List.pairwise_map]
    refine A.st.imp_of_mem fun {o p} ho hp ap e => ?_
    obtain ⟨i, eo, _⟩ := A.ld o ho
    obtain ⟨k, ep, _⟩ := A.ld p hp
    rw [leadL_some eo, leadL_some ep] at e
    subst e
    exact (lead_iff.mp ep).1 (ap i eo)
  have h2 : ∀ x ∈ leads lot, x < w := by
    intro x hx
    obtain ⟨o, ho, rfl⟩ := List.mem_map.mp hx
    obtain ⟨i, eo, h⟩ := A.ld o ho
    rw [leadL_some eo]; exact h
  have := (nodup_le w (leads lot) h1 h2).1
  simpa [leads] using this
/-- how great the numbers of such a lot can be -/
def AA (r : Nat) : Nat → Nat
  | 0 => 1
  | l + 1 => max (AA r l) (r + l * (AA r l + 1))
theorem AA_pos (r : Nat) : ∀ l, 0 < AA r l
  | 0 => Nat.one_pos
  | l + 1 => Nat.lt_of_lt_of_le (AA_pos r l) (Nat.le_max_left _ _)
theorem AA_mono (r : Nat) {l k : Nat} (h : l ≤ k) : AA r l ≤ AA r k := by
  induction k with
  | zero => rw [Nat.le_zero.mp h]; exact Nat.le_refl _
  | succ k ih =>
    rcases Nat.lt_or_ge l (k + 1) with z | z
    · exact Nat.le_trans (ih (by omega)) (Nat.le_max_left _ _)
    · rw [Nat.le_antisymm h z]; exact Nat.le_refl _
def stepA (w m : Nat) (lot : List (List Int)) (p : Nat) (line : List Int) : List (List Int) :=
  if lead ((rest lot (line ++ mk01 m p)).take w) = none then lot else lot ++ [low (rest lot (line ++ mk01 m p))]
def lotA (w m : Nat) : Nat → List (List Int) → List (List Int) → List (List Int)
  | _, [], lot => lot
  | p, r :: rows, lot => lotA w m (p + 1) rows (stepA w m lot p r)
/-- what y says of rows with marks -/
def ext (y : List Int) (m : Nat) : List Int := y ++ List.replicate (m + 1) 0
theorem ext_dt {w : Nat} {y : List Int} (hy : y.length = w) (m : Nat) (x : List Int) (hx : w ≤ x.length) : dt (ext y m) x = dt y (x.take w) := by
  have : dt (ext y m) (x.take w ++ x.drop w) = dt y (x.take w) := by
    unfold ext
    rw [dt_app (by simp; omega), dt_rep]; omega
  rwa [List.take_append_drop] at this
theorem stepA_ok {w m r : Nat} {lot : List (List Int)} {p : Nat} {line : List Int} (hp : p < m) (A : Aug w m (AA r lot.length) lot) (hl : line.length = w) (hb : Bd r line) (hr : 0 < r) :
    Aug w m (AA r (stepA w m lot p line).length) (stepA w m lot p line) ∧ (∀ x, Perp x lot → dt x (line ++ mk01 m p) = 0 → Perp x (stepA w m lot p line)) ∧
      ∀ y, y.length = w → Perp (ext y m) (stepA w m lot p line) → Perp (ext y m) lot ∧ dt y line = 0 := by
  have hlen : (line ++ mk01 m p).length = w + m + 1 := by simp [mk01_len, hl]; omega
  have hld : ∀ o ∈ lot, o.length = w + m + 1 ∧ lead o ≠ none := fun o ho => ⟨A.len o ho, A.ldn o ho⟩
  obtain ⟨a, ha, e⟩ := rest_dt hld hlen
  have rl := rest_len (lot := lot) A.len hlen
  have hrow : ∀ y, y.length = w → dt (ext y m) (line ++ mk01 m p) = dt y line := fun y hy => by
    rw [ext_dt hy m _ (by omega)]
    congr 1
    rw [← hl, List.take_left']
    rfl
  unfold stepA
  cases el : lead ((rest lot (line ++ mk01 m p)).take w) with
  | none =>
    simp only [if_true]
    refine ⟨A, fun x h _ => h, fun y hy h => ⟨h, ?_⟩⟩
    have h1 := e (ext y m) h
    rw [ext_dt hy m _ (by omega), dt_zero (lead_none_at el), hrow y hy] at h1
    rcases Int.mul_eq_zero.mp h1.symm with z | z
    · exact absurd z ha
    · exact z
  | some i =>
    simp only [reduceCtorEq, if_false]
    obtain ⟨e1, e2⟩ := lead_take.mp el
    have e3 : lead (low (rest lot (line ++ mk01 m p))) = some i := by rw [lead_low, e1]
    have hB : Bd (r + lot.length * (AA r lot.length + 1)) (rest lot (line ++ mk01 m p)) := rest_bd A.bd (bd_app hb (bd_mk r m p hr))
    refine ⟨⟨?_, ?_, ?_, ?_, ?_, ?_⟩, fun x h1 h2 => ?_, fun y hy h => ?_⟩
    · intro o ho
      rcases List.mem_append.mp ho with ho | ho
      · exact A.len o ho
      · simp at ho; subst ho; rw [low_len]; exact rl
    · intro o ho
      rw [List.length_append, List.length_singleton]
      rcases List.mem_append.mp ho with ho | ho
      · exact (A.bd o ho).mono (Nat.le_max_left _ _)
      · simp at ho; subst ho; exact (low_bd hB).mono (Nat.le_max_right _ _)
    · intro o ho
      rcases List.mem_append.mp ho with ho | ho
      · exact A.ld o ho
      · simp at ho; subst ho; exact ⟨i, e3, e2⟩
    · unfold Stair
      rw [List.pairwise_append]
      refine ⟨A.st, by simp, fun o ho q hq k hk => ?_⟩
      simp at hq; subst hq
      rw [low_at]
      exact rest_stair A.len hlen A.st o ho k hk
    · intro o ho k hk
      rcases List.mem_append.mp ho with ho | ho
      · exact A.pos o ho k hk
      · simp at ho; subst ho
        rw [lead_low] at hk
        exact low_pos hk
    · intro o ho
      rcases List.mem_append.mp ho with ho | ho
      · exact A.last o ho
      · simp at ho; subst ho
        rw [low_at]
        refine rest_keep (lot := lot) A.len hlen A.last ?_
        rw [at0_app, if_neg (by omega), mk01_at, if_neg (by omega)]
    · intro o ho
      rcases List.mem_append.mp ho with ho | ho
      · exact h1 o ho
      · simp at ho; subst ho
        rw [low_dt, e x h1, h2]; simp
    · have h1 : Perp (ext y m) lot := fun o ho => h o (by simp [ho])
      refine ⟨h1, ?_⟩
      have h2 := e (ext y m) h1
      rw [(low_dt _ _).mp (h _ (by simp)), hrow y hy] at h2
      rcases Int.mul_eq_zero.mp h2.symm with z | z
      · exact absurd z ha
      · exact z
theorem lotA_ok {w m r : Nat} (hr : 0 < r) : ∀ (rows : List (List Int)) (p : Nat) (lot : List (List Int)), p + rows.length ≤ m → Aug w m (AA r lot.length) lot → (∀ o ∈ rows, o.length = w ∧ Bd r o) →
    Aug w m (AA r (lotA w m p rows lot).length) (lotA w m p rows lot) ∧ (∀ x, Perp x lot → (∀ q (h : q < rows.length), dt x (rows[q] ++ mk01 m (p + q)) = 0) → Perp x (lotA w m p rows lot)) ∧
      ∀ y, y.length = w → Perp (ext y m) (lotA w m p rows lot) → Perp (ext y m) lot ∧ Perp y rows
  | [], p, lot, _, A, _ => ⟨A, fun x h _ => h, fun y hy h => ⟨h, perp_nil y⟩⟩
  | o :: rows, p, lot, hp, A, hl => by
    rw [List.length_cons] at hp
    obtain ⟨h1, h2⟩ := hl o (by simp)
    obtain ⟨A1, f1, g1⟩ := stepA_ok (p := p) (by omega) A h1 h2 hr
    obtain ⟨A2, f2, g2⟩ := lotA_ok hr rows (p + 1) (stepA w m lot p o) (by omega) A1 (fun q hq => hl q (by simp [hq]))
    refine ⟨A2, fun x h h3 => f2 x (f1 x h (h3 0 (by simp))) (fun q hq => ?_), fun y hy h => ?_⟩
    · have := h3 (q + 1) (by simpa using hq)
      rw [List.getElem_cons_succ] at this
      rw [show p + 1 + q = p + (q + 1) by omega]
      exact this
    · obtain ⟨a, b⟩ := g2 y hy h
      obtain ⟨c, d⟩ := g1 y hy a
      exact ⟨c, fun z hz => (List.mem_cons.mp hz).elim (fun e => e ▸ d) (b z)⟩
/-- the last row, with its mark -/
def vAug (m : Nat) (v : List Int) : List Int := v ++ (List.replicate m 0 ++ [1])
def col (rows : List (List Int)) (j : Nat) : List Int := rows.map fun r => at0 r j
theorem dt_mk (x : List Int) (m p : Nat) (hp : p ≤ m) (hx : x.length = m + 1) : dt x (mk01 m p) = at0 x p := by
  have e : mk01 m p = (List.replicate (m + 1) 0).set p 1 := by
    apply List.ext_getElem?
    intro j
    by_cases hj : j < m + 1
    · by_cases e : j = p
      · subst e; simp [mk01, hj]
      · simp [mk01, hj, e, Ne.symm e]
    · have : ¬ p = j := by omega
      simp [mk01, hj, this]
  rw [dt_comm, e, dt_set 1 (by simp; omega), dt_rep]
  have : at0 (List.replicate (m + 1) 0) p = 0 := by simp [at0, List.getD, show p < m + 1 by omega]
  rw [this]; omega
/-- the marks say of what a row is made -/
def says (w j : Nat) (X : List (List Int)) : List Int := (List.replicate w 0).set j 1 ++ (col X j).map fun a => -1 * a
theorem says_dt {w m j : Nat} {X : List (List Int)} (hX : X.length = m + 1) (hj : j < w) {x y : List Int} (hx : x.length = w) (hy : y.length = m + 1) : dt (says w j X) (x ++ y) = at0 x j - dt y (col X j) := by
  unfold says
  rw [dt_app (by simp [hx]), dt_set 1 (by simpa using hj), dt_rep, dt_map, dt_comm (col X j) y]
  have : at0 (List.replicate w 0) j = 0 := by simp [at0, List.getD, hj]
  rw [this]; omega
theorem sum_none {w m r r2 : Nat} {rows : List (List Int)} {v : List Int} (hm : rows.length = m) (hr : 0 < r) (hl : ∀ o ∈ rows, o.length = w ∧ Bd r o) (hv : v.length = w)
    (h : lead ((rest (lotA w m 0 rows []) (vAug m v)).take w) ≠ none) : ∃ x : List Int, x.length = w ∧ Perp x rows ∧ dt x v ≠ 0 := by
  obtain ⟨A, f, g⟩ := lotA_ok (w := w) (m := m) hr rows 0 [] (by omega) ⟨by simp, by simp, by simp, .nil, by simp, by simp⟩ hl
  generalize lotA w m 0 rows [] = lot at A f g h
  have hlen : (vAug m v).length = w + m + 1 := by simp [vAug, hv]; omega
  have rl := rest_len (lot := lot) A.len hlen
  cases el : lead ((rest lot (vAug m v)).take w) with
  | none => exact absurd el h
  | some j =>
    have hA : ∀ o ∈ lot.map (fun o => o.take w), o.length = w ∧ lead o ≠ none := fun o ho => by
      obtain ⟨q, hq, rfl⟩ := List.mem_map.mp ho
      obtain ⟨i, e1, e2⟩ := A.ld q hq
      refine ⟨by rw [List.length_take, A.len q hq]; omega, ?_⟩
      rw [lead_take.mpr ⟨e1, e2⟩]; exact fun z => nomatch z
    have hst : Stair (lot.map (fun o => o.take w)) := by
      unfold Stair
      rw [List.pairwise_map]
      refine A.st.imp fun {o p} ap i hi => ?_
      obtain ⟨e1, e2⟩ := lead_take.mp hi
      rw [at0_take, if_pos e2]
      exact ap i e1
    obtain ⟨x, h1, h2, h3⟩ := stair_perp (w := w) (z := (rest lot (vAug m v)).take w) (by rw [List.length_take, rl]; omega) (lead_iff.mp el).1 hA hst (fun o ho i hi => by
      obtain ⟨q, hq, rfl⟩ := List.mem_map.mp ho
      obtain ⟨e1, e2⟩ := lead_take.mp hi
      rw [at0_take, if_pos e2]
      exact rest_stair A.len hlen A.st q hq i e1)
    have hp : Perp (ext x m) lot := fun o ho => by
      rw [ext_dt h1 m o (by rw [A.len o ho]; omega)]
      exact h2 _ (List.mem_map.mpr ⟨o, ho, rfl⟩)
    obtain ⟨_, h4⟩ := g x h1 hp
    refine ⟨x, h1, h4, fun z => ?_⟩
    obtain ⟨a, ha, e⟩ := rest_dt (fun o ho => ⟨A.len o ho, A.ldn o ho⟩) hlen
    have h5 := e _ hp
    rw [ext_dt h1 m _ (by omega), ext_dt h1 m _ (by omega)] at h5
    have e2 : (vAug m v).take w = v := by rw [vAug, ← hv, List.take_left']; rfl
    rw [e2, z] at h5
    exact h3 (by simpa using h5)
end K12

namespace K12
open PySem PySem.Spec PyProof.Rows L2 DL
/-! ### a row that is a sum of others -/
theorem rest_pos {w k : Nat} : ∀ {lot : List (List Int)} {row : List Int}, (∀ o ∈ lot, o.length = w ∧ at0 o k = 0 ∧ ∃ i, lead o = some i ∧ 0 < at0 o i) → row.length = w → 0 < at0 row k → 0 < at0 (rest lot row) k
  | [], row, _, _, h => h
  | o :: lot, row, hl, hr, h => by
    obtain ⟨h1, h2, i, h3, h4⟩ := hl o (by simp)
    have hro : row.length = o.length := by rw [hr, h1]
    obtain ⟨a, b, _, h5, h6⟩ := less_lin hro h3
    refine rest_pos (lot := lot) (row := less row o) (fun p hp => hl p (by simp [hp])) (by rw [less_len hro]; exact hr) ?_
    rw [h6 k, h2]
    have := Int.mul_pos (h5 h4) h
    omega
theorem vAug_eq (m : Nat) (v : List Int) : vAug m v = v ++ mk01 m m := by
  unfold vAug
  congr 1
  apply List.ext_getElem?
  intro j
  rcases Nat.lt_trichotomy j m with h | h | h
  · rw [List.getElem?_append_left (by simpa using h)]
    have h2 : j < m + 1 := by omega
    have h3 : ¬ j = m := by omega
    simp [mk01, h, h2, h3]
  · subst h
    rw [List.getElem?_append_right (by simp)]
    simp [mk01]
  · rw [List.getElem?_eq_none (by simp; omega), List.getElem?_eq_none (by simp [mk01]; omega)]
theorem dt_app1 {a c : List Int} (h : a.length = c.length) (b d : Int) : dt (a ++ [b]) (c ++ [d]) = dt a c + b * d := by
  rw [dt_app h]; simp
theorem col_app (X : List (List Int)) (v : List Int) (j : Nat) : col (X ++ [v]) j = col X j ++ [at0 v j] := by simp [col]
theorem col_len (X : List (List Int)) (j : Nat) : (col X j).length = X.length := by simp [col]
theorem at0_mem {g : Int} {xs : List Int} (h : ∀ x ∈ xs, g ∣ x) (j : Nat) : g ∣ at0 xs j := by
  by_cases e : j < xs.length
  · rw [at0_lt e]; exact h _ (List.getElem_mem e)
  · rw [at0_ge (by omega)]; exact ⟨0, by simp⟩
theorem drop_at (x : List Int) (w j : Nat) : at0 (x.drop w) j = at0 x (w + j) := by
  unfold at0; simp [List.getD]
/-- the numbers told: how many times the row, how many times each of the others -/
def timesOf (told : List Int) : Int := (at0 told (told.length - 1)).fdiv (gcdL told)
def partsOf (told : List Int) : List Int := (told.take (told.length - 1)).map fun n => 0 - n.fdiv (gcdL told)
theorem parts_dt {g : Int} (hg : g ≠ 0) : ∀ {ts : List Int}, (∀ x ∈ ts, g ∣ x) → ∀ y, g * dt (ts.map fun n => 0 - n.fdiv g) y = - dt ts y
  | [], _, y => by simp
  | t :: ts, h, [] => by simp
  | t :: ts, h, y :: ys => by
    have ih := parts_dt hg (ts := ts) (fun x hx => h x (by simp [hx])) ys
    obtain ⟨q, hq⟩ := h t (by simp)
    rw [List.map_cons, dt_cons, dt_cons, Int.mul_add, ih, hq, Int.mul_fdiv_cancel_left _ hg]
    have : g * ((0 - q) * y) = - (g * q * y) := by
      rw [Int.zero_sub, Int.neg_mul, Int.mul_neg, Int.mul_assoc]
    omega
theorem sum_some {w m r : Nat} {rows : List (List Int)} {v : List Int} (hm : rows.length = m) (hr : 0 < r) (hl : ∀ o ∈ rows, o.length = w ∧ Bd r o) (hv : v.length = w)
    (h : lead ((rest (lotA w m 0 rows []) (vAug m v)).take w) = none) : gcdL ((rest (lotA w m 0 rows []) (vAug m v)).drop w) ≠ 0 ∧ 1 ≤ timesOf ((rest (lotA w m 0 rows []) (vAug m v)).drop w) ∧ (partsOf ((rest (lotA w m 0 rows []) (vAug m v)).drop w)).length = m ∧
      ∀ j < w, dt (partsOf ((rest (lotA w m 0 rows []) (vAug m v)).drop w)) (col rows j) = timesOf ((rest (lotA w m 0 rows []) (vAug m v)).drop w) * at0 v j := by
  obtain ⟨A, f, g⟩ := lotA_ok (w := w) (m := m) hr rows 0 [] (by omega) ⟨by simp, by simp, by simp, .nil, by simp, by simp⟩ hl
  generalize lotA w m 0 rows [] = lot at A f g h
  have hlen : (vAug m v).length = w + m + 1 := by simp [vAug, hv]; omega
  have rl := rest_len (lot := lot) A.len hlen
  have hpos : 0 < at0 (rest lot (vAug m v)) (w + m) := by
    refine rest_pos (w := w + m + 1) (fun o ho => ⟨A.len o ho, A.last o ho, ?_⟩) hlen ?_
    · obtain ⟨i, h1, _⟩ := A.ld o ho
      exact ⟨i, h1, A.pos o ho i h1⟩
    · rw [vAug_eq, at0_app, if_neg (by omega), mk01_at, if_pos (by omega)]; decide
  have hX : (rows ++ [v]).length = m + 1 := by simp [hm]
  have key : ∀ j < w, dt ((rest lot (vAug m v)).drop w) (col (rows ++ [v]) j) = 0 := fun j hj => by
    obtain ⟨a, ha, e⟩ := rest_dt (fun o ho => ⟨A.len o ho, A.ldn o ho⟩) hlen
    have h1 : Perp (says w j (rows ++ [v])) lot := f _ (perp_nil _) fun q hq => by
      have hq1 : q < m := by omega
      rw [says_dt hX hj (hl _ (List.getElem_mem hq)).1 (mk01_len m (0 + q)), dt_comm, dt_mk _ m (0 + q) (by omega) (by rw [col_len, hX]), col_app, at0_app, col_len, if_pos (by omega)]
      have : at0 (col rows j) (0 + q) = at0 rows[q] j := by
        rw [Nat.zero_add]
        unfold col
        rw [at0_lt (by simpa using hq)]
        simp
      rw [this]; omega
    have h2 := e _ h1
    have h3 : dt (says w j (rows ++ [v])) (vAug m v) = 0 := by
      rw [vAug_eq, says_dt hX hj hv (mk01_len m m), dt_comm, dt_mk _ m m (Nat.le_refl _) (by rw [col_len, hX]), col_app, at0_app, col_len, if_neg (by omega)]
      rw [hm, Nat.sub_self, at0_z]; omega
    rw [h3] at h2
    have h4 : (rest lot (vAug m v)).take w ++ (rest lot (vAug m v)).drop w = rest lot (vAug m v) := List.take_append_drop ..
    rw [← h4, says_dt hX hj (by rw [List.length_take]; omega) (by rw [List.length_drop]; omega), lead_none_at h] at h2
    have h5 : dt ((rest lot (vAug m v)).drop w) (col (rows ++ [v]) j) = 0 := by
      have : a * 0 = 0 := Int.mul_zero a
      omega
    exact h5
  have hT : ∃ T, T = (rest lot (vAug m v)).drop w := ⟨_, rfl⟩
  obtain ⟨T, hT⟩ := hT
  rw [← hT] at key ⊢
  have hTl : T.length = m + 1 := by rw [hT, List.length_drop]; omega
  have hTp : 0 < at0 T m := by rw [hT, drop_at]; exact hpos
  have hg : gcdL T ≠ 0 := fun z => by
    have := lead_none_at (gcdL_zero.mp z) m
    omega
  have hgi : (gcdL T : Int) ≠ 0 := by omega
  have hdv : ∀ x ∈ T, (gcdL T : Int) ∣ x := (gcdF_dvd T 0).2
  have hlast : T.length - 1 = m := by omega
  obtain ⟨q, hq⟩ := at0_mem hdv m
  have ht : timesOf T = q := by
    unfold timesOf
    rw [hlast, hq, Int.mul_fdiv_cancel_left _ hgi]
  refine ⟨hg, ?_, ?_, fun j hj => ?_⟩
  · rw [ht]
    have : 0 < (gcdL T : Int) * q := by omega
    exact Int.pos_of_mul_pos_right this (by omega)
  · simp [partsOf, hTl]
  · rw [ht]
    have h1 := key j hj
    have hsplit : T = T.take m ++ [at0 T m] := by
      rw [at0_lt (by omega)]
      have h6 : T.drop m = [T[m]'(by omega)] := by
        rw [List.drop_eq_getElem_cons (by omega), List.drop_eq_nil_of_le (by omega)]
      rw [← h6, List.take_append_drop]
    rw [hsplit, col_app, dt_app1 (by rw [List.length_take, col_len]; omega)] at h1
    have h2 := parts_dt hgi (ts := T.take m) (fun x hx => hdv x (List.mem_of_mem_take hx)) (col rows j)
    have h3 : partsOf T = (T.take m).map fun n => 0 - n.fdiv (gcdL T) := by unfold partsOf; rw [hlast]
    rw [h3]
    have h4 : (gcdL T : Int) * dt ((T.take m).map fun n => 0 - n.fdiv (gcdL T)) (col rows j) = (gcdL T : Int) * (q * at0 v j) := by
      rw [h2, ← Int.mul_assoc, ← hq]; omega
    exact Int.eq_of_mul_eq_mul_left hgi h4
end K12

namespace K12
open PySem PySem.Spec PyProof.Rows L2 DL
/-! ### the walk of sum_in -/
@[simp] theorem nL_int (i : Int) : nL (.int i) = true := by simp [nL]
@[simp] theorem nL_bl (i : Bool) : nL (.bl i) = true := by simp [nL]
@[simp] theorem nL_str (i : Str) : nL (.str i) = true := by simp [nL]
@[simp] theorem nL_non : nL .non = true := by simp [nL]
@[simp] theorem nL_ref (n : Nat) : nL (.ref n) = true := by simp [nL]
theorem nLs_all : ∀ xs : List D, nLs xs = xs.all nL
  | [] => rfl
  | x :: xs => by simp [nLs, nLs_all xs]
@[simp] theorem nL_tup (xs : List D) : nL (.tup xs) = xs.all nL := by simp [nL, nLs_all]
theorem all_ints (xs : List Int) : (xs.map D.int).all nL = true := by simp
@[simp] theorem nL_ri (xs : List Int) : nL (.tup (xs.map .int)) = true := by simp
@[simp] theorem nL_rows (m : List (List Int)) : nL (.tup (m.map Ri)) = true := by simp
/-- a slot that holds nothing that changes -/
def Pl (c : DL.Slot) : Prop := nLl c = true ∧ ∀ x, c ≠ .own x
theorem Pl.no : Pl .no := ⟨rfl, fun _ z => nomatch z⟩
theorem Pl.val {d : D} (h : nL d = true) : Pl (.val d) := ⟨h, fun _ z => nomatch z⟩
theorem rngD_succ (i : Int) (n : Nat) : rngD i (n + 1) = .int i :: rngD (i + 1) n := by
  unfold rngD
  rw [List.range_succ_eq_map, List.map_cons, List.map_map]
  congr 1
  · simp
  · apply List.map_congr_left
    intro j _
    simp only [Function.comp]
    congr 1
    push_cast
    omega
theorem rng_gen {fa : FA} {s s1 : S} {j : Int} (h : fa s = .ok [.int j] s1) (hs : smallI j = true) : dRng1 fa s = .ok (rngD 0 j.toNat) s1 := by
  unfold dRng1
  rw [h, bind_ok]
  exact if_pos hs
theorem small_w {w : Nat} (hw : w ≤ 70) : smallI (w : Int) = true := by simp [smallI]; omega
theorem rng_len : ∀ (j : Nat) (i : Int), (rngD i j).length = j := fun j i => by simp [rngD]
theorem mk_comp (a0 a1 a2 a3 a4 a6 a7 a8 : DL.Slot) (p : Nat) (μ : List Cell) : ∀ (n k : Nat), dLcGo [12] (gNm 12) dYes (dIf (dCmpT eqS (dVar 12) (dVar 5)) (dC (.int (1))) (dC (.int (0)))) (rngD (k : Int) n) ⟨[a0, a1, a2, a3, a4, .val (.int p), a6, a7, a8, .no, .no, .no, .no], μ⟩ =
    .ok (((List.range' k n).map fun a => if a = p then (1 : Int) else 0).map .int) ⟨[a0, a1, a2, a3, a4, .val (.int p), a6, a7, a8, .no, .no, .no, .no], μ⟩
  | 0, k => rfl
  | n + 1, k => by
    have ih := mk_comp a0 a1 a2 a3 a4 a6 a7 a8 p μ n (k + 1)
    have e : ((k + 1 : Nat) : Int) = (k : Int) + 1 := by push_cast; rfl
    rw [e] at ih
    rw [rngD_succ]
    simp only [List.map_map] at ih
    by_cases h : k = p
    · subst h
      simp [dLcGo, wipeD, backD, ih, List.range'_succ]
    · have h2 : ((k : Int) == (p : Int)) = false := by simp; omega
      simp [dLcGo, wipeD, backD, ih, List.range'_succ, h, h2]
theorem mk_comp0 (a0 a1 a2 a3 a4 a6 a7 a8 : DL.Slot) (p m : Nat) (μ : List Cell) : dLcGo [12] (gNm 12) dYes (dIf (dCmpT eqS (dVar 12) (dVar 5)) (dC (.int (1))) (dC (.int (0)))) (rngD 0 (m + 1)) ⟨[a0, a1, a2, a3, a4, .val (.int p), a6, a7, a8, .no, .no, .no, .no], μ⟩ =
    .ok ((mk01 m p).map .int) ⟨[a0, a1, a2, a3, a4, .val (.int p), a6, a7, a8, .no, .no, .no, .no], μ⟩ := by
  have := mk_comp a0 a1 a2 a3 a4 a6 a7 a8 p μ (m + 1) 0
  rw [← List.range_eq_range'] at this
  exact this
theorem cut_to {xs : List D} {w : Nat} (h : w ≤ xs.length) : DL.cutD xs none (some (w : Int)) = xs.take w := by
  unfold DL.cutD
  rw [HT.sIx_none, HT.sIx_nat, List.drop_zero, Nat.min_eq_left h, Nat.sub_zero]
theorem cut_from {xs : List D} {w : Nat} (h : w ≤ xs.length) : DL.cutD xs (some (w : Int)) none = xs.drop w := by
  unfold DL.cutD
  rw [HT.sIx_none, HT.sIx_nat, Nat.min_eq_left h]
  exact List.take_of_length_le (by simp)
theorem cut_last {xs : List D} (h : 1 ≤ xs.length) : DL.cutD xs none (some (-1)) = xs.take (xs.length - 1) := by
  unfold DL.cutD
  rw [HT.sIx_none, List.drop_zero]
  show xs.take ((-1 + (xs.length : Int)).toNat - 0) = _
  congr 1
  omega
def bodyA : FS := (dSeq (dAsg 7 (dB gTuple (dCons (dFrz (dLc [12] (dRng1 (dCons (dOp gAdd (dVar 3) (dC (.int (1)))) dNil)) (gNm 12) dYes (dIf (dCmpT eqS (dVar 12) (dVar 5)) (dC (.int (1))) (dC (.int (0)))))) dNil)))
    (dSeq (dAsg 8 (dLend 4 (dCall F_rest_by (dCons (dVar 4) (dCons (dOp gAdd (dVar 6) (dVar 7)) dNil)))))
    (dIfS (dCmpT notN (dCall F_lead_in (dCons (dSl (dVar 8) dNo (dPart (dVar 0))) dNil)) (dC .non)) (dDrop (dM "list" gAppend (dVar 4) (dCons (dCall F_lowest_row (dCons (dVar 8) dNil)) dNil))) dSkip)))
theorem ri_app (xs ys : List Int) (s : S) (h : xs.length + ys.length ≤ 16777216) : gAdd s (.tup (xs.map .int)) (.tup (ys.map .int)) = some (.tup ((xs ++ ys).map .int)) := by
  simp [gAdd, h]
theorem ri_take (xs : List Int) (w : Nat) : (xs.map D.int).take w = (xs.take w).map .int := (List.map_take ..).symm
theorem ri_drop (xs : List Int) (w : Nat) : (xs.map D.int).drop w = (xs.drop w).map .int := (List.map_drop ..).symm
theorem rest_by_ok_l {w n r : Nat} (hw : w ≤ 16777216) (hn : 0 < n) {lot : List (List Int)} {row : List Int} (hl : ∀ o ∈ lot, o.length = w ∧ Bd n o ∧ lead o ≠ none) (hr : row.length = w) (hb : Bd r row) (hr0 : 0 < r) (hz : r + (lot.length + 1) * (n + 1) ≤ 40000) (μ : List Cell) :
    F_rest_by [.lst (lot.map Ri), Ri row] μ = .ok (Ri (rest lot row)) μ := by
  obtain ⟨c', e⟩ := rest_loop μ (.val (.lst (lot.map Ri))) hw hn lot row r .no hl hr hb hr0 hz
  simp [F_rest_by, b_rest_by, runF, dForI, e, -List.map_map]
@[simp] theorem nLl_no : nLl .no = true := rfl
@[simp] theorem nLl_val (d : D) : nLl (.val d) = nL d := rfl
@[simp] theorem nLl_own (d : Cell) : nLl (.own d) = nLc d := rfl
@[simp] theorem allc_ints (xs : List Int) : xs.all (nL ∘ D.int) = true := by simp
theorem rng_m1 (a0 a1 a2 a4 a5 a6 a7 a8 : DL.Slot) (m : Nat) (hm : m ≤ 60) (μ : List Cell) : dRng1 (dCons (dOp gAdd (dVar 3) (dC (.int (1)))) dNil) ⟨[a0, a1, a2, .val (.int m), a4, a5, a6, a7, a8, .no, .no, .no, .no], μ⟩ = .ok (rngD 0 (m + 1)) ⟨[a0, a1, a2, .val (.int m), a4, a5, a6, a7, a8, .no, .no, .no, .no], μ⟩ := by
  have e : ((m : Int) + 1) = ((m + 1 : Nat) : Int) := by push_cast; rfl
  have := rng_gen (fa := dCons (dOp gAdd (dVar 3) (dC (.int (1)))) dNil) (s := ⟨[a0, a1, a2, .val (.int m), a4, a5, a6, a7, a8, .no, .no, .no, .no], μ⟩) (s1 := ⟨[a0, a1, a2, .val (.int m), a4, a5, a6, a7, a8, .no, .no, .no, .no], μ⟩) (j := (m : Int) + 1) (by simp) (by rw [e]; exact small_w (by omega))
  rw [this, e, Int.toNat_natCast]
theorem bodyA1g {fr : FA} {ft : FE} {a0 a1 a2 a3 a4 a5 a6 a7 a8 : DL.Slot} {ds : List D} {xs : List Int} {μ : List Cell} (e1 : fr ⟨[a0, a1, a2, a3, a4, a5, a6, a7, a8, .no, .no, .no, .no], μ⟩ = .ok ds ⟨[a0, a1, a2, a3, a4, a5, a6, a7, a8, .no, .no, .no, .no], μ⟩) (hrl : ds.length ≤ 16777216)
    (e2 : dLcGo [12] (gNm 12) dYes ft ds ⟨[a0, a1, a2, a3, a4, a5, a6, a7, a8, .no, .no, .no, .no], μ⟩ = .ok (xs.map .int) ⟨[a0, a1, a2, a3, a4, a5, a6, a7, a8, .no, .no, .no, .no], μ⟩) :
    (dAsg 7 (dB gTuple (dCons (dFrz (dLc [12] fr (gNm 12) dYes ft)) dNil))) ⟨[a0, a1, a2, a3, a4, a5, a6, a7, a8, .no, .no, .no, .no], μ⟩ = .nx ⟨[a0, a1, a2, a3, a4, a5, a6, .val (Ri xs), a8, .no, .no, .no, .no], μ⟩ := by
  simp [-List.map_map, e1, e2, hrl, tup_ints]
theorem bodyA1 (a0 a1 a2 a4 a6 a7 a8 : DL.Slot) (m p : Nat) (hm : m ≤ 60) (μ : List Cell) : (dAsg 7 (dB gTuple (dCons (dFrz (dLc [12] (dRng1 (dCons (dOp gAdd (dVar 3) (dC (.int (1)))) dNil)) (gNm 12) dYes (dIf (dCmpT eqS (dVar 12) (dVar 5)) (dC (.int (1))) (dC (.int (0)))))) dNil))) ⟨[a0, a1, a2, .val (.int m), a4, .val (.int p), a6, a7, a8, .no, .no, .no, .no], μ⟩ =
      .nx ⟨[a0, a1, a2, .val (.int m), a4, .val (.int p), a6, .val (Ri (mk01 m p)), a8, .no, .no, .no, .no], μ⟩ :=
  bodyA1g (rng_m1 a0 a1 a2 a4 (.val (.int p)) a6 a7 a8 m hm μ) (by rw [rng_len]; omega) (mk_comp0 a0 a1 a2 (.val (.int m)) a4 a6 a7 a8 p m μ)
theorem bodyA2 {lot : List (List Int)} {line mk z : List Int} {c8 : DL.Slot} {R V : D} {w m p : Int} {μ : List Cell} (e3 : F_rest_by [.lst (lot.map Ri), Ri (line ++ mk)] μ = .ok (Ri z) μ) (h : line.length + mk.length ≤ 16777216) (n81 : nLl c8 = true) (n82 : ∀ x, c8 ≠ .own x) (nR : nL R = true) (nV : nL V = true) (hμ : μ.all nLc = true) :
    (dAsg 8 (dLend 4 (dCall F_rest_by (dCons (dVar 4) (dCons (dOp gAdd (dVar 6) (dVar 7)) dNil))))) ⟨[.val (.int w), .val R, .val V, .val (.int m), .own (.lst (lot.map Ri)), .val (.int p), .val (Ri line), .val (Ri mk), c8, .no, .no, .no, .no], μ⟩ =
      .nx ⟨[.val (.int w), .val R, .val V, .val (.int m), .own (.lst (lot.map Ri)), .val (.int p), .val (Ri line), .val (Ri mk), .val (Ri z), .no, .no, .no, .no], μ⟩ := by
  have e4 : ∀ s : S, gAdd s (.tup (line.map .int)) (.tup (mk.map .int)) = some (.tup ((line ++ mk).map .int)) := fun s => ri_app _ _ s h
  simp only [ap_Asg, dLend]
  simp [-List.map_map, -List.map_append, -List.map_take, -List.all_eq_true, e3, e4, nR, nV, hμ, n81, isVL]
theorem bodyA3 {lot : List (List Int)} {z : List Int} {w : Nat} {m p : Int} {R V a6 a7 : DL.Slot} {μ : List Cell} (hz : w ≤ z.length) (e7 : F_lowest_row [Ri z] μ = .ok (Ri (low z)) μ) (hll : lot.length < 16777216) :
    (dIfS (dCmpT notN (dCall F_lead_in (dCons (dSl (dVar 8) dNo (dPart (dVar 0))) dNil)) (dC .non)) (dDrop (dM "list" gAppend (dVar 4) (dCons (dCall F_lowest_row (dCons (dVar 8) dNil)) dNil))) dSkip) ⟨[.val (.int w), R, V, .val (.int m), .own (.lst (lot.map Ri)), .val (.int p), a6, a7, .val (Ri z), .no, .no, .no, .no], μ⟩ =
      .nx ⟨[.val (.int w), R, V, .val (.int m), .own (.lst ((if lead (z.take w) = none then lot else lot ++ [low z]).map Ri)), .val (.int p), a6, a7, .val (Ri z), .no, .no, .no, .no], μ⟩ := by
  have e5 : DL.cutD (z.map D.int) none (some (w : Int)) = (z.take w).map .int := by
    rw [cut_to (by simpa using hz), ri_take]
  have e6 := lead_in_ok (z.take w) μ
  cases el : lead (z.take w) with
  | none =>
    rw [el] at e6
    simp [-List.map_map, -List.map_append, -List.map_take, dSl, dNo, dPart, e5, e6, optD, notN]
  | some j =>
    rw [el] at e6
    simp [-List.map_map, -List.map_append, -List.map_take, dSl, dNo, dPart, e5, e6, optD, notN, e7, dM, tyD, cellAt, kitB, gAppend, mutAt, setAt, hll]
    simp
theorem bodyA_ok {w m r p : Nat} {lot : List (List Int)} {line : List Int} {c7 c8 : DL.Slot} {R V : D} {μ : List Cell} (hw : w ≤ 60) (hm : m ≤ 60) (hp : p < m) (hr : 0 < r) (A : Aug w m (AA r lot.length) lot) (hl : line.length = w) (hb : Bd r line)
    (hz : r + (lot.length + 1) * (AA r lot.length + 1) ≤ 8000) (n8 : Pl c8) (nR : nL R = true) (nV : nL V = true) (hμ : μ.all nLc = true) :
    bodyA ⟨[.val (.int w), .val R, .val V, .val (.int m), .own (.lst (lot.map Ri)), .val (.int p), .val (Ri line), c7, c8, .no, .no, .no, .no], μ⟩ =
      .nx ⟨[.val (.int w), .val R, .val V, .val (.int m), .own (.lst ((stepA w m lot p line).map Ri)), .val (.int p), .val (Ri line), .val (Ri (mk01 m p)), .val (Ri (rest lot (line ++ mk01 m p))), .no, .no, .no, .no], μ⟩ := by
  have hlen : (line ++ mk01 m p).length = w + m + 1 := by simp [mk01_len, hl]; omega
  have rl := rest_len (lot := lot) A.len hlen
  have hR : Bd (r + lot.length * (AA r lot.length + 1)) (rest lot (line ++ mk01 m p)) := rest_bd A.bd (bd_app hb (bd_mk r m p hr))
  have hz1 : r + lot.length * (AA r lot.length + 1) ≤ 8000 := by
    rw [Nat.add_mul, Nat.one_mul] at hz; omega
  have hle := A.le
  have e3 := rest_by_ok_l (w := w + m + 1) (n := AA r lot.length) (r := r) (by omega) (AA_pos r _) (lot := lot) (row := line ++ mk01 m p) (fun o ho => ⟨A.len o ho, A.bd o ho, A.ldn o ho⟩) hlen (bd_app hb (bd_mk r m p hr)) hr (by omega) μ
  have e7 := lowest_row_ok (hR.mono (by omega)) (by omega) μ
  unfold bodyA
  rw [ap_Seq, bodyA1 _ _ _ _ _ _ _ m p hm μ]
  simp only []
  rw [ap_Seq, bodyA2 e3 (by rw [mk01_len]; omega) n8.1 n8.2 nR nV hμ]
  simp only []
  rw [bodyA3 (by omega) e7 (by omega)]
  rfl
end K12

namespace K12
open PySem PySem.Spec PyProof.Rows L2 DL
theorem seq_nx {f g : FS} {s s1 : S} (h : f s = .nx s1) : dSeq f g s = g s1 := by rw [ap_Seq, h]
theorem for_en_nx {i j : Nat} {b : FS} {k : Nat} {x : D} {xs : List D} {s s1 s2 : S} (hg : gT (gC (gNm i) (gC (gNm j) gN)) (.tup [.int k, x]) s = some s1) (hb : b s1 = .nx s2) :
    dFor (gT (gC (gNm i) (gC (gNm j) gN))) b (enD k (x :: xs)) s = dFor (gT (gC (gNm i) (gC (gNm j) gN))) b (enD (k + 1) xs) s2 := by
  rw [enD, dFor, hg]
  simp only [hb]
theorem hzA {r w l : Nat} (h : l ≤ w) (hz : r + (w + 1) * (AA r w + 1) ≤ 8000) : r + (l + 1) * (AA r l + 1) ≤ 8000 := by
  have h1 := AA_mono r h
  have h2 : (l + 1) * (AA r l + 1) ≤ (w + 1) * (AA r w + 1) := Nat.mul_le_mul (by omega) (by omega)
  omega
theorem gSt {w m : Int} {p : Nat} {R V L : DL.Slot} {o : D} {c5 c6 c7 c8 : DL.Slot} {μ : List Cell} : gT (gC (gNm 5) (gC (gNm 6) gN)) (.tup [.int (p : Nat), o]) ⟨[.val (.int w), R, V, .val (.int m), L, c5, c6, c7, c8, .no, .no, .no, .no], μ⟩ = some ⟨[.val (.int w), R, V, .val (.int m), L, .val (.int (p : Nat)), .val o, c7, c8, .no, .no, .no, .no], μ⟩ := by
  simp
theorem loopA_ok {w m r : Nat} {R V : D} {μ : List Cell} (hw : w ≤ 60) (hm : m ≤ 60) (hr : 0 < r) (hz : r + (w + 1) * (AA r w + 1) ≤ 8000) (nR : nL R = true) (nV : nL V = true) (hμ : μ.all nLc = true) : ∀ (rows : List (List Int)) (p : Nat) (lot : List (List Int)) (c5 c6 c7 c8 : DL.Slot),
    p + rows.length ≤ m → Aug w m (AA r lot.length) lot → (∀ o ∈ rows, o.length = w ∧ Bd r o) → Pl c8 → ∃ c5' c6' c7' c8', Pl c8' ∧
      dFor (gT (gC (gNm 5) (gC (gNm 6) gN))) bodyA (enD p (rows.map Ri)) ⟨[.val (.int w), .val R, .val V, .val (.int m), .own (.lst (lot.map Ri)), c5, c6, c7, c8, .no, .no, .no, .no], μ⟩ =
        .nx ⟨[.val (.int w), .val R, .val V, .val (.int m), .own (.lst ((lotA w m p rows lot).map Ri)), c5', c6', c7', c8', .no, .no, .no, .no], μ⟩
  | [], p, lot, c5, c6, c7, c8, _, _, _, n8 => ⟨c5, c6, c7, c8, n8, rfl⟩
  | o :: rows, p, lot, c5, c6, c7, c8, hp, A, hl, n8 => by
    rw [List.length_cons] at hp
    obtain ⟨h1, h2⟩ := hl o (by simp)
    have hle := A.le
    have hz1 := hzA hle hz
    have e := bodyA_ok (c7 := c7) hw hm (p := p) (by omega) hr A h1 h2 hz1 n8 nR nV hμ
    obtain ⟨A1, _, _⟩ := stepA_ok (p := p) (by omega) A h1 h2 hr
    obtain ⟨c5', c6', c7', c8', k8, e2⟩ := loopA_ok hw hm hr hz nR nV hμ rows (p + 1) (stepA w m lot p o) (.val (.int p)) (.val (Ri o)) (.val (Ri (mk01 m p))) (.val (Ri (rest lot (o ++ mk01 m p)))) (by omega) A1 (fun q hq => hl q (by simp [hq])) (Pl.val (by simp))
    refine ⟨c5', c6', c7', c8', k8, ?_⟩
    rw [List.map_cons]
    rw [for_en_nx gSt e]
    exact e2
theorem shareA (a0 a1 a2 a3 a4 a5 a6 a7 a8 a9 a12 : DL.Slot) (μ : List Cell) : ∀ (xs : List Int) (g : Nat) (c : DL.Slot), ∃ c', (c' = c ∨ ∃ d, c' = .val d) ∧ dFor (gNm 11) (dAsg 10 (dCall F_common_share (dCons (dVar 10) (dCons (dVar 11) dNil)))) (xs.map .int) ⟨[a0, a1, a2, a3, a4, a5, a6, a7, a8, a9, .val (.int g), c, a12], μ⟩ = .nx ⟨[a0, a1, a2, a3, a4, a5, a6, a7, a8, a9, .val (.int (gcdF g xs)), c', a12], μ⟩
  | [], g, c => ⟨c, .inl rfl, rfl⟩
  | x :: xs, g, c => by
    obtain ⟨c', hc, e⟩ := shareA a0 a1 a2 a3 a4 a5 a6 a7 a8 a9 a12 μ xs (Int.gcd g x) (.val (.int x))
    refine ⟨c', .inr (hc.elim (fun z => ⟨_, z⟩) fun z => z), ?_⟩
    simp [dFor, common_share_ok, gcdF]
    exact e
theorem divA (a0 a1 a2 a3 a4 a5 a6 a7 a8 a9 a12 : DL.Slot) (c : DL.Slot) (μ : List Cell) {g : Int} (h : ∀ a, fdivOk a g = true) : ∀ xs : List Int, dLcGo [11] (gNm 11) dYes (dOp gSub (dC (.int (0))) (dOp gFdiv (dVar 11) (dVar 10))) (xs.map .int) ⟨[a0, a1, a2, a3, a4, a5, a6, a7, a8, a9, .val (.int g), c, a12], μ⟩ = .ok ((xs.map fun n => 0 - n.fdiv g).map .int) ⟨[a0, a1, a2, a3, a4, a5, a6, a7, a8, a9, .val (.int g), c, a12], μ⟩
  | [] => rfl
  | x :: xs => by
    have ih := divA a0 a1 a2 a3 a4 a5 a6 a7 a8 a9 a12 c μ h xs
    simp only [List.map_map] at ih
    simp [dLcGo, wipeD, backD, fdiv_ii (h x), ih]
theorem ix_last (s : S) (xs : List Int) (h : 1 ≤ xs.length) : gIx s (.tup (xs.map .int)) (.int (-1)) = some (.int (at0 xs (xs.length - 1))) := by
  have h2 : -(xs.length : Int) ≤ -1 := by omega
  have h3 : ((-1 : Int) + xs.length).toNat = xs.length - 1 := by omega
  rw [at0_lt (by omega)]
  simp [gIx, L2.atI, L2.ixN, h2, h3, h]
theorem mulz (s : S) (m : Nat) (hm : m ≤ 1000) : gMul s (.tup [.int 0]) (.int (m : Nat)) = some (.tup ((List.replicate m (0 : Int)).map .int)) := by
  rcases Nat.lt_or_ge m 2 with h | h
  · have : m = 0 ∨ m = 1 := by omega
    rcases this with rfl | rfl
    · rfl
    · rfl
  · have h1 : ((m : Int) == 1) = false := by simp; omega
    have h2 : (2 : Int) ≤ m := by omega
    have h3 : (m : Int) ≤ 1000 := by omega
    have e : (List.replicate m [D.int 0]).flatten = (List.replicate m (0 : Int)).map .int := by
      clear hm h h1 h2 h3
      induction m with
      | zero => rfl
      | succ m ih => rw [List.replicate_succ, List.flatten_cons, ih, List.replicate_succ]; rfl
    simp only [gMul, List.isEmpty_cons, h1, Bool.or_false, Bool.false_eq_true, if_false, h2, h3, decide_true, Bool.true_and, List.length_singleton, Int.toNat_natCast, e]
    rfl
def tailA : FS := (dSeq (dAsg 8 (dCall F_rest_by (dCons (dVar 4) (dCons (dOp gAdd (dOp gAdd (dVar 2) (dOp gMul (dTup (dCons (dC (.int (0))) dNil)) (dVar 3))) (dTup (dCons (dC (.int (1))) dNil))) dNil))))
    (dSeq (dIfS (dCmpT notN (dCall F_lead_in (dCons (dSl (dVar 8) dNo (dPart (dVar 0))) dNil)) (dC .non)) (dRet (dC .non)) dSkip)
    (dSeq (dAsg 9 (dSl (dVar 8) (dPart (dVar 0)) dNo))
    (dSeq (dAsg 10 (dC (.int (0))))
    (dSeq (dForI (dIter (dVar 9)) (gNm 11) (dAsg 10 (dCall F_common_share (dCons (dVar 10) (dCons (dVar 11) dNil)))))
    (dRet (dTup (dCons (dOp gFdiv (dOp gIx (dVar 9) (dNeg (dC (.int (1))))) (dVar 10)) (dCons (dB gTuple (dCons (dFrz (dLc [11] (dIter (dSl (dVar 9) dNo (dPart (dNeg (dC (.int (1))))))) (gNm 11) dYes (dOp gSub (dC (.int (0))) (dOp gFdiv (dVar 11) (dVar 10))))) dNil)) dNil))))))))) 
theorem tail1 {a0 a1 a5 a6 a7 a8 : DL.Slot} {m : Nat} {v z : List Int} {L : D} {μ : List Cell} (hm : m ≤ 60) (hv : v.length ≤ 60) (nl : noOwn L = true) (e : F_rest_by [L, Ri (vAug m v)] μ = .ok (Ri z) μ) :
    (dAsg 8 (dCall F_rest_by (dCons (dVar 4) (dCons (dOp gAdd (dOp gAdd (dVar 2) (dOp gMul (dTup (dCons (dC (.int (0))) dNil)) (dVar 3))) (dTup (dCons (dC (.int (1))) dNil))) dNil)))) ⟨[a0, a1, .val (Ri v), .val (.int m), .val L, a5, a6, a7, a8, .no, .no, .no, .no], μ⟩ = .nx ⟨[a0, a1, .val (Ri v), .val (.int m), .val L, a5, a6, a7, .val (Ri z), .no, .no, .no, .no], μ⟩ := by
  have e1 : ∀ s : S, gMul s (.tup [.int 0]) (.int (m : Nat)) = some (.tup ((List.replicate m (0 : Int)).map .int)) := fun s => mulz s m (by omega)
  have e2 : ∀ s : S, gAdd s (.tup (v.map .int)) (.tup ((List.replicate m (0 : Int)).map .int)) = some (.tup ((v ++ List.replicate m 0).map .int)) := fun s => ri_app _ _ s (by simp; omega)
  have e3 : ∀ s : S, gAdd s (.tup ((v ++ List.replicate m 0).map .int)) (.tup [.int 1]) = some (.tup ((vAug m v).map .int)) := fun s => by
    have := ri_app (v ++ List.replicate m 0) [1] s (by simp; omega)
    rw [List.append_assoc] at this
    exact this
  simp [-List.map_append, -List.map_replicate, e1, e2, e3, e, nl]
theorem tail2n {a1 a2 a3 a4 a5 a6 a7 : DL.Slot} {w : Nat} {z : List Int} {g : FS} {μ : List Cell} (hz : w ≤ z.length) (h : lead (z.take w) ≠ none) :
    dSeq (dIfS (dCmpT notN (dCall F_lead_in (dCons (dSl (dVar 8) dNo (dPart (dVar 0))) dNil)) (dC .non)) (dRet (dC .non)) dSkip) g ⟨[.val (.int w), a1, a2, a3, a4, a5, a6, a7, .val (Ri z), .no, .no, .no, .no], μ⟩ = .rt .non ⟨[.val (.int w), a1, a2, a3, a4, a5, a6, a7, .val (Ri z), .no, .no, .no, .no], μ⟩ := by
  have e5 : DL.cutD (z.map D.int) none (some (w : Int)) = (z.take w).map .int := by
    rw [cut_to (by simpa using hz), ri_take]
  have e6 := lead_in_ok (z.take w) μ
  cases el : lead (z.take w) with
  | none => exact absurd el h
  | some j =>
    rw [el] at e6
    simp [-List.map_map, -List.map_append, -List.map_take, dSl, dNo, dPart, e5, e6, optD, notN]
theorem tail2s {a1 a2 a3 a4 a5 a6 a7 : DL.Slot} {w : Nat} {z : List Int} {μ : List Cell} (hz : w ≤ z.length) (h : lead (z.take w) = none) :
    (dIfS (dCmpT notN (dCall F_lead_in (dCons (dSl (dVar 8) dNo (dPart (dVar 0))) dNil)) (dC .non)) (dRet (dC .non)) dSkip) ⟨[.val (.int w), a1, a2, a3, a4, a5, a6, a7, .val (Ri z), .no, .no, .no, .no], μ⟩ = .nx ⟨[.val (.int w), a1, a2, a3, a4, a5, a6, a7, .val (Ri z), .no, .no, .no, .no], μ⟩ := by
  have e5 : DL.cutD (z.map D.int) none (some (w : Int)) = (z.take w).map .int := by
    rw [cut_to (by simpa using hz), ri_take]
  have e6 := lead_in_ok (z.take w) μ
  rw [h] at e6
  simp [-List.map_map, -List.map_append, -List.map_take, dSl, dNo, dPart, e5, e6, optD, notN]
theorem tail3 {a1 a2 a3 a4 a5 a6 a7 : DL.Slot} {w : Nat} {z : List Int} {μ : List Cell} (hz : w ≤ z.length) :
    (dAsg 9 (dSl (dVar 8) (dPart (dVar 0)) dNo)) ⟨[.val (.int w), a1, a2, a3, a4, a5, a6, a7, .val (Ri z), .no, .no, .no, .no], μ⟩ = .nx ⟨[.val (.int w), a1, a2, a3, a4, a5, a6, a7, .val (Ri z), .val (Ri (z.drop w)), .no, .no, .no], μ⟩ := by
  have e5 : DL.cutD (z.map D.int) (some (w : Int)) none = (z.drop w).map .int := by
    rw [cut_from (by simpa using hz), ri_drop]
  simp [-List.map_map, -List.map_append, -List.map_drop, dSl, dNo, dPart, e5]
theorem tail4 {a0 a1 a2 a3 a4 a5 a6 a7 a8 : DL.Slot} {T : List Int} {μ : List Cell} (h1 : 1 ≤ T.length) (hl : T.length ≤ 16777216) (hb : Bd 8000 T) (hg : gcdL T ≠ 0) :
    ∃ s, (dSeq (dAsg 10 (dC (.int (0))))
    (dSeq (dForI (dIter (dVar 9)) (gNm 11) (dAsg 10 (dCall F_common_share (dCons (dVar 10) (dCons (dVar 11) dNil)))))
    (dRet (dTup (dCons (dOp gFdiv (dOp gIx (dVar 9) (dNeg (dC (.int (1))))) (dVar 10)) (dCons (dB gTuple (dCons (dFrz (dLc [11] (dIter (dSl (dVar 9) dNo (dPart (dNeg (dC (.int (1))))))) (gNm 11) dYes (dOp gSub (dC (.int (0))) (dOp gFdiv (dVar 11) (dVar 10))))) dNil)) dNil)))))) ⟨[a0, a1, a2, a3, a4, a5, a6, a7, a8, .val (Ri T), .no, .no, .no], μ⟩ = .rt (.tup [.int (timesOf T), Ri (partsOf T)]) s ∧ s.μ = μ := by
  obtain ⟨c', hc, e⟩ := shareA a0 a1 a2 a3 a4 a5 a6 a7 a8 (.val (Ri T)) .no μ T 0 .no
  have e : dFor (gNm 11) (dAsg 10 (dCall F_common_share (dCons (dVar 10) (dCons (dVar 11) dNil)))) (T.map .int) ⟨[a0, a1, a2, a3, a4, a5, a6, a7, a8, .val (Ri T), .val (.int 0), .no, .no], μ⟩ = .nx ⟨[a0, a1, a2, a3, a4, a5, a6, a7, a8, .val (Ri T), .val (.int (gcdL T)), c', .no], μ⟩ := e
  have ok : ∀ a, fdivOk a (gcdL T : Int) = true := fun a => fdivOk_of (n := 8000) (by omega) (by have := gcdL_bd hb hg; omega) (by decide) (by decide)
  have e2 := divA a0 a1 a2 a3 a4 a5 a6 a7 a8 (.val (Ri T)) .no c' μ ok (T.take (T.length - 1))
  have e3 : DL.cutD (T.map D.int) none (some (-1)) = (T.take (T.length - 1)).map .int := by
    rw [cut_last (by simpa using h1), ri_take, List.length_map]
  have e4 : ∀ s : S, gIx s (.tup (T.map .int)) (.int (-1)) = some (.int (at0 T (T.length - 1))) := fun s => ix_last s T h1
  have hl2 : (T.take (T.length - 1)).length ≤ 16777216 := by rw [List.length_take]; omega
  have e5 : ∀ s : S, gTuple s [.lst ((partsOf T).map .int)] = some (Ri (partsOf T)) := fun s => tup_ints s _
  unfold partsOf at e5 ⊢
  unfold timesOf
  generalize T.take (T.length - 1) = T1 at *
  rcases hc with rfl | ⟨d, rfl⟩
  · exact ⟨_, by simp [-List.map_map, dForI, e, e2, e3, e4, dSl, dNo, dPart, fdiv_ii (ok _), hl2, e5]; rfl, rfl⟩
  · exact ⟨_, by simp [-List.map_map, dForI, e, e2, e3, e4, dSl, dNo, dPart, fdiv_ii (ok _), hl2, e5]; rfl, rfl⟩
end K12

namespace K12
open PySem PySem.Spec PyProof.Rows L2 DL
theorem runF_rt {b : FS} {n : Nat} {ds : List D} {v : D} {s : S} {μ : List Cell} (h : b ⟨ds.map .val ++ List.replicate (n - ds.length) .no, μ⟩ = .rt v s) : runF b n ds μ = .ok v s.μ := by
  unfold runF; rw [h]
def zA (w : Nat) (rows : List (List Int)) (v : List Int) : List Int := rest (lotA w rows.length 0 rows []) (vAug rows.length v)
theorem par_ok {a0 a2 : DL.Slot} {rows : List (List Int)} {μ : List Cell} (hm : rows.length ≤ 60) : dParM 3 4 (dMv (dB gLen (dCons (dVar 1) dNil)) (dMc (dLst dNil) dMn)) ⟨[a0, .val (.tup (rows.map Ri)), a2, .no, .no, .no, .no, .no, .no, .no, .no, .no, .no], μ⟩ = .nx ⟨[a0, .val (.tup (rows.map Ri)), a2, .val (.int rows.length), .own (.lst []), .no, .no, .no, .no, .no, .no, .no, .no], μ⟩ := by
  have h : rows.length ≤ 16777216 := by omega
  simp [dParM, dMv, dMc, dMn, gLen, slotOf]
theorem frz_ok {f : FS} {s : S} {a0 a1 a2 a3 a5 a6 a7 a8 a9 a10 a11 a12 : DL.Slot} {xs : List D} {μ : List Cell} (h : f s = .nx ⟨[a0, a1, a2, a3, .own (.lst xs), a5, a6, a7, a8, a9, a10, a11, a12], μ⟩) : dFrzS 4 f s = .nx ⟨[a0, a1, a2, a3, .val (.lst xs), a5, a6, a7, a8, a9, a10, a11, a12], μ⟩ := by
  simp [dFrzS, h, frzAt, Cell.toD]
theorem forEn {fa : FA} {g : FG} {b : FS} {s : S} {xs : List D} (h : fa s = .ok [.tup xs] s) : dForI (dIterEn fa) g b s = dFor g b (enD 0 xs) s := by
  simp [dForI, h]
theorem sum_in_ok {w r r2 : Nat} {rows : List (List Int)} {v : List Int} {μ : List Cell} (hw : w ≤ 60) (hm : rows.length ≤ 60) (hr : 0 < r) (hl : ∀ o ∈ rows, o.length = w ∧ Bd r o) (hv : v.length = w) (hb : Bd r2 v) (hrr : r ≤ r2) (hz : r2 + (w + 1) * (AA r w + 1) ≤ 8000) (hμ : μ.all nLc = true) :
    Bd 8000 ((zA w rows v).drop w) ∧ (zA w rows v).length = w + rows.length + 1 ∧ F_sum_in [.int (w : Nat), .tup (rows.map Ri), Ri v] μ = .ok (if lead ((zA w rows v).take w) = none then .tup [.int (timesOf ((zA w rows v).drop w)), Ri (partsOf ((zA w rows v).drop w))] else .non) μ := by
  obtain ⟨A, _, _⟩ := lotA_ok (w := w) (m := rows.length) hr rows 0 [] (by omega) ⟨by simp, by simp, by simp, .nil, by simp, by simp⟩ hl
  have hle := A.le
  have hlen : (vAug rows.length v).length = w + rows.length + 1 := by simp [vAug, hv]; omega
  have hz1 : r + (w + 1) * (AA r w + 1) ≤ 8000 := by omega
  have hz2 : r2 + ((lotA w rows.length 0 rows []).length + 1) * (AA r (lotA w rows.length 0 rows []).length + 1) ≤ 8000 := by
    have h1 := AA_mono r hle
    have h2 : ((lotA w rows.length 0 rows []).length + 1) * (AA r (lotA w rows.length 0 rows []).length + 1) ≤ (w + 1) * (AA r w + 1) := Nat.mul_le_mul (by omega) (by omega)
    omega
  have hz3 : r2 + (lotA w rows.length 0 rows []).length * (AA r (lotA w rows.length 0 rows []).length + 1) ≤ 8000 := by
    rw [Nat.add_mul, Nat.one_mul] at hz2; omega
  have hbv : Bd r2 (vAug rows.length v) := by rw [vAug_eq]; exact bd_app hb (bd_mk r2 _ _ (by omega))
  have hR : Bd 8000 (zA w rows v) := (rest_bd A.bd hbv).mono hz3
  have rl : (zA w rows v).length = w + rows.length + 1 := rest_len (lot := lotA w rows.length 0 rows []) A.len hlen
  have hD : Bd 8000 ((zA w rows v).drop w) := fun x hx => hR x (List.mem_of_mem_drop hx)
  refine ⟨hD, rl, ?_⟩
  have e1 := rest_by_ok_l (w := w + rows.length + 1) (n := AA r (lotA w rows.length 0 rows []).length) (r := r2) (by omega) (AA_pos r _) (lot := lotA w rows.length 0 rows []) (row := vAug rows.length v) (fun o ho => ⟨A.len o ho, A.bd o ho, A.ldn o ho⟩) hlen hbv (by omega) (by omega) μ
  obtain ⟨c5, c6, c7, c8, k8, e2⟩ := loopA_ok (R := .tup (rows.map Ri)) (V := Ri v) (μ := μ) hw hm hr hz1 (by simp) (by simp) hμ rows 0 [] .no .no .no .no (by omega) ⟨by simp, by simp, by simp, .nil, by simp, by simp⟩ hl Pl.no
  have hsn := sum_some (r := r) (w := w) (m := rows.length) rfl hr hl hv
  have e1 : F_rest_by [.lst ((lotA w rows.length 0 rows []).map Ri), Ri (vAug rows.length v)] μ = .ok (Ri (zA w rows v)) μ := e1
  have hsn : lead ((zA w rows v).take w) = none → gcdL ((zA w rows v).drop w) ≠ 0 := fun h => (hsn h).1
  generalize lotA w rows.length 0 rows [] = lot at *
  generalize zA w rows v = z at *
  have e0 : b_sum_in ⟨[.val (.int (w : Nat)), .val (.tup (rows.map Ri)), .val (Ri v), .no, .no, .no, .no, .no, .no, .no, .no, .no, .no], μ⟩ =
      tailA ⟨[.val (.int (w : Nat)), .val (.tup (rows.map Ri)), .val (Ri v), .val (.int (rows.length : Nat)), .val (.lst (lot.map Ri)), c5, c6, c7, c8, .no, .no, .no, .no], μ⟩ := by
    unfold b_sum_in
    rw [seq_nx (par_ok hm)]
    refine seq_nx (frz_ok ?_)
    rw [forEn (xs := rows.map Ri) (by simp)]
    exact e2
  have t1 := tail1 (a0 := .val (.int (w : Nat))) (a1 := .val (.tup (rows.map Ri))) (a5 := c5) (a6 := c6) (a7 := c7) (a8 := c8) (m := rows.length) (v := v) (z := z) (L := .lst (lot.map Ri)) (μ := μ) hm (by omega) rfl e1
  by_cases h : lead (z.take w) = none
  · rw [if_pos h]
    obtain ⟨s, e4, e5⟩ := tail4 (a0 := .val (.int (w : Nat))) (a1 := .val (.tup (rows.map Ri))) (a2 := .val (Ri v)) (a3 := .val (.int (rows.length : Nat))) (a4 := .val (.lst (lot.map Ri))) (a5 := c5) (a6 := c6) (a7 := c7) (a8 := .val (Ri z)) (T := z.drop w) (μ := μ) (by rw [List.length_drop]; omega) (by rw [List.length_drop]; omega) hD (hsn h)
    rw [← e5]
    refine runF_rt (n := 13) (ds := [.int (w : Nat), .tup (rows.map Ri), Ri v]) ?_
    show b_sum_in ⟨[.val (.int (w : Nat)), .val (.tup (rows.map Ri)), .val (Ri v), .no, .no, .no, .no, .no, .no, .no, .no, .no, .no], s.μ⟩ = _
    rw [e5, e0]
    unfold tailA
    rw [seq_nx t1, seq_nx (tail2s (by omega) h), seq_nx (tail3 (by omega))]
    exact e4
  · rw [if_neg h]
    refine runF_rt (n := 13) (ds := [.int (w : Nat), .tup (rows.map Ri), Ri v]) (s := ⟨[.val (.int (w : Nat)), .val (.tup (rows.map Ri)), .val (Ri v), .val (.int (rows.length : Nat)), .val (.lst (lot.map Ri)), c5, c6, c7, .val (Ri z), .no, .no, .no, .no], μ⟩) ?_
    show b_sum_in ⟨[.val (.int (w : Nat)), .val (.tup (rows.map Ri)), .val (Ri v), .no, .no, .no, .no, .no, .no, .no, .no, .no, .no], μ⟩ = _
    rw [e0]
    unfold tailA
    rw [seq_nx t1]
    exact tail2n (by omega) h
end K12

namespace K12
open PySem PySem.Spec PyProof.Rows L2 DL
/-! ### the rows that are apart from a lot -/
def shF (s : Int) : List (List Int) → Int
  | [] => s
  | o :: lot => shF (s * at0 o (leadL o)) lot
def putF (sh : Int) (j : Nat) : List (List Int) → List Int → List Int
  | [], cur => cur
  | o :: lot, cur => putF sh j lot (cur.set (leadL o) (0 - at0 o j * sh.fdiv (at0 o (leadL o))))
def lineOf (w : Nat) (lot : List (List Int)) (j : Nat) : List Int := putF (shF 1 lot) j lot ((List.replicate w 0).set j (shF 1 lot))
def aparts (w : Nat) (lot : List (List Int)) : List (List Int) := ((List.range w).filter fun j => !(leads lot).contains j).map (lineOf w lot)
theorem shF_mul : ∀ (lot : List (List Int)) (s : Int), shF s lot = s * shF 1 lot
  | [], s => by simp [shF]
  | o :: lot, s => by rw [shF, shF, shF_mul lot (s * _), shF_mul lot (1 * _)]; rw [Int.one_mul, Int.mul_assoc]
theorem shF_ne : ∀ (lot : List (List Int)) (s : Int), (∀ o ∈ lot, lead o ≠ none) → s ≠ 0 → shF s lot ≠ 0
  | [], s, _, h => h
  | o :: lot, s, hl, h => by
    refine shF_ne lot _ (fun p hp => hl p (by simp [hp])) ?_
    cases e : lead o with
    | none => exact absurd e (hl o (by simp))
    | some i => rw [leadL_some e]; exact Int.mul_ne_zero h (lead_iff.mp e).1
theorem shF_dvd : ∀ (lot : List (List Int)) (s : Int), s ∣ shF s lot ∧ ∀ o ∈ lot, at0 o (leadL o) ∣ shF s lot
  | [], s => ⟨Int.dvd_refl _, fun o ho => by simp at ho⟩
  | o :: lot, s => by
    obtain ⟨h1, h2⟩ := shF_dvd lot (s * at0 o (leadL o))
    refine ⟨Int.dvd_trans (Int.dvd_mul_right _ _) h1, fun p hp => ?_⟩
    rcases List.mem_cons.mp hp with rfl | hp
    · exact Int.dvd_trans (Int.dvd_mul_left _ _) h1
    · exact h2 p hp
theorem abs_mul_lt {a b : Int} {n m : Nat} (ha : a.natAbs < 2 ^ n) (hb : b.natAbs < 2 ^ m) : (a * b).natAbs < 2 ^ (n + m) := by
  rw [Int.natAbs_mul, Nat.pow_add]
  rcases Nat.eq_zero_or_pos b.natAbs with z | z
  · rw [z, Nat.mul_zero]; exact Nat.mul_pos (Nat.two_pow_pos n) (Nat.two_pow_pos m)
  · exact Nat.mul_lt_mul_of_lt_of_le ha (Nat.le_of_lt hb) (Nat.two_pow_pos m) |> fun h => by
      have h1 : a.natAbs * b.natAbs < 2 ^ n * b.natAbs := Nat.mul_lt_mul_of_pos_right ha z
      exact Nat.lt_of_lt_of_le h1 (Nat.mul_le_mul_left _ (Nat.le_of_lt hb))
theorem shF_bd {n : Nat} : ∀ (lot : List (List Int)) (s : Int) (k : Nat), (∀ o ∈ lot, Bd n o) → s.natAbs < 2 ^ k → (shF s lot).natAbs < 2 ^ (k + lot.length * n)
  | [], s, k, _, h => by simpa [shF] using h
  | o :: lot, s, k, hl, h => by
    have := shF_bd lot (s * at0 o (leadL o)) (k + n) (fun p hp => hl p (by simp [hp])) (abs_mul_lt h (bd_at (hl o (by simp)) _))
    have e : k + n + lot.length * n = k + (lot.length + 1) * n := by rw [Nat.add_mul]; omega
    rw [e] at this
    exact this
theorem putF_len (sh : Int) (j : Nat) : ∀ (lot : List (List Int)) (cur : List Int), (putF sh j lot cur).length = cur.length
  | [], cur => rfl
  | o :: lot, cur => by rw [putF, putF_len]; simp
/-- places that no lead reaches are kept by products -/
theorem putF_keep {w : Nat} {sh : Int} {j : Nat} : ∀ {lot : List (List Int)} {cur r : List Int}, (∀ o ∈ lot, o.length = w ∧ lead o ≠ none) → cur.length = w → (∀ o ∈ lot, ∀ i, lead o = some i → at0 r i = 0) → dt (putF sh j lot cur) r = dt cur r
  | [], cur, r, _, _, _ => rfl
  | o :: lot, cur, r, hl, hc, h => by
    rw [putF, putF_keep (lot := lot) (fun p hp => hl p (by simp [hp])) (by simpa using hc) (fun p hp => h p (by simp [hp]))]
    cases e : lead o with
    | none => exact absurd e (hl o (by simp)).2
    | some i =>
      have hi := (lead_some e).1
      rw [leadL_some e, dt_set _ (by have := (hl o (by simp)).1; omega), h o (by simp) i e]; simp
theorem putF_perp {w : Nat} {sh : Int} {j : Nat} : ∀ {lot : List (List Int)} {cur : List Int}, (∀ o ∈ lot, o.length = w ∧ lead o ≠ none) → cur.length = w → lot.Pairwise Apart → (∀ o ∈ lot, at0 o (leadL o) ∣ sh) →
    (∀ o ∈ lot, ∀ i, lead o = some i → at0 cur i = 0) → ∀ r ∈ lot, dt (putF sh j lot cur) r = dt cur r - at0 r j * sh
  | [], cur, _, _, _, _, _ => fun r hr => by simp at hr
  | o :: lot, cur, hl, hc, ha, hd, h0 => fun r hr => by
    have hp := List.pairwise_cons.mp ha
    have hl' : ∀ p ∈ lot, p.length = w ∧ lead p ≠ none := fun p hp => hl p (by simp [hp])
    cases e : lead o with
    | none => exact absurd e (hl o (by simp)).2
    | some i =>
      have hi : i < cur.length := by have := (lead_some e).1; have := (hl o (by simp)).1; omega
      rw [putF, leadL_some e]
      rcases List.mem_cons.mp hr with rfl | hr
      · rw [putF_keep hl' (by simpa using hc) (fun p hp2 k hk => (hp.1 p hp2).2 k hk), dt_set _ hi, h0 r (by simp) i e]
        obtain ⟨q, hq⟩ := hd r (by simp)
        rw [leadL_some e] at hq
        have hne := (lead_iff.mp e).1
        rw [hq, Int.mul_fdiv_cancel_left _ hne]
        have : (0 - at0 r j * q - 0) * at0 r i = - (at0 r j * (at0 r i * q)) := by
          rw [Int.sub_zero, Int.zero_sub, Int.neg_mul, Int.mul_assoc, Int.mul_comm q]
        omega
      · have hz : at0 r i = 0 := (hp.1 r hr).1 i e
        rw [putF_perp (lot := lot) hl' (by simpa using hc) hp.2 (fun p hp => hd p (by simp [hp])) (fun p hp2 k hk => ?_) r hr, dt_set _ hi, hz]
        · simp
        · rw [at0_set _ hi, if_neg, h0 p (by simp [hp2]) k hk]
          rintro rfl
          exact (lead_iff.mp e).1 ((hp.1 p hp2).2 k hk)
theorem not_lead {lot : List (List Int)} {j : Nat} (h : (leads lot).contains j = false) {o : List Int} (ho : o ∈ lot) : lead o ≠ some j := fun e => by
  have : j ∈ leads lot := List.mem_map.mpr ⟨o, ho, leadL_some e⟩
  rw [List.contains_iff_mem.mpr this] at h
  cases h
theorem line_len (w : Nat) (lot : List (List Int)) (j : Nat) : (lineOf w lot j).length = w := by simp [lineOf, putF_len]
theorem at0_rep (w j : Nat) : at0 (List.replicate w 0) j = 0 := by
  unfold at0
  by_cases h : j < w <;> simp [List.getD, h]
theorem line_perp {w n : Nat} {lot : List (List Int)} (L : Lt w n lot) {j : Nat} (hj : j < w) (hn : (leads lot).contains j = false) : Perp (lineOf w lot j) lot := fun r hr => by
  unfold lineOf
  rw [putF_perp (fun o ho => ⟨L.len o ho, L.ld o ho⟩) (by simp) L.ap (shF_dvd lot 1).2 (fun o ho i hi => ?_) r hr, dt_set _ (by simpa using hj), dt_rep, at0_rep]
  · rw [Int.sub_zero, Int.mul_comm]; omega
  · rw [at0_set _ (by simpa using hj), if_neg (fun e => by subst e; exact not_lead hn ho hi), at0_rep]
theorem line_at {w n : Nat} {lot : List (List Int)} (L : Lt w n lot) {j : Nat} (hj : j < w) {z : List Int} (hz : ∀ o ∈ lot, ∀ i, lead o = some i → at0 z i = 0) : dt (lineOf w lot j) z = shF 1 lot * at0 z j := by
  unfold lineOf
  rw [putF_keep (fun o ho => ⟨L.len o ho, L.ld o ho⟩) (by simp) hz, dt_set _ (by simpa using hj), dt_rep, at0_rep]
  simp
theorem perp_lines {w n : Nat} {lot : List (List Int)} (L : Lt w n lot) {x : List Int} (hx : x ∈ aparts w lot) : x.length = w ∧ Perp x lot := by
  obtain ⟨j, hj, rfl⟩ := List.mem_map.mp hx
  obtain ⟨h1, h2⟩ := List.mem_filter.mp hj
  exact ⟨line_len _ _ _, line_perp L (List.mem_range.mp h1) (by simpa using h2)⟩
/-- a row that the lot does not hold is not apart from the lines -/
theorem lines_full {w n : Nat} {lot : List (List Int)} (L : Lt w n lot) {v : List Int} (hv : v.length = w) (h : lead (rest lot v) ≠ none) : ∃ x ∈ aparts w lot, dt x v ≠ 0 := by
  cases e : lead (rest lot v) with
  | none => exact absurd e h
  | some j =>
    have hl := rest_len L.len hv
    obtain ⟨h1, _⟩ := lead_some e
    have hz := rest_zero L.len hv L.ap
    have hn : (leads lot).contains j = false := by
      cases hc : (leads lot).contains j with
      | false => rfl
      | true =>
        obtain ⟨o, ho, h3⟩ := List.mem_map.mp (List.contains_iff_mem.mp hc)
        cases eo : lead o with
        | none => exact absurd eo (L.ld o ho)
        | some i =>
          rw [leadL_some eo] at h3
          subst h3
          exact absurd (hz o ho _ eo) (lead_iff.mp e).1
    refine ⟨lineOf w lot j, List.mem_map.mpr ⟨j, List.mem_filter.mpr ⟨List.mem_range.mpr (by omega), by rw [hn]; rfl⟩, rfl⟩, fun z => ?_⟩
    obtain ⟨a, ha, e2⟩ := rest_dt (fun o ho => ⟨L.len o ho, L.ld o ho⟩) hv
    have h4 := e2 _ (line_perp L (by omega) hn)
    rw [line_at L (by omega) hz, z] at h4
    exact Int.mul_ne_zero (shF_ne lot 1 L.ld (by decide)) (lead_iff.mp e).1 (by simpa using h4)
theorem aparts_len {w n : Nat} {lot : List (List Int)} (L : Lt w n lot) : (aparts w lot).length + lot.length ≤ w := by
  have h := nodup_le w (leads lot ++ (List.range w).filter fun j => !(leads lot).contains j) (by
    rw [List.nodup_append]
    refine ⟨L.nodup.1, List.nodup_range.filter _, fun a ha b hb e => ?_⟩
    subst e
    have := (List.mem_filter.mp hb).2
    rw [List.contains_iff_mem.mpr ha] at this
    cases this) (fun x hx => by
    rcases List.mem_append.mp hx with hx | hx
    · exact L.nodup.2 x hx
    · exact List.mem_range.mp (List.mem_filter.mp hx).1)
  have := h.1
  rw [List.length_append] at this
  simp only [leads, List.length_map] at this
  simp only [aparts, List.length_map, leads]
  omega
theorem fdiv_abs2 {s g : Int} (h : g ∣ s) (h0 : g ≠ 0) : (s.fdiv g).natAbs ≤ s.natAbs := by
  obtain ⟨q, rfl⟩ := h
  rw [Int.mul_fdiv_cancel_left _ h0, Int.natAbs_mul]
  exact Nat.le_mul_of_pos_left _ (by omega)
theorem bd_set {n : Nat} {x : List Int} {i : Nat} {v : Int} (h : Bd n x) (hv : v.natAbs < 2 ^ n) : Bd n (x.set i v) := fun z hz => by
  rcases List.mem_or_eq_of_mem_set hz with h1 | rfl
  · exact h z h1
  · exact hv
theorem ent_bd {n k : Nat} {lot : List (List Int)} (hl : ∀ o ∈ lot, Bd n o ∧ lead o ≠ none) {sh : Int} (hs : sh.natAbs < 2 ^ k) (hd : ∀ o ∈ lot, at0 o (leadL o) ∣ sh) {o : List Int} (ho : o ∈ lot) (j : Nat) : (0 - at0 o j * sh.fdiv (at0 o (leadL o))).natAbs < 2 ^ (n + k) := by
  have h1 := abs_mul_lt (bd_at (hl o ho).1 j) (show (sh.fdiv (at0 o (leadL o))).natAbs < 2 ^ k by
    refine Nat.lt_of_le_of_lt (fdiv_abs2 (hd o ho) ?_) hs
    cases e : lead o with
    | none => exact absurd e (hl o ho).2
    | some i => rw [leadL_some e]; exact (lead_iff.mp e).1)
  omega
theorem putF_bd {n k : Nat} {sh : Int} {j : Nat} (hs : sh.natAbs < 2 ^ k) : ∀ {lot : List (List Int)} {cur : List Int}, (∀ o ∈ lot, Bd n o ∧ lead o ≠ none) → (∀ o ∈ lot, at0 o (leadL o) ∣ sh) → Bd (n + k) cur → Bd (n + k) (putF sh j lot cur)
  | [], cur, _, _, h => h
  | o :: lot, cur, hl, hd, h => putF_bd hs (lot := lot) (fun p hp => hl p (by simp [hp])) (fun p hp => hd p (by simp [hp])) (bd_set h (ent_bd hl hs hd (by simp) j))
theorem line_bd {w n : Nat} {lot : List (List Int)} (L : Lt w n lot) (j : Nat) : Bd (n + (1 + lot.length * n)) (lineOf w lot j) := by
  have hs := shF_bd lot 1 1 L.bd (by decide)
  refine putF_bd hs (fun o ho => ⟨L.bd o ho, L.ld o ho⟩) (shF_dvd lot 1).2 (bd_set (fun z hz => ?_) (Nat.lt_of_lt_of_le hs (Nat.pow_le_pow_right (by decide) (by omega))))
  rw [List.eq_of_mem_replicate hz]
  exact Nat.two_pow_pos _
end K12

namespace K12
open PySem PySem.Spec PyProof.Rows L2 DL
/-! ### the walk of apart_in -/
theorem in_ints (s : S) (w : Int) (ls : List Int) : gDat inG s (.int w) (.lst (ls.map .int)) = some (.bl (ls.any fun l => l == w)) := by
  have : (ls.map PyData.int).any (fun y => PyData.eqv y (.int w)) = ls.any fun l => l == w := by
    rw [List.any_map]
    congr 1
  simp only [gDat, pys_int, pys_lst, py_ints, Option.map_some, inG, sh_int, sh_lsti, Bool.and_self, if_true, this]
theorem ni_ints (s : S) (w : Int) (ls : List Int) : gDat niG s (.int w) (.lst (ls.map .int)) = some (.bl (!(ls.any fun l => l == w))) := by
  have : (ls.map PyData.int).any (fun y => PyData.eqv y (.int w)) = ls.any fun l => l == w := by
    rw [List.any_map]
    congr 1
  simp only [gDat, niG, pys_int, pys_lst, py_ints, Option.map_some, inG, sh_int, sh_lsti, Bool.and_self, if_true, this]
def ldI (lot : List (List Int)) : List Int := (leads lot).map fun (l : Nat) => (l : Int)
theorem ldI_any (lot : List (List Int)) (j : Nat) : (ldI lot).any (fun l => l == (j : Int)) = (leads lot).contains j := by
  unfold ldI
  rw [List.any_map, List.contains_eq_any_beq]
  congr 1
  funext l
  simp only [Function.comp]
  by_cases h : l = j
  · subst h; simp
  · have h2 : ((l : Int) == (j : Int)) = false := by simp; omega
    have h3 : (j == l) = false := by simp; omega
    rw [h2, h3]
theorem ldI_cons (o : List Int) (lot : List (List Int)) : ldI (o :: lot) = (leadL o : Int) :: ldI lot := rfl
theorem optD_leadL {o : List Int} (h : lead o ≠ none) : optD (lead o) = .int (leadL o) := by
  cases e : lead o with
  | none => exact absurd e h
  | some i => rw [leadL_some e]; rfl
theorem leadL_lt {o : List Int} (h : lead o ≠ none) : leadL o < o.length := by
  cases e : lead o with
  | none => exact absurd e h
  | some i => rw [leadL_some e]; exact (lead_some e).1
theorem ld_comp (a0 a1 c2 : DL.Slot) (n2 : ∀ x, c2 ≠ .own x) (μ : List Cell) : ∀ (lot : List (List Int)), (∀ o ∈ lot, lead o ≠ none) →
    dLcGo [2] (gNm 2) dYes (dCall F_lead_in (dCons (dVar 2) dNil)) (lot.map Ri) ⟨[a0, a1, c2, .no, .no, .no, .no, .no, .no], μ⟩ = .ok ((ldI lot).map .int) ⟨[a0, a1, c2, .no, .no, .no, .no, .no, .no], μ⟩
  | [], _ => rfl
  | o :: lot, h => by
    have ih := ld_comp a0 a1 c2 n2 μ lot fun p hp => h p (by simp [hp])
    have e := lead_in_ok o μ
    rw [optD_leadL (h o (by simp))] at e
    rw [ldI_cons]
    cases c2 with
    | own x => exact absurd rfl (n2 x)
    | no => simp [dLcGo, wipeD, backD, e, ih]
    | val x => simp [dLcGo, wipeD, backD, e, ih]
theorem ap_par {w : Int} {lot : List (List Int)} {μ : List Cell} (hl : lot.length ≤ 60) (h : ∀ o ∈ lot, lead o ≠ none) : dParM3 3 4 5 (dMv (dFrz (dLc [2] (dIter (dVar 1)) (gNm 2) dYes (dCall F_lead_in (dCons (dVar 2) dNil)))) (dMv (dC (.int (1))) (dMc (dLst dNil) dMn))) ⟨[.val (.int w), .val (.tup (lot.map Ri)), .no, .no, .no, .no, .no, .no, .no], μ⟩ =
    .nx ⟨[.val (.int w), .val (.tup (lot.map Ri)), .no, .val (.lst ((ldI lot).map .int)), .val (.int 1), .own (.lst []), .no, .no, .no], μ⟩ := by
  have e := ld_comp (.val (.int w)) (.val (.tup (lot.map Ri))) .no (fun _ z => nomatch z) μ lot h
  have hl2 : lot.length ≤ 16777216 := by omega
  simp [dParM3, dMv, dMc, dMn, slotOf, e, hl2, -List.map_map]
theorem mul_sh {n k : Nat} {s : Int} {o : List Int} (hb : Bd n o) (hs : s.natAbs < 2 ^ k) (hn : 0 < n) (hk : 0 < k) (hnk : n + k ≤ 50000) : mulOk s (at0 o (leadL o)) = true := mulOk_of hs (bd_at hb _) hk hn (by omega)
theorem ix_at {s : S} {xs : List Int} {i : Nat} (h : i < xs.length) : gIx s (.tup (xs.map .int)) (.int (i : Nat)) = some (.int (at0 xs i)) := by
  rw [ix_row s xs i h, at0_lt h]
theorem ap_share (a0 a1 a3 a5 a7 a8 : DL.Slot) (μ : List Cell) {n : Nat} (hn : 0 < n) : ∀ (lot : List (List Int)) (s : Int) (k : Nat) (c6 c2 : DL.Slot), (∀ o ∈ lot, Bd n o ∧ lead o ≠ none) → s.natAbs < 2 ^ k → 0 < k → k + (lot.length + 1) * n ≤ 50000 → ∃ c2' c6', dFor (gT (gC (gNm 6) (gC (gNm 2) gN))) (dAsg 4 (dOp gMul (dVar 4) (dOp gIx (dVar 2) (dVar 6)))) (zpD ((ldI lot).map .int) (lot.map Ri)) ⟨[a0, a1, c2, a3, .val (.int s), a5, c6, a7, a8], μ⟩ =
    .nx ⟨[a0, a1, c2', a3, .val (.int (shF s lot)), a5, c6', a7, a8], μ⟩
  | [], s, k, c6, c2, _, _, _, _ => ⟨c2, c6, rfl⟩
  | o :: lot, s, k, c6, c2, hl, hs, hk, hz => by
    obtain ⟨h1, h2⟩ := hl o (by simp)
    have e0 : k + (lot.length + 1 + 1) * n = k + n + (lot.length + 1) * n := by rw [Nat.add_mul (lot.length + 1)]; omega
    rw [List.length_cons, e0] at hz
    obtain ⟨c2', c6', e⟩ := ap_share a0 a1 a3 a5 a7 a8 μ hn lot (s * at0 o (leadL o)) (k + n) (.val (.int (leadL o))) (.val (Ri o)) (fun p hp => hl p (by simp [hp])) (abs_mul_lt hs (bd_at h1 _)) (by omega) hz
    refine ⟨c2', c6', ?_⟩
    have e1 : ∀ s : S, gIx s (.tup (o.map .int)) (.int (leadL o : Nat)) = some (.int (at0 o (leadL o))) := fun s => ix_at (leadL_lt h2)
    have e2 := mul_sh (n := n) (k := k) (s := s) h1 hs hn hk (by omega)
    rw [ldI_cons]
    simp [zpD, dFor, e1, mul_ii e2]
    exact e
theorem set_own {s : S} {i : Nat} {xs : List Int} {k : Nat} {v : Int} (h : s.δ[i]? = some (.own (.lst (xs.map .int)))) (hk : k < xs.length) : gSetI s (.own i) (.int (k : Nat)) (.int v) = some { s with δ := s.δ.set i (.own (.lst ((xs.set k v).map .int))) } := by
  simp [gSetI, mutAt, h, L2.ixN, hk, setAt, List.map_set]
end K12

namespace K12
open PySem PySem.Spec PyProof.Rows L2 DL
def setB : FS := (dSetI gSetI (dOp gSub (dC (.int (0))) (dOp gMul (dOp gIx (dVar 2) (dVar 7)) (dOp gFdiv (dVar 4) (dOp gIx (dVar 2) (dVar 6))))) (dVar 8) (dVar 6))
theorem setB_ok {a0 a1 a3 a5 : DL.Slot} {o cur : List Int} {sh : Int} {j n k : Nat} {μ : List Cell} (hn : 0 < n) (hn2 : n ≤ 8900) (hk : 0 < k) (hnk : n + k ≤ 50000) (hb : Bd n o) (hl : lead o ≠ none) (hs : sh.natAbs < 2 ^ k) (hd : at0 o (leadL o) ∣ sh) (hj : j < o.length) (hc : leadL o < cur.length) :
    setB ⟨[a0, a1, .val (Ri o), a3, .val (.int sh), a5, .val (.int (leadL o)), .val (.int j), .own (.lst (cur.map .int))], μ⟩ = .nx ⟨[a0, a1, .val (Ri o), a3, .val (.int sh), a5, .val (.int (leadL o)), .val (.int j), .own (.lst ((cur.set (leadL o) (0 - at0 o j * sh.fdiv (at0 o (leadL o)))).map .int))], μ⟩ := by
  have e1 : ∀ s : S, gIx s (.tup (o.map .int)) (.int (leadL o : Nat)) = some (.int (at0 o (leadL o))) := fun s => ix_at (leadL_lt hl)
  have e2 : ∀ s : S, gIx s (.tup (o.map .int)) (.int (j : Nat)) = some (.int (at0 o j)) := fun s => ix_at hj
  have h0 : at0 o (leadL o) ≠ 0 := by
    cases e : lead o with
    | none => exact absurd e hl
    | some i => rw [leadL_some e]; exact (lead_iff.mp e).1
  have f1 : fdivOk sh (at0 o (leadL o)) = true := fdivOk_of h0 (bd_at hb _) hn hn2
  have f2 : mulOk (at0 o j) (sh.fdiv (at0 o (leadL o))) = true := mulOk_of (bd_at hb _) (Nat.lt_of_le_of_lt (fdiv_abs2 hd h0) hs) hn hk hnk
  have f3 := set_own (s := ⟨[a0, a1, .val (Ri o), a3, .val (.int sh), a5, .val (.int (leadL o)), .val (.int j), .own (.lst (cur.map .int))], μ⟩) (i := 8) (v := 0 - at0 o j * sh.fdiv (at0 o (leadL o))) rfl hc
  unfold setB dSetI
  simp only [ap_Op, ap_C, ap_Var, bind_ok, sub_ii, List.getElem?_cons_succ, List.getElem?_cons_zero, e1, e2, fdiv_ii f1, mul_ii f2, no_int, if_true]
  rw [f3]
  rfl
theorem ap_in (a0 a1 a3 a5 : DL.Slot) (μ : List Cell) {sh : Int} {j n k w : Nat} (hn : 0 < n) (hn2 : n ≤ 8900) (hk : 0 < k) (hnk : n + k ≤ 50000) (hs : sh.natAbs < 2 ^ k) (hj : j < w) : ∀ (lot : List (List Int)) (cur : List Int) (c6 c2 : DL.Slot), (∀ o ∈ lot, o.length = w ∧ Bd n o ∧ lead o ≠ none ∧ at0 o (leadL o) ∣ sh) → cur.length = w →
    ∃ c2' c6', dFor (gT (gC (gNm 6) (gC (gNm 2) gN))) setB (zpD ((ldI lot).map .int) (lot.map Ri)) ⟨[a0, a1, c2, a3, .val (.int sh), a5, c6, .val (.int j), .own (.lst (cur.map .int))], μ⟩ =
    .nx ⟨[a0, a1, c2', a3, .val (.int sh), a5, c6', .val (.int j), .own (.lst ((putF sh j lot cur).map .int))], μ⟩
  | [], cur, c6, c2, _, _ => ⟨c2, c6, rfl⟩
  | o :: lot, cur, c6, c2, hl, hc => by
    obtain ⟨h1, h2, h3, h4⟩ := hl o (by simp)
    have h5 := leadL_lt h3
    obtain ⟨c2', c6', e⟩ := ap_in a0 a1 a3 a5 μ hn hn2 hk hnk hs hj lot (cur.set (leadL o) (0 - at0 o j * sh.fdiv (at0 o (leadL o)))) (.val (.int (leadL o))) (.val (Ri o)) (fun p hp => hl p (by simp [hp])) (by simpa using hc)
    refine ⟨c2', c6', ?_⟩
    have e1 := setB_ok (a0 := a0) (a1 := a1) (a3 := a3) (a5 := a5) (μ := μ) (cur := cur) hn hn2 hk hnk h2 h3 hs h4 (show j < o.length by omega) (by omega)
    rw [ldI_cons, List.map_cons, List.map_cons, zpD, dFor]
    simp only [ap_gT, ap_gC, ap_gNm, ap_gN, Option.bind_some, List.set_cons_succ, List.set_cons_zero]
    rw [e1]
    exact e
def lineB : FS := (dSeq (dAsgO 8 (dRepF (dLst (dCons (dC (.int (0))) dNil)) (dVar 0)))
    (dSeq (dSetI gSetI (dVar 4) (dVar 8) (dVar 7))
    (dSeq (dForI (dIterZp (dCons (dVar 3) (dCons (dVar 1) dNil))) (gT (gC (gNm 6) (gC (gNm 2) gN))) setB)
    (dDrop (dM "list" gAppend (dVar 5) (dCons (dB gTuple (dCons (dVar 8) dNil)) dNil))))))
theorem repz (w : Nat) (hw : w ≤ 60) : repD (.lst [.int 0]) (.int (w : Nat)) = some ((List.replicate w (0 : Int)).map .int) := by
  have e : (List.replicate w [D.int 0]).flatten = (List.replicate w (0 : Int)).map .int := by
    clear hw
    induction w with
    | zero => rfl
    | succ m ih => rw [List.replicate_succ, List.flatten_cons, ih, List.replicate_succ]; rfl
  have h1 : -(2 ^ 63 : Int) ≤ w := by omega
  have h2 : (w : Int) < 2 ^ 63 := by omega
  have h3 : 1 * w ≤ 16777216 := by omega
  simp only [repD, Int.toNat_natCast, List.length_singleton, e, h1, h2, h3, decide_true, Bool.and_self, if_true]
theorem repF_ok {fa : FC} {fb : FE} {s s1 s2 : S} {c : Cell} {b : D} {ys : List D} (h1 : fa s = .ok c s1) (h2 : fb s1 = .ok b s2) (h3 : repD c b = some ys) : dRepF fa fb s = .ok (.lst ys) s2 := by
  unfold dRepF
  rw [h1, bind_ok, h2, bind_ok, h3]
theorem lst0 {s : S} : dLst (dCons (dC (.int (0))) dNil) s = .ok (.lst [.int 0]) s := by simp
theorem asgO_ok {i : Nat} {fa : FC} {s s1 : S} {c : Cell} (h : fa s = .ok c s1) : dAsgO i fa s = .nx { s1 with δ := s1.δ.set i (.own c) } := by rw [ap_AsgO, h]
theorem line1 {a1 a2 a3 a4 a5 a6 a7 a8 : DL.Slot} {w : Nat} {μ : List Cell} (hw : w ≤ 60) : (dAsgO 8 (dRepF (dLst (dCons (dC (.int (0))) dNil)) (dVar 0))) ⟨[.val (.int (w : Nat)), a1, a2, a3, a4, a5, a6, a7, a8], μ⟩ = .nx ⟨[.val (.int (w : Nat)), a1, a2, a3, a4, a5, a6, a7, .own (.lst ((List.replicate w (0 : Int)).map .int))], μ⟩ :=
  by
  have e : dVar 0 ⟨[.val (.int (w : Nat)), a1, a2, a3, a4, a5, a6, a7, a8], μ⟩ = .ok (.int (w : Nat)) ⟨[.val (.int (w : Nat)), a1, a2, a3, a4, a5, a6, a7, a8], μ⟩ := by simp
  have h := repF_ok (s := ⟨[.val (.int (w : Nat)), a1, a2, a3, a4, a5, a6, a7, a8], μ⟩) lst0 e (repz w hw)
  rw [asgO_ok h]
  simp only [List.set_cons_succ, List.set_cons_zero]
theorem line2 {a0 a1 a2 a3 a5 a6 : DL.Slot} {xs : List Int} {sh : Int} {j : Nat} {μ : List Cell} (hj : j < xs.length) : (dSetI gSetI (dVar 4) (dVar 8) (dVar 7)) ⟨[a0, a1, a2, a3, .val (.int sh), a5, a6, .val (.int (j : Nat)), .own (.lst (xs.map .int))], μ⟩ = .nx ⟨[a0, a1, a2, a3, .val (.int sh), a5, a6, .val (.int (j : Nat)), .own (.lst ((xs.set j sh).map .int))], μ⟩ := by
  have f3 := set_own (s := ⟨[a0, a1, a2, a3, .val (.int sh), a5, a6, .val (.int (j : Nat)), .own (.lst (xs.map .int))], μ⟩) (i := 8) (v := sh) rfl hj
  unfold dSetI
  simp only [ap_Var, bind_ok, List.getElem?_cons_succ, List.getElem?_cons_zero, no_int, if_true]
  rw [f3]
  rfl
theorem line4 {a0 a1 a2 a3 a4 a6 a7 : DL.Slot} {xs : List Int} {fs : List (List Int)} {μ : List Cell} (hf : fs.length < 16777216) : (dDrop (dM "list" gAppend (dVar 5) (dCons (dB gTuple (dCons (dVar 8) dNil)) dNil))) ⟨[a0, a1, a2, a3, a4, .own (.lst (fs.map Ri)), a6, a7, .own (.lst (xs.map .int))], μ⟩ = .nx ⟨[a0, a1, a2, a3, a4, .own (.lst ((fs ++ [xs]).map Ri)), a6, a7, .own (.lst (xs.map .int))], μ⟩ := by
  simp [-List.map_map, dM, tyD, cellAt, kitB, gAppend, mutAt, setAt, gTuple, asSeq, asL, hf]
theorem forZp {fa : FA} {g : FG} {b : FS} {s : S} {d e : D} {xs ys : List D} (h : fa s = .ok [d, e] s) (h1 : fixSeq d = some xs) (h2 : fixSeq e = some ys) : dForI (dIterZp fa) g b s = dFor g b (zpD xs ys) s := by
  simp [dForI, h, h1, h2]
theorem lineB_ok {w n : Nat} {lot fs : List (List Int)} {c2 c6 c8 : DL.Slot} {μ : List Cell} {j : Nat} (hw : w ≤ 60) (L : Lt w n lot) (hn : 0 < n) (hn2 : n ≤ 8900) (hz : n + (1 + lot.length * n) ≤ 50000) (hj : j < w) (hf : fs.length ≤ 60) :
    ∃ c2' c6' c8', lineB ⟨[.val (.int (w : Nat)), .val (.tup (lot.map Ri)), c2, .val (.lst ((ldI lot).map .int)), .val (.int (shF 1 lot)), .own (.lst (fs.map Ri)), c6, .val (.int (j : Nat)), c8], μ⟩ =
      .nx ⟨[.val (.int (w : Nat)), .val (.tup (lot.map Ri)), c2', .val (.lst ((ldI lot).map .int)), .val (.int (shF 1 lot)), .own (.lst ((fs ++ [lineOf w lot j]).map Ri)), c6', .val (.int (j : Nat)), c8'], μ⟩ := by
  have hs := shF_bd lot 1 1 L.bd (by decide)
  obtain ⟨c2', c6', e⟩ := ap_in (.val (.int (w : Nat))) (.val (.tup (lot.map Ri))) (.val (.lst ((ldI lot).map .int))) (.own (.lst (fs.map Ri))) μ hn hn2 (by omega) hz hs hj lot ((List.replicate w 0).set j (shF 1 lot)) c6 c2 (fun o ho => ⟨L.len o ho, L.bd o ho, L.ld o ho, (shF_dvd lot 1).2 o ho⟩) (by simp)
  refine ⟨c2', c6', .own (.lst ((lineOf w lot j).map .int)), ?_⟩
  unfold lineB
  rw [seq_nx (line1 hw), seq_nx (line2 (by simpa using hj))]
  rw [seq_nx (by
    rw [forZp (d := .lst ((ldI lot).map .int)) (e := .tup (lot.map Ri)) (xs := (ldI lot).map .int) (ys := lot.map Ri) (by simp) rfl rfl]
    exact e)]
  exact line4 (by omega)
def ifB : FS := (dIfS (dCmpT (gDat niG) (dVar 7) (dVar 3)) lineB dSkip)
theorem ifB_ok {w n : Nat} {lot fs : List (List Int)} {c2 c6 c8 : DL.Slot} {μ : List Cell} {j : Nat} (hw : w ≤ 60) (L : Lt w n lot) (hn : 0 < n) (hn2 : n ≤ 8900) (hz : n + (1 + lot.length * n) ≤ 50000) (hj : j < w) (hf : fs.length ≤ 60) :
    ∃ c2' c6' c8', ifB ⟨[.val (.int (w : Nat)), .val (.tup (lot.map Ri)), c2, .val (.lst ((ldI lot).map .int)), .val (.int (shF 1 lot)), .own (.lst (fs.map Ri)), c6, .val (.int (j : Nat)), c8], μ⟩ =
      .nx ⟨[.val (.int (w : Nat)), .val (.tup (lot.map Ri)), c2', .val (.lst ((ldI lot).map .int)), .val (.int (shF 1 lot)), .own (.lst ((fs ++ if (leads lot).contains j then [] else [lineOf w lot j]).map Ri)), c6', .val (.int (j : Nat)), c8'], μ⟩ := by
  have e1 : ∀ s : S, gDat niG s (.int (j : Nat)) (.lst ((ldI lot).map .int)) = some (.bl (!(leads lot).contains j)) := fun s => by rw [ni_ints, ldI_any]
  unfold ifB
  cases hc : (leads lot).contains j with
  | true =>
    rw [hc] at e1
    refine ⟨c2, c6, c8, ?_⟩
    simp [-List.map_map, e1]
  | false =>
    rw [hc] at e1
    obtain ⟨c2', c6', c8', e⟩ := lineB_ok (fs := fs) (c2 := c2) (c6 := c6) (c8 := c8) (μ := μ) hw L hn hn2 hz hj hf
    refine ⟨c2', c6', c8', ?_⟩
    simp only [ap_IfS, ap_CmpT, ap_Var, bind_ok, List.getElem?_cons_succ, List.getElem?_cons_zero, e1]
    exact e
def apFrom (w : Nat) (lot : List (List Int)) (k n : Nat) : List (List Int) := ((List.range' k n).filter fun j => !(leads lot).contains j).map (lineOf w lot)
theorem ap_out {w n : Nat} {lot : List (List Int)} {μ : List Cell} (hw : w ≤ 60) (L : Lt w n lot) (hn : 0 < n) (hn2 : n ≤ 8900) (hz : n + (1 + lot.length * n) ≤ 50000) : ∀ (m k : Nat) (fs : List (List Int)) (c2 c6 c7 c8 : DL.Slot), k + m ≤ w → fs.length ≤ k →
    ∃ c2' c6' c7' c8', dFor (gNm 7) ifB (rngD (k : Int) m) ⟨[.val (.int (w : Nat)), .val (.tup (lot.map Ri)), c2, .val (.lst ((ldI lot).map .int)), .val (.int (shF 1 lot)), .own (.lst (fs.map Ri)), c6, c7, c8], μ⟩ =
      .nx ⟨[.val (.int (w : Nat)), .val (.tup (lot.map Ri)), c2', .val (.lst ((ldI lot).map .int)), .val (.int (shF 1 lot)), .own (.lst ((fs ++ apFrom w lot k m).map Ri)), c6', c7', c8'], μ⟩
  | 0, k, fs, c2, c6, c7, c8, _, _ => ⟨c2, c6, c7, c8, by simp [rngD, dFor, apFrom]⟩
  | m + 1, k, fs, c2, c6, c7, c8, hk, hf => by
    obtain ⟨d2, d6, d8, e⟩ := ifB_ok (fs := fs) (c2 := c2) (c6 := c6) (c8 := c8) (μ := μ) (j := k) hw L hn hn2 hz (by omega) (by omega)
    have hf2 : (fs ++ if (leads lot).contains k then [] else [lineOf w lot k]).length ≤ k + 1 := by
      split <;> simp <;> omega
    obtain ⟨c2', c6', c7', c8', e2⟩ := ap_out (μ := μ) hw L hn hn2 hz m (k + 1) _ d2 d6 (.val (.int (k : Nat))) d8 (by omega) hf2
    refine ⟨c2', c6', c7', c8', ?_⟩
    have ek : ((k + 1 : Nat) : Int) = (k : Int) + 1 := by push_cast; rfl
    rw [ek] at e2
    rw [rngD_succ, dFor]
    simp only [ap_gNm, List.set_cons_succ, List.set_cons_zero]
    rw [e]
    simp only []
    rw [e2]
    congr 7
    rw [List.append_assoc]
    congr 1
    unfold apFrom
    rw [List.range'_succ, List.filter_cons]
    cases hc : (leads lot).contains k <;> simp
end K12

namespace K12
open PySem PySem.Spec PyProof.Rows L2 DL
theorem frz5 {f : FS} {s : S} {a0 a1 a2 a3 a4 a6 a7 a8 : DL.Slot} {xs : List D} {μ : List Cell} (h : f s = .nx ⟨[a0, a1, a2, a3, a4, .own (.lst xs), a6, a7, a8], μ⟩) : dFrzS 5 f s = .nx ⟨[a0, a1, a2, a3, a4, .val (.lst xs), a6, a7, a8], μ⟩ := by
  simp [dFrzS, h, frzAt, Cell.toD]
theorem forRng {fa : FA} {g : FG} {b : FS} {s : S} {w : Nat} (h : fa s = .ok [.int (w : Nat)] s) (hw : w ≤ 60) : dForI (dRng1 fa) g b s = dFor g b (rngD 0 w) s := by
  unfold dForI
  rw [rng_gen h (small_w (by omega)), Int.toNat_natCast]
theorem ret_call {F : FF} {fa : FA} {s : S} {ds : List D} {d : D} (h : fa s = .ok ds s) (hn : ds.all noOwn = true) (e : F ds s.μ = .ok d s.μ) (hd : noOwn d = true) : dRet (dCall F fa) s = .rt d s := by
  rw [ap_Ret, ap_Call, h, bind_ok]
  simp only [hn, e, hd, if_true]
theorem aparts_from (w : Nat) (lot : List (List Int)) : apFrom w lot 0 w = aparts w lot := by
  unfold apFrom aparts
  rw [List.range_eq_range']
/-- what a lot must be for the rows apart from it to be found -/
structure ApOk (w n : Nat) (lot : List (List Int)) : Prop where
  lt : Lt w n lot
  w60 : w ≤ 60
  n0 : 0 < n
  n1 : n ≤ 8900
  z0 : n + (1 + lot.length * n) ≤ 40000
  z1 : BB (n + (1 + lot.length * n)) (w - lot.length) ≤ 8000
  z2 : n + (1 + lot.length * n) + (w - lot.length + 1) * (BB (n + (1 + lot.length * n)) (w - lot.length) + 1) ≤ 40000
def ApRes (w : Nat) (lot m' : List (List Int)) : Prop := (∃ n, n ≤ 8000 ∧ Lt w n m') ∧ ∀ x, Perp x m' ↔ Perp x (aparts w lot)
theorem ap_rows {w n : Nat} {lot : List (List Int)} (A : ApOk w n lot) : (∀ o ∈ aparts w lot, o.length = w ∧ Bd (n + (1 + lot.length * n)) o) ∧ ∀ l, l ≤ w → l ≤ (aparts w lot).length → l ≤ w - lot.length := by
  refine ⟨fun o ho => ?_, fun l h1 h2 => ?_⟩
  · obtain ⟨j, hj, rfl⟩ := List.mem_map.mp ho
    exact ⟨line_len _ _ _, line_bd A.lt j⟩
  · have := aparts_len A.lt; omega
theorem apart_in_ok {w n : Nat} {lot : List (List Int)} (A : ApOk w n lot) (μ : List Cell) : ∃ m', F_apart_in [.int (w : Nat), .tup (lot.map Ri)] μ = .ok (.tup (m'.map Ri)) μ ∧ ApRes w lot m' := by
  have L := A.lt
  have hw := A.w60
  have hle := L.le
  obtain ⟨h1, h2⟩ := ap_rows A
  obtain ⟨m', e1, L1, k1, p1⟩ := lot_in_ok (w := w) (r := n + (1 + lot.length * n)) (K := w - lot.length) hw (by have := A.n0; omega) h1 h2 A.z1 A.z2 (d := .lst ((aparts w lot).map Ri)) (.inr rfl) μ
  refine ⟨m', ?_, ⟨_, Nat.le_trans (BB_mono _ k1) A.z1, L1⟩, p1⟩
  have hs := shF_bd lot 1 1 L.bd (by decide)
  have hz : n + (1 + lot.length * n) ≤ 50000 := by have := A.z0; omega
  obtain ⟨c2, c6, e2⟩ := ap_share (.val (.int (w : Nat))) (.val (.tup (lot.map Ri))) (.val (.lst ((ldI lot).map .int))) (.own (.lst [])) .no .no μ A.n0 lot 1 1 .no .no (fun o ho => ⟨L.bd o ho, L.ld o ho⟩) (by decide) (by decide) (by rw [Nat.add_mul]; omega)
  obtain ⟨c2', c6', c7', c8', e3⟩ := ap_out (μ := μ) hw L A.n0 A.n1 hz w 0 [] c2 c6 .no .no (by omega) (by simp)
  rw [aparts_from, List.nil_append] at e3
  have t : b_apart_in ⟨[.val (.int (w : Nat)), .val (.tup (lot.map Ri)), .no, .no, .no, .no, .no, .no, .no], μ⟩ = .rt (.tup (m'.map Ri)) ⟨[.val (.int (w : Nat)), .val (.tup (lot.map Ri)), c2', .val (.lst ((ldI lot).map .int)), .val (.int (shF 1 lot)), .val (.lst ((aparts w lot).map Ri)), c6', c7', c8'], μ⟩ := by
    unfold b_apart_in
    rw [seq_nx (ap_par (by omega) L.ld)]
    rw [seq_nx (by
      rw [forZp (d := .lst ((ldI lot).map .int)) (e := .tup (lot.map Ri)) (xs := (ldI lot).map .int) (ys := lot.map Ri) (by simp) rfl rfl]
      exact e2)]
    rw [seq_nx (frz5 (by
      rw [forRng (w := w) (by simp) hw]
      exact e3))]
    exact ret_call (ds := [.lst ((aparts w lot).map Ri)]) (by simp) rfl e1 rfl
  exact runF_rt (n := 9) (ds := [.int (w : Nat), .tup (lot.map Ri)]) t
/-! the law's rows apart -/
theorem ldL_comp (a0 a1 c2 : DL.Slot) (n2 : ∀ x, c2 ≠ .own x) (μ : List Cell) : ∀ (lot : List (List Int)), (∀ o ∈ lot, o.length < 16777216) →
    dLcGo [2] (gNm 2) dYes (dCall F_L_lead (dCons (dVar 2) dNil)) (lot.map Ri) ⟨[a0, a1, c2, .no, .no, .no, .no, .no], μ⟩ = .ok ((ldI lot).map .int) ⟨[a0, a1, c2, .no, .no, .no, .no, .no], μ⟩
  | [], _ => rfl
  | o :: lot, h => by
    have ih := ldL_comp a0 a1 c2 n2 μ lot fun p hp => h p (by simp [hp])
    have e := L_lead_ok o (h o (by simp)) μ
    rw [ldI_cons]
    cases c2 with
    | own x => exact absurd rfl (n2 x)
    | no => simp [dLcGo, wipeD, backD, e, ih]
    | val x => simp [dLcGo, wipeD, backD, e, ih]
theorem apL_par {w : Int} {lot : List (List Int)} {μ : List Cell} (hl : lot.length ≤ 60) (h : ∀ o ∈ lot, o.length < 16777216) : dParM 3 4 (dMv (dFrz (dLc [2] (dIter (dVar 0)) (gNm 2) dYes (dCall F_L_lead (dCons (dVar 2) dNil)))) (dMc (dLst dNil) dMn)) ⟨[.val (.tup (lot.map Ri)), .val (.int w), .no, .no, .no, .no, .no, .no], μ⟩ =
    .nx ⟨[.val (.tup (lot.map Ri)), .val (.int w), .no, .val (.lst ((ldI lot).map .int)), .own (.lst []), .no, .no, .no], μ⟩ := by
  have e := ldL_comp (.val (.tup (lot.map Ri))) (.val (.int w)) .no (fun _ z => nomatch z) μ lot h
  have hl2 : lot.length ≤ 16777216 := by omega
  simp [dParM, dMv, dMc, dMn, slotOf, e, hl2, -List.map_map]
theorem apL_share (a0 a1 a3 a4 a5 a7 : DL.Slot) (μ : List Cell) {n : Nat} (hn : 0 < n) : ∀ (lot : List (List Int)) (s : Int) (k : Nat) (c2 : DL.Slot), (∀ o ∈ lot, Bd n o ∧ lead o ≠ none ∧ o.length < 16777216) → s.natAbs < 2 ^ k → 0 < k → k + (lot.length + 1) * n ≤ 50000 → ∃ c2', dFor (gNm 2) (dAsg 6 (dOp gMul (dVar 6) (dOp gIx (dVar 2) (dCall F_L_lead (dCons (dVar 2) dNil))))) (lot.map Ri) ⟨[a0, a1, c2, a3, a4, a5, .val (.int s), a7], μ⟩ =
    .nx ⟨[a0, a1, c2', a3, a4, a5, .val (.int (shF s lot)), a7], μ⟩
  | [], s, k, c2, _, _, _, _ => ⟨c2, rfl⟩
  | o :: lot, s, k, c2, hl, hs, hk, hz => by
    obtain ⟨h1, h2, h3⟩ := hl o (by simp)
    have e0 : k + (lot.length + 1 + 1) * n = k + n + (lot.length + 1) * n := by rw [Nat.add_mul (lot.length + 1)]; omega
    rw [List.length_cons, e0] at hz
    obtain ⟨c2', e⟩ := apL_share a0 a1 a3 a4 a5 a7 μ hn lot (s * at0 o (leadL o)) (k + n) (.val (Ri o)) (fun p hp => hl p (by simp [hp])) (abs_mul_lt hs (bd_at h1 _)) (by omega) hz
    refine ⟨c2', ?_⟩
    have e1 : ∀ s : S, gIx s (.tup (o.map .int)) (.int (leadL o : Nat)) = some (.int (at0 o (leadL o))) := fun s => ix_at (leadL_lt h2)
    have e2 := mul_sh (n := n) (k := k) (s := s) h1 hs hn hk (by omega)
    have e3 := L_lead_ok o h3 μ
    simp [dFor, e1, e3, mul_ii e2]
    exact e
def setL : FS := (dSetI gSetI (dOp gSub (dC (.int (0))) (dOp gMul (dOp gIx (dVar 2) (dVar 5)) (dOp gFdiv (dVar 6) (dOp gIx (dVar 2) (dCall F_L_lead (dCons (dVar 2) dNil)))))) (dVar 7) (dCall F_L_lead (dCons (dVar 2) dNil)))
theorem setL_ok {a0 a1 a3 a4 : DL.Slot} {o cur : List Int} {sh : Int} {j n k : Nat} {μ : List Cell} (hn : 0 < n) (hn2 : n ≤ 8900) (hk : 0 < k) (hnk : n + k ≤ 50000) (hb : Bd n o) (hl : lead o ≠ none) (ho : o.length < 16777216) (hs : sh.natAbs < 2 ^ k) (hd : at0 o (leadL o) ∣ sh) (hj : j < o.length) (hc : leadL o < cur.length) :
    setL ⟨[a0, a1, .val (Ri o), a3, a4, .val (.int j), .val (.int sh), .own (.lst (cur.map .int))], μ⟩ = .nx ⟨[a0, a1, .val (Ri o), a3, a4, .val (.int j), .val (.int sh), .own (.lst ((cur.set (leadL o) (0 - at0 o j * sh.fdiv (at0 o (leadL o)))).map .int))], μ⟩ := by
  have e1 : ∀ s : S, gIx s (.tup (o.map .int)) (.int (leadL o : Nat)) = some (.int (at0 o (leadL o))) := fun s => ix_at (leadL_lt hl)
  have e2 : ∀ s : S, gIx s (.tup (o.map .int)) (.int (j : Nat)) = some (.int (at0 o j)) := fun s => ix_at hj
  have h0 : at0 o (leadL o) ≠ 0 := by
    cases e : lead o with
    | none => exact absurd e hl
    | some i => rw [leadL_some e]; exact (lead_iff.mp e).1
  have f1 : fdivOk sh (at0 o (leadL o)) = true := fdivOk_of h0 (bd_at hb _) hn hn2
  have f2 : mulOk (at0 o j) (sh.fdiv (at0 o (leadL o))) = true := mulOk_of (bd_at hb _) (Nat.lt_of_le_of_lt (fdiv_abs2 hd h0) hs) hn hk hnk
  have e3 := L_lead_ok o ho μ
  have f3 := set_own (s := ⟨[a0, a1, .val (Ri o), a3, a4, .val (.int j), .val (.int sh), .own (.lst (cur.map .int))], μ⟩) (i := 7) (v := 0 - at0 o j * sh.fdiv (at0 o (leadL o))) rfl hc
  unfold setL dSetI
  simp only [ap_Op, ap_C, ap_Var, ap_Call, ap_Cons, ap_Nil, bind_ok, sub_ii, List.getElem?_cons_succ, List.getElem?_cons_zero, e1, e2, e3, fdiv_ii f1, mul_ii f2, no_int, no_tup, List.all_cons, List.all_nil, Bool.and_self, if_true]
  rw [f3]
  rfl
theorem apL_in (a0 a1 a3 a4 : DL.Slot) (μ : List Cell) {sh : Int} {j n k w : Nat} (hn : 0 < n) (hn2 : n ≤ 8900) (hk : 0 < k) (hnk : n + k ≤ 50000) (hs : sh.natAbs < 2 ^ k) (hj : j < w) (hw : w ≤ 60) : ∀ (lot : List (List Int)) (cur : List Int) (c2 : DL.Slot), (∀ o ∈ lot, o.length = w ∧ Bd n o ∧ lead o ≠ none ∧ at0 o (leadL o) ∣ sh) → cur.length = w →
    ∃ c2', dFor (gNm 2) setL (lot.map Ri) ⟨[a0, a1, c2, a3, a4, .val (.int j), .val (.int sh), .own (.lst (cur.map .int))], μ⟩ =
    .nx ⟨[a0, a1, c2', a3, a4, .val (.int j), .val (.int sh), .own (.lst ((putF sh j lot cur).map .int))], μ⟩
  | [], cur, c2, _, _ => ⟨c2, rfl⟩
  | o :: lot, cur, c2, hl, hc => by
    obtain ⟨h1, h2, h3, h4⟩ := hl o (by simp)
    have h5 := leadL_lt h3
    obtain ⟨c2', e⟩ := apL_in a0 a1 a3 a4 μ hn hn2 hk hnk hs hj hw lot (cur.set (leadL o) (0 - at0 o j * sh.fdiv (at0 o (leadL o)))) (.val (Ri o)) (fun p hp => hl p (by simp [hp])) (by simpa using hc)
    refine ⟨c2', ?_⟩
    have e1 := setL_ok (a0 := a0) (a1 := a1) (a3 := a3) (a4 := a4) (μ := μ) (cur := cur) hn hn2 hk hnk h2 h3 (by omega) hs h4 (show j < o.length by omega) (by omega)
    rw [List.map_cons, dFor]
    simp only [ap_gNm, List.set_cons_succ, List.set_cons_zero]
    rw [e1]
    exact e
theorem lineL1 {a0 a2 a3 a4 a5 a6 a7 : DL.Slot} {w : Nat} {μ : List Cell} (hw : w ≤ 60) : (dAsgO 7 (dRepF (dLst (dCons (dC (.int (0))) dNil)) (dVar 1))) ⟨[a0, .val (.int (w : Nat)), a2, a3, a4, a5, a6, a7], μ⟩ = .nx ⟨[a0, .val (.int (w : Nat)), a2, a3, a4, a5, a6, .own (.lst ((List.replicate w (0 : Int)).map .int))], μ⟩ := by
  have e : dVar 1 ⟨[a0, .val (.int (w : Nat)), a2, a3, a4, a5, a6, a7], μ⟩ = .ok (.int (w : Nat)) ⟨[a0, .val (.int (w : Nat)), a2, a3, a4, a5, a6, a7], μ⟩ := by simp
  have h := repF_ok (s := ⟨[a0, .val (.int (w : Nat)), a2, a3, a4, a5, a6, a7], μ⟩) lst0 e (repz w hw)
  rw [asgO_ok h]
  simp only [List.set_cons_succ, List.set_cons_zero]
theorem lineL2 {a0 a1 a2 a3 a4 : DL.Slot} {xs : List Int} {sh : Int} {j : Nat} {μ : List Cell} (hj : j < xs.length) : (dSetI gSetI (dVar 6) (dVar 7) (dVar 5)) ⟨[a0, a1, a2, a3, a4, .val (.int (j : Nat)), .val (.int sh), .own (.lst (xs.map .int))], μ⟩ = .nx ⟨[a0, a1, a2, a3, a4, .val (.int (j : Nat)), .val (.int sh), .own (.lst ((xs.set j sh).map .int))], μ⟩ := by
  have f3 := set_own (s := ⟨[a0, a1, a2, a3, a4, .val (.int (j : Nat)), .val (.int sh), .own (.lst (xs.map .int))], μ⟩) (i := 7) (v := sh) rfl hj
  unfold dSetI
  simp only [ap_Var, bind_ok, List.getElem?_cons_succ, List.getElem?_cons_zero, no_int, if_true]
  rw [f3]
  rfl
theorem lineL4 {a0 a1 a2 a3 a5 a6 : DL.Slot} {xs : List Int} {fs : List (List Int)} {μ : List Cell} (hf : fs.length < 16777216) : (dDrop (dM "list" gAppend (dVar 4) (dCons (dB gTuple (dCons (dVar 7) dNil)) dNil))) ⟨[a0, a1, a2, a3, .own (.lst (fs.map Ri)), a5, a6, .own (.lst (xs.map .int))], μ⟩ = .nx ⟨[a0, a1, a2, a3, .own (.lst ((fs ++ [xs]).map Ri)), a5, a6, .own (.lst (xs.map .int))], μ⟩ := by
  simp [-List.map_map, dM, tyD, cellAt, kitB, gAppend, mutAt, setAt, gTuple, asSeq, asL, hf]
def lineL : FS := (dSeq (dAsg 6 (dC (.int (1))))
    (dSeq (dForI (dIter (dVar 0)) (gNm 2) (dAsg 6 (dOp gMul (dVar 6) (dOp gIx (dVar 2) (dCall F_L_lead (dCons (dVar 2) dNil))))))
    (dSeq (dAsgO 7 (dRepF (dLst (dCons (dC (.int (0))) dNil)) (dVar 1)))
    (dSeq (dSetI gSetI (dVar 6) (dVar 7) (dVar 5))
    (dSeq (dForI (dIter (dVar 0)) (gNm 2) setL)
    (dDrop (dM "list" gAppend (dVar 4) (dCons (dB gTuple (dCons (dVar 7) dNil)) dNil))))))))
theorem forIt {fa : FE} {g : FG} {b : FS} {s : S} {d : D} {xs : List D} (h : fa s = .ok d s) (h1 : fixSeq d = some xs) : dForI (dIter fa) g b s = dFor g b xs s := by
  simp [dForI, h, h1]
theorem lineL_ok {w n : Nat} {lot fs : List (List Int)} {c2 c6 c7 : DL.Slot} {a3 : DL.Slot} {μ : List Cell} {j : Nat} (hw : w ≤ 60) (L : Lt w n lot) (hn : 0 < n) (hn2 : n ≤ 8900) (hz : n + (1 + lot.length * n) ≤ 50000) (hj : j < w) (hf : fs.length ≤ 60) :
    ∃ c2' c6' c7', lineL ⟨[.val (.tup (lot.map Ri)), .val (.int (w : Nat)), c2, a3, .own (.lst (fs.map Ri)), .val (.int (j : Nat)), c6, c7], μ⟩ =
      .nx ⟨[.val (.tup (lot.map Ri)), .val (.int (w : Nat)), c2', a3, .own (.lst ((fs ++ [lineOf w lot j]).map Ri)), .val (.int (j : Nat)), c6', c7'], μ⟩ := by
  have hs := shF_bd lot 1 1 L.bd (by decide)
  obtain ⟨d2, e1⟩ := apL_share (.val (.tup (lot.map Ri))) (.val (.int (w : Nat))) a3 (.own (.lst (fs.map Ri))) (.val (.int (j : Nat))) c7 μ hn lot 1 1 c2 (fun o ho => ⟨L.bd o ho, L.ld o ho, by rw [L.len o ho]; omega⟩) (by decide) (by decide) (by rw [Nat.add_mul]; omega)
  obtain ⟨c2', e⟩ := apL_in (.val (.tup (lot.map Ri))) (.val (.int (w : Nat))) a3 (.own (.lst (fs.map Ri))) μ hn hn2 (by omega) hz hs hj hw lot ((List.replicate w 0).set j (shF 1 lot)) d2 (fun o ho => ⟨L.len o ho, L.bd o ho, L.ld o ho, (shF_dvd lot 1).2 o ho⟩) (by simp)
  refine ⟨c2', .val (.int (shF 1 lot)), .own (.lst ((lineOf w lot j).map .int)), ?_⟩
  unfold lineL
  have e0 : (dAsg 6 (dC (.int (1)))) ⟨[.val (.tup (lot.map Ri)), .val (.int (w : Nat)), c2, a3, .own (.lst (fs.map Ri)), .val (.int (j : Nat)), c6, c7], μ⟩ = .nx ⟨[.val (.tup (lot.map Ri)), .val (.int (w : Nat)), c2, a3, .own (.lst (fs.map Ri)), .val (.int (j : Nat)), .val (.int 1), c7], μ⟩ := by simp
  rw [seq_nx e0]
  rw [seq_nx (by
    rw [forIt (d := .tup (lot.map Ri)) (xs := lot.map Ri) (by simp) rfl]
    exact e1)]
  rw [seq_nx (lineL1 hw), seq_nx (lineL2 (by simpa using hj))]
  rw [seq_nx (by
    rw [forIt (d := .tup (lot.map Ri)) (xs := lot.map Ri) (by simp) rfl]
    exact e)]
  exact lineL4 (by omega)
def ifL : FS := (dIfS (dCmpT (gDat niG) (dVar 5) (dVar 3)) lineL dSkip)
theorem ifL_ok {w n : Nat} {lot fs : List (List Int)} {c2 c6 c7 : DL.Slot} {μ : List Cell} {j : Nat} (hw : w ≤ 60) (L : Lt w n lot) (hn : 0 < n) (hn2 : n ≤ 8900) (hz : n + (1 + lot.length * n) ≤ 50000) (hj : j < w) (hf : fs.length ≤ 60) :
    ∃ c2' c6' c7', ifL ⟨[.val (.tup (lot.map Ri)), .val (.int (w : Nat)), c2, .val (.lst ((ldI lot).map .int)), .own (.lst (fs.map Ri)), .val (.int (j : Nat)), c6, c7], μ⟩ =
      .nx ⟨[.val (.tup (lot.map Ri)), .val (.int (w : Nat)), c2', .val (.lst ((ldI lot).map .int)), .own (.lst ((fs ++ if (leads lot).contains j then [] else [lineOf w lot j]).map Ri)), .val (.int (j : Nat)), c6', c7'], μ⟩ := by
  have e1 : ∀ s : S, gDat niG s (.int (j : Nat)) (.lst ((ldI lot).map .int)) = some (.bl (!(leads lot).contains j)) := fun s => by rw [ni_ints, ldI_any]
  unfold ifL
  cases hc : (leads lot).contains j with
  | true =>
    rw [hc] at e1
    refine ⟨c2, c6, c7, ?_⟩
    simp [-List.map_map, e1]
  | false =>
    rw [hc] at e1
    obtain ⟨c2', c6', c7', e⟩ := lineL_ok (fs := fs) (c2 := c2) (c6 := c6) (c7 := c7) (a3 := .val (.lst ((ldI lot).map .int))) (μ := μ) hw L hn hn2 hz hj hf
    refine ⟨c2', c6', c7', ?_⟩
    simp only [ap_IfS, ap_CmpT, ap_Var, bind_ok, List.getElem?_cons_succ, List.getElem?_cons_zero, e1]
    exact e
theorem apL_out {w n : Nat} {lot : List (List Int)} {μ : List Cell} (hw : w ≤ 60) (L : Lt w n lot) (hn : 0 < n) (hn2 : n ≤ 8900) (hz : n + (1 + lot.length * n) ≤ 50000) : ∀ (m k : Nat) (fs : List (List Int)) (c2 c5 c6 c7 : DL.Slot), k + m ≤ w → fs.length ≤ k →
    ∃ c2' c5' c6' c7', dFor (gNm 5) ifL (rngD (k : Int) m) ⟨[.val (.tup (lot.map Ri)), .val (.int (w : Nat)), c2, .val (.lst ((ldI lot).map .int)), .own (.lst (fs.map Ri)), c5, c6, c7], μ⟩ =
      .nx ⟨[.val (.tup (lot.map Ri)), .val (.int (w : Nat)), c2', .val (.lst ((ldI lot).map .int)), .own (.lst ((fs ++ apFrom w lot k m).map Ri)), c5', c6', c7'], μ⟩
  | 0, k, fs, c2, c5, c6, c7, _, _ => ⟨c2, c5, c6, c7, by simp [rngD, dFor, apFrom]⟩
  | m + 1, k, fs, c2, c5, c6, c7, hk, hf => by
    obtain ⟨d2, d6, d7, e⟩ := ifL_ok (fs := fs) (c2 := c2) (c6 := c6) (c7 := c7) (μ := μ) (j := k) hw L hn hn2 hz (by omega) (by omega)
    have hf2 : (fs ++ if (leads lot).contains k then [] else [lineOf w lot k]).length ≤ k + 1 := by
      split <;> simp <;> omega
    obtain ⟨c2', c5', c6', c7', e2⟩ := apL_out (μ := μ) hw L hn hn2 hz m (k + 1) _ d2 (.val (.int (k : Nat))) d6 d7 (by omega) hf2
    refine ⟨c2', c5', c6', c7', ?_⟩
    have ek : ((k + 1 : Nat) : Int) = (k : Int) + 1 := by push_cast; rfl
    rw [ek] at e2
    rw [rngD_succ, dFor]
    simp only [ap_gNm, List.set_cons_succ, List.set_cons_zero]
    rw [e]
    simp only []
    rw [e2]
    congr 7
    rw [List.append_assoc]
    congr 1
    unfold apFrom
    rw [List.range'_succ, List.filter_cons]
    cases hc : (leads lot).contains k <;> simp
theorem frzL4 {f : FS} {s : S} {a0 a1 a2 a3 a5 a6 a7 : DL.Slot} {xs : List D} {μ : List Cell} (h : f s = .nx ⟨[a0, a1, a2, a3, .own (.lst xs), a5, a6, a7], μ⟩) : dFrzS 4 f s = .nx ⟨[a0, a1, a2, a3, .val (.lst xs), a5, a6, a7], μ⟩ := by
  simp [dFrzS, h, frzAt, Cell.toD]
theorem L_apart_ok {w n : Nat} {lot : List (List Int)} (A : ApOk w n lot) (μ : List Cell) : ∃ m', F_L_apart [.tup (lot.map Ri), .int (w : Nat)] μ = .ok (.tup (m'.map Ri)) μ ∧ ApRes w lot m' := by
  have L := A.lt
  have hw := A.w60
  have hle := L.le
  obtain ⟨h1, h2⟩ := ap_rows A
  obtain ⟨m', e1, L1, k1, p1⟩ := L_lot_ok (w := w) (r := n + (1 + lot.length * n)) (K := w - lot.length) hw (by have := A.n0; omega) h1 h2 A.z1 A.z2 (d := .lst ((aparts w lot).map Ri)) (.inr rfl) μ
  refine ⟨m', ?_, ⟨_, Nat.le_trans (BB_mono _ k1) A.z1, L1⟩, p1⟩
  have hz : n + (1 + lot.length * n) ≤ 50000 := by have := A.z0; omega
  obtain ⟨c2', c5', c6', c7', e3⟩ := apL_out (μ := μ) hw L A.n0 A.n1 hz w 0 [] .no .no .no .no (by omega) (by simp)
  rw [aparts_from, List.nil_append] at e3
  have t : b_L_apart ⟨[.val (.tup (lot.map Ri)), .val (.int (w : Nat)), .no, .no, .no, .no, .no, .no], μ⟩ = .rt (.tup (m'.map Ri)) ⟨[.val (.tup (lot.map Ri)), .val (.int (w : Nat)), c2', .val (.lst ((ldI lot).map .int)), .val (.lst ((aparts w lot).map Ri)), c5', c6', c7'], μ⟩ := by
    unfold b_L_apart
    rw [seq_nx (apL_par (by omega) (fun o ho => by rw [L.len o ho]; omega))]
    rw [seq_nx (frzL4 (by
      rw [forRng (w := w) (by simp) hw]
      exact e3))]
    exact ret_call (ds := [.lst ((aparts w lot).map Ri)]) (by simp) rfl e1 rfl
  exact runF_rt (n := 8) (ds := [.tup (lot.map Ri), .int (w : Nat)]) t
end K12

namespace K12
open PySem PySem.Spec PyProof.Rows L2 DL
/-! ### span_paper -/
theorem sum_perp {w m r : Nat} {rows : List (List Int)} {v : List Int} (hm : rows.length = m) (hr : 0 < r) (hl : ∀ o ∈ rows, o.length = w ∧ Bd r o) (hv : v.length = w)
    (h : lead ((rest (lotA w m 0 rows []) (vAug m v)).take w) = none) {x : List Int} (hx : x.length = w) (hp : Perp x rows) : dt x v = 0 := by
  obtain ⟨A, f, _⟩ := lotA_ok (w := w) (m := m) hr rows 0 [] (by omega) ⟨by simp, by simp, by simp, .nil, by simp, by simp⟩ hl
  generalize lotA w m 0 rows [] = lot at A f h
  have hlen : (vAug m v).length = w + m + 1 := by simp [vAug, hv]; omega
  have rl := rest_len (lot := lot) A.len hlen
  obtain ⟨a, ha, e⟩ := rest_dt (fun o ho => ⟨A.len o ho, A.ldn o ho⟩) hlen
  have h1 := e (ext x m) (f _ (perp_nil _) fun q hq => by
    have h2 := (hl _ (List.getElem_mem hq)).1
    rw [ext_dt hx m _ (by rw [List.length_append]; omega), ← h2, List.take_left']
    · exact hp _ (List.getElem_mem hq)
    · rfl)
  rw [ext_dt hx m _ (by omega), ext_dt hx m _ (by omega), dt_zero (lead_none_at h)] at h1
  have e2 : (vAug m v).take w = v := by rw [vAug, ← hv, List.take_left']; rfl
  rw [e2] at h1
  rcases Int.mul_eq_zero.mp h1.symm with z | z
  · exact absurd z ha
  · exact z
structure In (w : Nat) (rows : List (List Int)) (v : List Int) : Prop where
  w1 : 1 ≤ w
  w5 : w ≤ 5
  m6 : rows.length ≤ 6
  ro : ∀ o ∈ rows, o.length = w ∧ Bd 11 o
  vl : v.length = w
  vb : Bd 14 v
theorem bb_all : ∀ w ≤ 5, BB 11 w ≤ 8000 ∧ 11 + (w + 1) * (BB 11 w + 1) ≤ 40000 ∧ 14 + (w + 1) * (AA 11 w + 1) ≤ 8000 ∧ 14 + (w + 1) * (BB 11 w + 1) ≤ 40000 := by decide
theorem ap_all : ∀ w ≤ 5, ∀ l ≤ w, BB 11 l + (1 + l * BB 11 l) ≤ 40000 ∧ BB (BB 11 l + (1 + l * BB 11 l)) (w - l) ≤ 8000 ∧ BB 11 l + (1 + l * BB 11 l) + (w - l + 1) * (BB (BB 11 l + (1 + l * BB 11 l)) (w - l) + 1) ≤ 40000 := by decide
theorem In.ap {w : Nat} {rows lot : List (List Int)} {v : List Int} (I : In w rows v) (L : Lt w (BB 11 lot.length) lot) : ApOk w (BB 11 lot.length) lot := by
  have h1 := L.le
  obtain ⟨a, b, c⟩ := ap_all w I.w5 lot.length h1
  exact ⟨L, by have := I.w5; omega, BB_pos _ _, Nat.le_trans (Nat.le_trans (BB_mono 11 h1) (bb_all w I.w5).1) (by decide), a, b, c⟩
theorem In.lot {w : Nat} {rows : List (List Int)} {v : List Int} (I : In w rows v) {d : D} (hd : IsRows rows d) (μ : List Cell) : ∃ m' : List (List Int), F_lot_in [d] μ = .ok (.tup (m'.map Ri)) μ ∧ Lt w (BB 11 m'.length) m' ∧ ∀ x, Perp x m' ↔ Perp x rows := by
  obtain ⟨a, b, c, _⟩ := bb_all w I.w5
  obtain ⟨m', h1, h2, _, h3⟩ := lot_in_ok (w := w) (r := 11) (K := w) (by have := I.w5; omega) (by decide) I.ro (fun l h _ => h) a b hd μ
  exact ⟨m', h1, h2, h3⟩
theorem In.lotL {w : Nat} {rows : List (List Int)} {v : List Int} (I : In w rows v) {d : D} (hd : IsRows rows d) (μ : List Cell) : ∃ m' : List (List Int), F_L_lot [d] μ = .ok (.tup (m'.map Ri)) μ ∧ Lt w (BB 11 m'.length) m' ∧ ∀ x, Perp x m' ↔ Perp x rows := by
  obtain ⟨a, b, c, _⟩ := bb_all w I.w5
  obtain ⟨m', h1, h2, _, h3⟩ := L_lot_ok (w := w) (r := 11) (K := w) (by have := I.w5; omega) (by decide) I.ro (fun l h _ => h) a b hd μ
  exact ⟨m', h1, h2, h3⟩
theorem dt_eq (x y : List Int) : (zw (· * ·) x y).sum = dt x y := rfl
theorem told_comp {w n : Nat} {v : List Int} (a0 a1 a3 a4 : DL.Slot) (μ : List Cell) (hn : 0 < n) (hn2 : n ≤ 8000) (hw : w ≤ 60) (hv : Bd 14 v) : ∀ m : List (List Int), (∀ o ∈ m, o.length = w ∧ Bd n o) →
    dLcGo [5] (gNm 5) (dCmpT neS (dCall F_dot (dCons (dVar 5) (dCons (dVar 2) dNil))) (dC (.int (0)))) (dVar 5) (m.map Ri) ⟨[a0, a1, .val (Ri v), a3, a4, .no], μ⟩ = .ok ((m.filter fun o => decide (dt o v ≠ 0)).map Ri) ⟨[a0, a1, .val (Ri v), a3, a4, .no], μ⟩
  | [], _ => rfl
  | o :: m, h => by
    obtain ⟨h1, h2⟩ := h o (by simp)
    have ih := told_comp a0 a1 a3 a4 μ hn hn2 hw hv m fun p hp => h p (by simp [hp])
    have e := dot_ok hn (by decide : 0 < 14) (by omega) h2 hv (by omega) μ
    rw [dt_eq] at e
    rw [List.filter_cons]
    by_cases hz : dt o v = 0
    · rw [hz] at e
      rw [if_neg (by simp [hz])]
      simp [-List.map_map, dLcGo, wipeD, backD, e, ih]
    · have hz2 : (dt o v == 0) = false := by simpa using hz
      rw [if_pos (by simp [hz])]
      simp [-List.map_map, dLcGo, wipeD, backD, e, hz2, ih]
theorem frzO4 {fc : FC} {a0 a1 a2 a3 a4 a5 : DL.Slot} {xs : List D} {μ : List Cell} (h : fc ⟨[a0, a1, a2, a3, a4, a5], μ⟩ = .ok (.lst xs) ⟨[a0, a1, a2, a3, a4, a5], μ⟩) : dFrzS 4 (dAsgO 4 fc) ⟨[a0, a1, a2, a3, a4, a5], μ⟩ = .nx ⟨[a0, a1, a2, a3, .val (.lst xs), a5], μ⟩ := by
  simp [dFrzS, h, frzAt, Cell.toD]
theorem lc_ok {vs : List Nat} {fi : FA} {g : FG} {ft : FT} {fe : FE} {s : S} {ds ys : List D} (h1 : fi s = .ok ds s) (h2 : ds.length ≤ 16777216) (h3 : vs.all (fun v => !isOwn s.δ v) = true) (h4 : dLcGo vs g ft fe ds s = .ok ys s) : dLc vs fi g ft fe s = .ok (.lst ys) s := by
  rw [ap_Lc, h1, bind_ok, if_pos (by rw [h3, Bool.and_true]; exact decide_eq_true h2), h4]
theorem iter_ok {fa : FE} {s : S} {d : D} {xs : List D} (h : fa s = .ok d s) (h1 : fixSeq d = some xs) : dIter fa s = .ok xs s := by rw [ap_Iter, h, bind_ok, h1]
theorem call_ok {F : FF} {fa : FA} {s : S} {ds : List D} {d : D} (h : fa s = .ok ds s) (hn : ds.all noOwn = true) (e : F ds s.μ = .ok d s.μ) : dCall F fa s = .ok d s := by
  rw [ap_Call, h, bind_ok]
  simp only [hn, e, if_true]
theorem drop_ok {fa : FE} {s : S} {d : D} (h : fa s = .ok d s) : dDrop fa s = .nx s := by rw [ap_Drop, h]
theorem asg_ok {i : Nat} {fa : FE} {s : S} {d : D} (h : fa s = .ok d s) (hn : noOwn d = true) : dAsg i fa s = .nx { s with δ := s.δ.set i (.val d) } := by
  rw [ap_Asg, h]
  simp only [hn, if_true]
def sSum : D := .str "sum"
def sApart : D := .str "apart"
/-- what a paper says -/
inductive Paper (w : Nat) (rows : List (List Int)) (v : List Int) : D → Prop
  | sum (t : Int) (cs : List Int) (h1 : 1 ≤ t) (h2 : t.natAbs < 2 ^ 8000) (h3 : cs.length = rows.length) (h4 : Bd 8000 cs) (h5 : ∀ j < w, dt cs (col rows j) = t * at0 v j) (h6 : ∀ x, x.length = w → Perp x rows → dt x v = 0) : Paper w rows v (.tup [.str "sum", .int t, Ri cs])
  | apart (y : List Int) (h1 : y.length = w) (h2 : Bd 8000 y) (h3 : Perp y rows) (h4 : dt y v ≠ 0) : Paper w rows v (.tup [.str "apart", Ri y])
theorem bd_times {T : List Int} (h : Bd 8000 T) (hg : gcdL T ≠ 0) : (timesOf T).natAbs < 2 ^ 8000 ∧ Bd 8000 (partsOf T) := by
  have hdv : ∀ x ∈ T, (gcdL T : Int) ∣ x := (gcdF_dvd T 0).2
  have hgi : (gcdL T : Int) ≠ 0 := by omega
  refine ⟨?_, fun z hz => ?_⟩
  · exact Nat.lt_of_le_of_lt (fdiv_abs2 (at0_mem hdv _) hgi) (bd_at h _)
  · obtain ⟨n, hn, rfl⟩ := List.mem_map.mp hz
    have hn := List.mem_of_mem_take hn
    have := Nat.lt_of_le_of_lt (fdiv_abs2 (hdv n hn) hgi) (h n hn)
    omega
theorem span_paper_ok {w : Nat} {rows : List (List Int)} {v : List Int} (I : In w rows v) {μ : List Cell} (hμ : μ.all nLc = true) : ∃ P, F_span_paper [.int (w : Nat), .tup (rows.map Ri), Ri v] μ = .ok P μ ∧ Paper w rows v P := by
  have h5 := I.w5
  have h6 := I.m6
  have q1 := require_width_ok I.w1 (show w ≤ 60 by omega) μ
  have q2 := require_rows_ok (w := w) (m := rows) (fun o ho => (I.ro o ho).1) (by omega) (by omega) μ
  have q3 := require_row_ok (w := w) (xs := v) I.vl (by omega) μ
  obtain ⟨hD, hlz, q4⟩ := sum_in_ok (r := 11) (r2 := 14) (μ := μ) (show w ≤ 60 by omega) (show rows.length ≤ 60 by omega) (by decide) I.ro I.vl I.vb (by decide) (bb_all w h5).2.2.1 hμ
  have s1 := @sum_some w rows.length 11 rows v rfl (by decide) I.ro I.vl
  have s2 := @sum_none w rows.length 11 14 rows v rfl (by decide) I.ro I.vl
  have s3 := fun h => @sum_perp w rows.length 11 rows v rfl (by decide) I.ro I.vl h
  have s1 : lead ((zA w rows v).take w) = none → gcdL ((zA w rows v).drop w) ≠ 0 ∧ 1 ≤ timesOf ((zA w rows v).drop w) ∧ (partsOf ((zA w rows v).drop w)).length = rows.length ∧
      ∀ j < w, dt (partsOf ((zA w rows v).drop w)) (col rows j) = timesOf ((zA w rows v).drop w) * at0 v j := s1
  have s2 : lead ((zA w rows v).take w) ≠ none → ∃ x : List Int, x.length = w ∧ Perp x rows ∧ dt x v ≠ 0 := s2
  have s3 : lead ((zA w rows v).take w) = none → ∀ x : List Int, x.length = w → Perp x rows → dt x v = 0 := fun h x hx hp => s3 h hx hp
  generalize zA w rows v = z at *
  have eA : ∀ g, dSeq (dDrop (dCall F_require_width (dCons (dVar 0) dNil))) (dSeq (dDrop (dCall F_require_rows (dCons (dVar 0) (dCons (dVar 1) dNil)))) (dSeq (dDrop (dCall F_require_row (dCons (dVar 0) (dCons (dVar 2) dNil)))) g)) ⟨[.val (.int (w : Nat)), .val (.tup (rows.map Ri)), .val (Ri v), .no, .no, .no], μ⟩ = g ⟨[.val (.int (w : Nat)), .val (.tup (rows.map Ri)), .val (Ri v), .no, .no, .no], μ⟩ := fun g => by
    rw [seq_nx (drop_ok (call_ok (ds := [.int (w : Nat)]) (by simp) rfl q1)), seq_nx (drop_ok (call_ok (ds := [.int (w : Nat), .tup (rows.map Ri)]) (by simp) rfl q2)), seq_nx (drop_ok (call_ok (ds := [.int (w : Nat), Ri v]) (by simp) rfl q3))]
  have eS : ∀ d, noOwn d = true → F_sum_in [.int (w : Nat), .tup (rows.map Ri), Ri v] μ = .ok d μ → (dAsg 3 (dCall F_sum_in (dCons (dVar 0) (dCons (dVar 1) (dCons (dVar 2) dNil))))) ⟨[.val (.int (w : Nat)), .val (.tup (rows.map Ri)), .val (Ri v), .no, .no, .no], μ⟩ = .nx ⟨[.val (.int (w : Nat)), .val (.tup (rows.map Ri)), .val (Ri v), .val d, .no, .no], μ⟩ := fun d hd e =>
    asg_ok (call_ok (ds := [.int (w : Nat), .tup (rows.map Ri), Ri v]) (by simp) rfl e) hd
  by_cases h : lead (z.take w) = none
  · rw [if_pos h] at q4
    obtain ⟨g1, g2, g3, g4⟩ := s1 h
    obtain ⟨b1, b2⟩ := bd_times hD g1
    refine ⟨_, ?_, Paper.sum _ _ g2 b1 g3 b2 g4 (s3 h)⟩
    have t : b_span_paper ⟨[.val (.int (w : Nat)), .val (.tup (rows.map Ri)), .val (Ri v), .no, .no, .no], μ⟩ = .rt (.tup [.str "sum", .int (timesOf (z.drop w)), Ri (partsOf (z.drop w))]) ⟨[.val (.int (w : Nat)), .val (.tup (rows.map Ri)), .val (Ri v), .val (.tup [.int (timesOf (z.drop w)), Ri (partsOf (z.drop w))]), .no, .no], μ⟩ := by
      unfold b_span_paper
      rw [eA, seq_nx (eS _ rfl q4)]
      simp [notN, dStar]
    exact runF_rt (n := 6) (ds := [.int (w : Nat), .tup (rows.map Ri), Ri v]) t
  · rw [if_neg h] at q4
    obtain ⟨x, x1, x2, x3⟩ := s2 h
    obtain ⟨lot, l1, l2, l3⟩ := I.lot (d := .tup (rows.map Ri)) (.inl rfl) μ
    obtain ⟨m', a1, ⟨n, n1, a2⟩, a3⟩ := apart_in_ok (I.ap l2) μ
    have hne : lead (rest lot v) ≠ none := fun hz => by
      obtain ⟨a, ha, e⟩ := rest_dt (fun o ho => ⟨l2.len o ho, l2.ld o ho⟩) I.vl
      have := e x ((l3 x).mpr x2)
      rw [dt_zero (lead_none_at hz)] at this
      rcases Int.mul_eq_zero.mp this.symm with z | z
      · exact ha z
      · exact x3 z
    obtain ⟨y, y1, y2⟩ := lines_full l2 I.vl hne
    have hex : ∃ u ∈ m', dt u v ≠ 0 := Classical.byContradiction fun hc => by
      have : Perp v m' := fun u hu => Classical.byContradiction fun hc2 => hc ⟨u, hu, by rw [dt_comm]; exact hc2⟩
      have := (a3 v).mp this y y1
      rw [dt_comm] at this
      exact y2 this
    have hperp : ∀ u ∈ m', Perp u rows := fun u hu r hr => by
      have h1 : Perp r (aparts w lot) := fun q hq => by
        rw [dt_comm]
        exact (l3 q).mp (perp_lines l2 hq).2 r hr
      have := (a3 r).mpr h1 u hu
      rw [dt_comm]; exact this
    have ecomp := told_comp (w := w) (n := max 1 n) (v := v) (.val (.int (w : Nat))) (.val (.tup (rows.map Ri))) (.val .non) .no μ (by omega) (by omega) (by omega) I.vb m' (fun o ho => ⟨a2.len o ho, (a2.bd o ho).mono (by omega)⟩)
    cases hf : m'.filter fun o => decide (dt o v ≠ 0) with
    | nil =>
      obtain ⟨u, hu, hd⟩ := hex
      have : u ∈ m'.filter fun o => decide (dt o v ≠ 0) := List.mem_filter.mpr ⟨hu, by simpa using hd⟩
      rw [hf] at this
      cases this
    | cons u us =>
      rw [hf] at ecomp
      have hu := List.mem_filter.mp (show u ∈ m'.filter fun o => decide (dt o v ≠ 0) by rw [hf]; simp)
      refine ⟨_, ?_, Paper.apart u (a2.len u hu.1) ((a2.bd u hu.1).mono n1) (hperp u hu.1) (by simpa using hu.2)⟩
      have t : b_span_paper ⟨[.val (.int (w : Nat)), .val (.tup (rows.map Ri)), .val (Ri v), .no, .no, .no], μ⟩ = .rt (.tup [.str "apart", Ri u]) ⟨[.val (.int (w : Nat)), .val (.tup (rows.map Ri)), .val (Ri v), .val .non, .val (.lst ((u :: us).map Ri)), .no], μ⟩ := by
        unfold b_span_paper
        rw [eA, seq_nx (eS _ rfl q4)]
        have e1 : (dIfS (dCmpT notN (dVar 3) (dC .non)) (dRet (dTup (dCons (dC (.str "sum")) (dStar (dVar 3) dNil)))) dSkip) ⟨[.val (.int (w : Nat)), .val (.tup (rows.map Ri)), .val (Ri v), .val .non, .no, .no], μ⟩ = .nx ⟨[.val (.int (w : Nat)), .val (.tup (rows.map Ri)), .val (Ri v), .val .non, .no, .no], μ⟩ := by simp [notN]
        rw [seq_nx e1]
        rw [seq_nx (frzO4 (lc_ok (ds := m'.map Ri) (iter_ok (d := .tup (m'.map Ri)) (call_ok (ds := [.int (w : Nat), .tup (lot.map Ri)]) (by
            simp only [ap_Cons, ap_Nil, ap_Var, List.getElem?_cons_zero, bind_ok]
            rw [call_ok (ds := [.tup (rows.map Ri)]) (by simp) rfl l1]
            rfl) rfl a1) rfl) (by have := a2.le; simp; omega) rfl ecomp))]
        simp [gIx, atI, L2.atI, L2.ixN]
      exact runF_rt (n := 6) (ds := [.int (w : Nat), .tup (rows.map Ri), Ri v]) t
end K12

namespace K12
open PySem PySem.Spec PyProof.Rows L2 DL
/-! ### so many times these rows -/
def smF : List Int → List (List Int) → List Int → List Int
  | c :: cs, r :: rows, acc => smF cs rows (zw (· + ·) acc (r.map fun x => c * x))
  | _, _, acc => acc
theorem zw_map (c : Int) : ∀ xs ys : List Int, zw (fun a b => a + c * b) xs ys = zw (· + ·) xs (ys.map fun x => c * x)
  | [], ys => by simp [zw]
  | x :: xs, [] => by simp [zw]
  | x :: xs, y :: ys => by
    have ih := zw_map c xs ys
    unfold zw at ih ⊢
    simp [ih]
theorem at0_map (c : Int) (xs : List Int) (j : Nat) : at0 (xs.map fun x => c * x) j = c * at0 xs j := by
  unfold at0
  by_cases h : j < xs.length
  · simp [List.getD, h]
  · simp [List.getD, h]
theorem smF_at {w : Nat} : ∀ {cs : List Int} {rows : List (List Int)} {acc : List Int} (j : Nat), (∀ o ∈ rows, o.length = w) → acc.length = w → at0 (smF cs rows acc) j = at0 acc j + dt cs (col rows j) ∧ (smF cs rows acc).length = w
  | [], rows, acc, j, _, h => ⟨by simp [smF], h⟩
  | c :: cs, [], acc, j, _, h => ⟨by simp [smF, col], h⟩
  | c :: cs, r :: rows, acc, j, hl, h => by
    have hr := hl r (by simp)
    have hlen : acc.length = (r.map fun x => c * x).length := by simp; omega
    obtain ⟨h1, h2⟩ := smF_at (cs := cs) (rows := rows) (acc := zw (· + ·) acc (r.map fun x => c * x)) j (fun p hp => hl p (by simp [hp])) (by rw [zw_len hlen]; exact h)
    refine ⟨?_, h2⟩
    rw [smF, h1, zw_at (by simp) hlen, at0_map]
    show _ = at0 acc j + dt (c :: cs) (at0 r j :: col rows j)
    rw [dt_cons]; omega
theorem ext_at0 {x y : List Int} (hl : x.length = y.length) (h : ∀ j < x.length, at0 x j = at0 y j) : x = y := by
  apply List.ext_getElem hl
  intro i h1 h2
  rw [← at0_lt h1, ← at0_lt h2]
  exact h i h1
def sm (w : Nat) (cs : List Int) (rows : List (List Int)) : List Int := smF cs rows (List.replicate w 0)
theorem sm_len {w : Nat} {cs : List Int} {rows : List (List Int)} (hl : ∀ o ∈ rows, o.length = w) : (sm w cs rows).length = w := (smF_at (w := w) 0 hl (by simp)).2
theorem sm_eq {w : Nat} {cs : List Int} {rows : List (List Int)} {v : List Int} {t : Int} (hl : ∀ o ∈ rows, o.length = w) (hv : v.length = w) (h : ∀ j < w, dt cs (col rows j) = t * at0 v j) : sm w cs rows = v.map fun x => t * x := by
  refine ext_at0 (by rw [sm_len hl]; simp [hv]) fun j hj => ?_
  rw [sm_len hl] at hj
  rw [at0_map]
  unfold sm
  rw [(smF_at (w := w) j hl (by simp)).1, at0_rep, h j hj]; simp
/-! the program's loop -/
theorem sum_loop (a0 a1 a2 a3 : DL.Slot) (μ : List Cell) {w n m : Nat} (hw : w ≤ 60) (hn : 0 < n) (hm : 0 < m) (hnm : n + m ≤ 50000) : ∀ (cs : List Int) (rows : List (List Int)) (acc : List Int) (c4 c6 : DL.Slot), Bd n cs → (∀ o ∈ rows, o.length = w ∧ Bd m o) → acc.length = w →
    ∃ c4' c6', dFor (gT (gC (gNm 6) (gC (gNm 4) gN))) (dAsg 5 (dCall F_sum_of_rows (dCons (dVar 5) (dCons (dCall F_times_row (dCons (dVar 6) (dCons (dVar 4) dNil))) dNil)))) (zpD (cs.map .int) (rows.map Ri)) ⟨[a0, a1, a2, a3, c4, .val (Ri acc), c6], μ⟩ =
      .nx ⟨[a0, a1, a2, a3, c4', .val (Ri (smF cs rows acc)), c6'], μ⟩
  | [], rows, acc, c4, c6, _, _, _ => ⟨c4, c6, by simp [zpD, dFor, smF]⟩
  | c :: cs, [], acc, c4, c6, _, _, _ => ⟨c4, c6, by simp [zpD, dFor, smF]⟩
  | c :: cs, r :: rows, acc, c4, c6, hc, hl, ha => by
    obtain ⟨h1, h2⟩ := hl r (by simp)
    have e1 := times_row_ok hn hm hnm (hc c (by simp)) h2 (by omega) μ
    have e2 := sum_of_rows_ok acc (r.map fun x => c * x) (by omega) μ
    obtain ⟨c4', c6', e⟩ := sum_loop a0 a1 a2 a3 μ hw hn hm hnm cs rows (zw (· + ·) acc (r.map fun x => c * x)) (.val (Ri r)) (.val (.int c)) (fun x hx => hc x (by simp [hx])) (fun p hp => hl p (by simp [hp])) (by rw [zw_len (by simp; omega)]; exact ha)
    refine ⟨c4', c6', ?_⟩
    simp [-List.map_map, zpD, dFor, e1, e2]
    exact e
/-! the law's -/
theorem smL_comp (a0 a1 a2 a3 a4 : DL.Slot) (μ : List Cell) {c : Int} {n m : Nat} (hn : 0 < n) (hm : 0 < m) (hnm : n + m ≤ 50000) (hc : c.natAbs < 2 ^ n) : ∀ xs ys : List Int, Bd m ys →
    dLcGo [6, 7] (gT (gC (gNm 6) (gC (gNm 7) gN))) dYes (dOp gAdd (dVar 6) (dOp gMul (dVar 5) (dVar 7))) (zpD (xs.map .int) (ys.map .int)) ⟨[a0, a1, a2, a3, a4, .val (.int c), .no, .no], μ⟩ = .ok ((zw (fun a b => a + c * b) xs ys).map .int) ⟨[a0, a1, a2, a3, a4, .val (.int c), .no, .no], μ⟩
  | [], ys, _ => by simp [zpD, dLcGo, zw]
  | x :: xs, [], _ => by simp [zpD, dLcGo, zw]
  | x :: xs, y :: ys, hb => by
    have ih := smL_comp a0 a1 a2 a3 a4 μ hn hm hnm hc xs ys fun z hz => hb z (by simp [hz])
    have e := mulOk_of hc (hb y (by simp)) hn hm hnm
    unfold zw at ih ⊢
    simp [zpD, dLcGo, wipeD, backD, mul_ii e, ih]
theorem frzAsgO {i : Nat} {fc : FC} {s : S} {xs : List D} (h : fc s = .ok (.lst xs) s) (hi : i < s.δ.length) : dFrzS i (dAsgO i fc) s = .nx { s with δ := s.δ.set i (.val (.lst xs)) } := by
  unfold dFrzS
  rw [asgO_ok h]
  simp [frzAt, hi, Cell.toD]
def stepL : FS := (dFrzS 3 (dAsgO 3 (dLc [6, 7] (dIterZp (dCons (dVar 3) (dCons (dVar 4) dNil))) (gT (gC (gNm 6) (gC (gNm 7) gN))) dYes (dOp gAdd (dVar 6) (dOp gMul (dVar 5) (dVar 7))))))
theorem stepL_ok {a0 a1 a2 : DL.Slot} {μ : List Cell} {c : Int} {n m : Nat} {acc r : List Int} (hn : 0 < n) (hm : 0 < m) (hnm : n + m ≤ 50000) (hc : c.natAbs < 2 ^ n) (hb : Bd m r) (hl : acc.length ≤ 60) :
    stepL ⟨[a0, a1, a2, .val (.lst (acc.map .int)), .val (Ri r), .val (.int c), .no, .no], μ⟩ = .nx ⟨[a0, a1, a2, .val (.lst ((zw (· + ·) acc (r.map fun x => c * x)).map .int)), .val (Ri r), .val (.int c), .no, .no], μ⟩ := by
  have e := smL_comp a0 a1 a2 (.val (.lst (acc.map .int))) (.val (Ri r)) μ hn hm hnm hc acc r hb
  rw [zw_map] at e
  have hz : (zpD (acc.map D.int) (r.map D.int)).length ≤ 16777216 := by rw [zp_len]; omega
  have h : (dLc [6, 7] (dIterZp (dCons (dVar 3) (dCons (dVar 4) dNil))) (gT (gC (gNm 6) (gC (gNm 7) gN))) dYes (dOp gAdd (dVar 6) (dOp gMul (dVar 5) (dVar 7)))) ⟨[a0, a1, a2, .val (.lst (acc.map .int)), .val (Ri r), .val (.int c), .no, .no], μ⟩ = .ok (.lst ((zw (· + ·) acc (r.map fun x => c * x)).map .int)) ⟨[a0, a1, a2, .val (.lst (acc.map .int)), .val (Ri r), .val (.int c), .no, .no], μ⟩ :=
    lc_ok (ds := zpD (acc.map .int) (r.map .int)) (by simp) hz rfl e
  unfold stepL
  rw [frzAsgO h (by simp)]
  simp only [List.set_cons_succ, List.set_cons_zero]
theorem smL_loop (a0 a1 a2 : DL.Slot) (μ : List Cell) {w n m : Nat} (hw : w ≤ 60) (hn : 0 < n) (hm : 0 < m) (hnm : n + m ≤ 50000) : ∀ (cs : List Int) (rows : List (List Int)) (acc : List Int) (c4 c5 : DL.Slot), Bd n cs → (∀ o ∈ rows, o.length = w ∧ Bd m o) → acc.length = w →
    ∃ c4' c5', dFor (gT (gC (gNm 4) (gC (gNm 5) gN))) stepL (zpD (rows.map Ri) (cs.map .int)) ⟨[a0, a1, a2, .val (.lst (acc.map .int)), c4, c5, .no, .no], μ⟩ =
      .nx ⟨[a0, a1, a2, .val (.lst ((smF cs rows acc).map .int)), c4', c5', .no, .no], μ⟩
  | [], [], acc, c4, c5, _, _, _ => ⟨c4, c5, by simp [zpD, dFor, smF]⟩
  | [], r :: rows, acc, c4, c5, _, _, _ => ⟨c4, c5, by simp [zpD, dFor, smF]⟩
  | c :: cs, [], acc, c4, c5, _, _, _ => ⟨c4, c5, by simp [zpD, dFor, smF]⟩
  | c :: cs, r :: rows, acc, c4, c5, hc, hl, ha => by
    obtain ⟨h1, h2⟩ := hl r (by simp)
    have e1 := stepL_ok (a0 := a0) (a1 := a1) (a2 := a2) (μ := μ) (acc := acc) hn hm hnm (hc c (by simp)) h2 (by omega)
    obtain ⟨c4', c5', e⟩ := smL_loop a0 a1 a2 μ hw hn hm hnm cs rows (zw (· + ·) acc (r.map fun x => c * x)) (.val (Ri r)) (.val (.int c)) (fun x hx => hc x (by simp [hx])) (fun p hp => hl p (by simp [hp])) (by rw [zw_len (by simp; omega)]; exact ha)
    refine ⟨c4', c5', ?_⟩
    rw [List.map_cons, List.map_cons, zpD, dFor]
    simp only [ap_gT, ap_gC, ap_gNm, ap_gN, Option.bind_some, List.set_cons_succ, List.set_cons_zero]
    rw [e1]
    exact e
def IsInts (cs : List Int) (d : D) : Prop := d = Ri cs ∨ d = .lst (cs.map .int)
theorem fixInts {cs : List Int} {d : D} (h : IsInts cs d) : fixSeq d = some (cs.map .int) ∧ noOwn d = true := by rcases h with rfl | rfl <;> exact ⟨rfl, rfl⟩
theorem fixRows {rows : List (List Int)} {d : D} (h : IsRows rows d) : fixSeq d = some (rows.map Ri) ∧ noOwn d = true := by rcases h with rfl | rfl <;> exact ⟨rfl, rfl⟩
theorem sml1 {a1 a2 a3 a4 a5 a6 a7 : DL.Slot} {w : Nat} {μ : List Cell} (hw : w ≤ 60) : (dAsg 3 (dFrz (dRepF (dLst (dCons (dC (.int (0))) dNil)) (dVar 0)))) ⟨[.val (.int (w : Nat)), a1, a2, a3, a4, a5, a6, a7], μ⟩ = .nx ⟨[.val (.int (w : Nat)), a1, a2, .val (.lst ((List.replicate w (0 : Int)).map .int)), a4, a5, a6, a7], μ⟩ := by
  have e : dVar 0 ⟨[.val (.int (w : Nat)), a1, a2, a3, a4, a5, a6, a7], μ⟩ = .ok (.int (w : Nat)) ⟨[.val (.int (w : Nat)), a1, a2, a3, a4, a5, a6, a7], μ⟩ := by simp
  have h := repF_ok (s := ⟨[.val (.int (w : Nat)), a1, a2, a3, a4, a5, a6, a7], μ⟩) lst0 e (repz w hw)
  have h2 : dFrz (dRepF (dLst (dCons (dC (.int (0))) dNil)) (dVar 0)) ⟨[.val (.int (w : Nat)), a1, a2, a3, a4, a5, a6, a7], μ⟩ = .ok (.lst ((List.replicate w (0 : Int)).map .int)) ⟨[.val (.int (w : Nat)), a1, a2, a3, a4, a5, a6, a7], μ⟩ := by
    rw [ap_Frz, h, bind_ok]
    rfl
  rw [asg_ok h2 rfl]
  simp only [List.set_cons_succ, List.set_cons_zero]
theorem L_summed_ok {w n m : Nat} {cs : List Int} {rows : List (List Int)} (hw : w ≤ 60) (hn : 0 < n) (hm : 0 < m) (hnm : n + m ≤ 50000) (hc : Bd n cs) (hl : ∀ o ∈ rows, o.length = w ∧ Bd m o) {dr dc : D} (h1 : IsRows rows dr) (h2 : IsInts cs dc) (μ : List Cell) : F_L_summed [.int (w : Nat), dr, dc] μ = .ok (Ri (sm w cs rows)) μ := by
  obtain ⟨f1, n1⟩ := fixRows h1
  obtain ⟨f2, n2⟩ := fixInts h2
  obtain ⟨c4, c5, e⟩ := smL_loop (.val (.int (w : Nat))) (.val dr) (.val dc) μ hw hn hm hnm cs rows (List.replicate w 0) .no .no hc hl (by simp)
  have t : b_L_summed ⟨[.val (.int (w : Nat)), .val dr, .val dc, .no, .no, .no, .no, .no], μ⟩ = .rt (Ri (sm w cs rows)) ⟨[.val (.int (w : Nat)), .val dr, .val dc, .val (.lst ((sm w cs rows).map .int)), c4, c5, .no, .no], μ⟩ := by
    unfold b_L_summed
    rw [seq_nx (sml1 hw)]
    rw [seq_nx (by
      rw [forZp (d := dr) (e := dc) (xs := rows.map Ri) (ys := cs.map .int) (by simp) f1 f2]
      exact e)]
    simp [-List.map_map, tup_ints, sm]
  exact runF_rt (n := 8) (ds := [.int (w : Nat), dr, dc]) t
end K12

namespace K12
open PySem PySem.Spec PyProof.Rows L2 DL
@[simp] theorem eq_l0 (s : S) (a : List Int) : eqS s (.lst (a.map .int)) (.lst []) = some (.bl (decide (a = []))) := eq_ll s a []
def ones {α : Type} (f : α → Bool) : List α → List Int
  | [] => []
  | x :: xs => if f x then 1 :: ones f xs else ones f xs
theorem ones_nil {α : Type} (f : α → Bool) : ∀ xs : List α, decide (ones f xs = []) = xs.all (fun x => !f x)
  | [] => by simp [ones]
  | x :: xs => by
    have := ones_nil f xs
    unfold ones
    by_cases h : f x = true
    · simp [h]
    · have h : f x = false := by simpa using h
      simp [h, this]
theorem L_is_number_ok {d : D} (h : Fine d) (μ : List Cell) : F_L_is_number [d] μ = .ok (.bl (isI d)) μ := is_integer_ok h μ
theorem notint_comp (a b : DL.Slot) (μ : List Cell) : ∀ ds : List D, (∀ d ∈ ds, Fine d) → dLcGo [2] (gNm 2) (dNotT (dTruth (dCall F_L_is_number (dCons (dVar 2) dNil)))) (dC (.int (1))) ds ⟨[a, b, .no], μ⟩ = .ok ((ones (fun d => !isI d) ds).map .int) ⟨[a, b, .no], μ⟩
  | [], _ => rfl
  | d :: ds, h => by
    have ih := notint_comp a b μ ds fun x hx => h x (by simp [hx])
    have hd := h d (by simp)
    have e := L_is_number_ok hd μ
    cases hi : isI d with
    | true => rw [hi] at e; simp [dLcGo, wipeD, backD, hd.no, e, ih, ones, hi]
    | false => rw [hi] at e; simp [dLcGo, wipeD, backD, hd.no, e, ih, ones, hi]
theorem L_is_row_ok {w : Nat} {v : D} (h : Fine v) (hl : ∀ xs, v = .tup xs → xs.length ≤ 16777216) (μ : List Cell) : F_L_is_row [.int w, v] μ = .ok (.bl (rowB w v)) μ := by
  cases h with
  | tup xs hx =>
    have hl := hl xs rfl
    by_cases hw : xs.length = w
    · subst hw
      have e : decide (ones (fun d => !isI d) xs = []) = xs.all isI := by rw [ones_nil]; simp
      simp [F_L_is_row, b_L_is_row, runF, gIsi, tyD, kitB, gLen, hl, notint_comp _ _ _ _ hx, rowB, -decide_eq_true_eq, e]
    · have e : ((xs.length : Int) == (w : Int)) = false := by simp; omega
      have e2 : (xs.length == w) = false := by simpa using hw
      simp [F_L_is_row, b_L_is_row, runF, gIsi, tyD, kitB, gLen, e, rowB, e2]
  | non => rfl
  | bl b => rfl
  | int i => rfl
  | str x => rfl
  | lst xs h => rfl
  | dct k => rfl
/-- data that can be laid -/
def Lay (k : Nat) (d : D) : Prop := ∃ p, toPy d = some p ∧ p.canLay0 = true ∧ p.depth ≤ k
theorem Lay.mono {k j : Nat} {d : D} (h : Lay k d) (hk : k ≤ j) : Lay j d := by
  obtain ⟨p, h1, h2, h3⟩ := h
  exact ⟨p, h1, h2, by omega⟩
theorem lay_int (k : Nat) (i : Int) : Lay k (.int i) := ⟨.int i, rfl, by simp [PyData.canLay0], by simp [PyData.depth]⟩
theorem lay_bl (k : Nat) (i : Bool) : Lay k (.bl i) := ⟨.bool i, rfl, by simp [PyData.canLay0], by simp [PyData.depth]⟩
theorem lay_non (k : Nat) : Lay k .non := ⟨.none, rfl, by simp [PyData.canLay0], by simp [PyData.depth]⟩
theorem lay_all {k : Nat} : ∀ {xs : List D}, (∀ x ∈ xs, Lay k x) → ∃ ps, toPyL xs = some ps ∧ PyData.canLayAll0 ps = true ∧ PyData.depthAll ps ≤ k ∧ ps.length = xs.length
  | [], _ => ⟨[], rfl, by simp [PyData.canLayAll0], by simp [PyData.depthAll], rfl⟩
  | x :: xs, h => by
    obtain ⟨p, h1, h2, h3⟩ := h x (by simp)
    obtain ⟨ps, h4, h5, h6, h7⟩ := lay_all (xs := xs) fun y hy => h y (by simp [hy])
    refine ⟨p :: ps, by simp [toPyL, h1, h4], by simp [PyData.canLayAll0, h2, h5], by simp only [PyData.depthAll]; omega, by simp [h7]⟩
theorem lay_tup {k : Nat} {xs : List D} (h : ∀ x ∈ xs, Lay k x) : Lay (k + 1) (.tup xs) := by
  obtain ⟨ps, h1, h2, h3, _⟩ := lay_all h
  exact ⟨.tuple ps, by simp [toPy, h1], by simp [PyData.canLay0, h2], by simp only [PyData.depth]; omega⟩
theorem lay_lst {k : Nat} {xs : List D} (h : ∀ x ∈ xs, Lay k x) : Lay (k + 1) (.lst xs) := by
  obtain ⟨ps, h1, h2, h3, _⟩ := lay_all h
  exact ⟨.list ps, by simp [toPy, h1], by simp [PyData.canLay0, h2], by simp only [PyData.depth]; omega⟩
theorem eq_empty {x : D} {xs : List D} (h : Lay 20 (.tup (x :: xs))) (s : S) : eqS s (.tup (x :: xs)) (.tup []) = some (.bl false) := by
  obtain ⟨p, h1, h2, h3⟩ := h
  have h4 : (toPyL (x :: xs)).map PyData.tuple = some p := by simpa [toPy] using h1
  obtain ⟨ps, h5, rfl⟩ := Option.map_eq_some_iff.mp h4
  have h6 : ∃ q qs, ps = q :: qs := by
    simp only [toPyL] at h5
    split at h5
    · cases h5; exact ⟨_, _, rfl⟩
    · cases h5
  obtain ⟨q, qs, rfl⟩ := h6
  have hs : SeqAt.shaped (.tuple (q :: qs)) = true := by
    unfold SeqAt.shaped
    rw [h2, Bool.true_and]
    exact decide_eq_true (by omega)
  have hs2 : SeqAt.shaped (.tuple []) = true := rfl
  have e0 : toPyL [] = some [] := rfl
  simp only [eqS, twoStr, gDat, pys_tup, h5, e0, Option.map_some, eqG, hs, hs2, Bool.and_self, if_true, PyData.eqv, PyData.eqvAll]
/-- a value that both can be asked about -/
structure Okv (d : D) : Prop where
  fine : Fine d
  lay : Lay 20 d
  len : ∀ xs, d = .tup xs → xs.length ≤ 16777216
  two : ∀ a b, d = .tup [a, b] → (∀ xs, b = .tup xs → xs.length ≤ 16777216) ∧ (∀ ys, b = Ri ys → Bd 9000 ys)
  three : ∀ a b c, d = .tup [a, b, c] → (∀ i, b = .int i → i.natAbs < 2 ^ 9000) ∧ (∀ xs, c = .tup xs → xs.length ≤ 16777216) ∧ (∀ ys, c = Ri ys → Bd 9000 ys)
def isStr : D → Bool | .str _ => true | _ => false
theorem isi_str {d : D} (h : Fine d) (s : S) : gIsi s [d, .ty "str"] = some (.bl (isStr d)) := by cases h <;> rfl
theorem isi_tup {d : D} (h : Fine d) (s : S) : gIsi s [d, .ty "tuple"] = some (.bl (match d with | .tup _ => true | _ => false)) := by cases h <;> rfl
theorem fine_mem {xs : List D} (h : Fine (.tup xs)) : ∀ x ∈ xs, Fine x := by cases h; assumption
/-! the law's question -/
def lp1 : FS := (dIfS (dOrT (dNotT (dTruth (dB gIsi (dCons (dVar 3) (dCons (dC (.ty "tuple")) dNil))))) (dOrT (dCmpT (gDat niG) (dB gLen (dCons (dVar 3) dNil)) (dTup (dCons (dC (.int (2))) (dCons (dC (.int (3))) dNil)))) (dNotT (dTruth (dB gIsi (dCons (dOp gIx (dVar 3) (dC (.int (0)))) (dCons (dC (.ty "str")) dNil))))))) (dRet (dC (.bl false))) dSkip)
theorem ni23 (s : S) (n : Nat) : gDat niG s (.int (n : Nat)) (.tup [.int 2, .int 3]) = some (.bl (decide (n ≠ 2 ∧ n ≠ 3))) := by
  have : (([2, 3] : List Int).map PyData.int).any (fun y => PyData.eqv y (.int (n : Nat))) = ([2, 3] : List Int).any fun l => l == (n : Int) := by
    rw [List.any_map]
    congr 1
  have e := py_ints [2, 3]
  have e2 := sh_row [2, 3]
  simp only [List.map_cons, List.map_nil] at e e2 this
  simp only [gDat, niG, pys_int, pys_tup, e, Option.map_some, inG, sh_int, e2, Bool.and_self, if_true, this]
  congr 2
  rw [Bool.eq_iff_iff]
  simp
  omega
theorem len_tup (s : S) (ys : List D) : gLen s [.tup ys] = some (.int (ys.length : Nat)) := rfl
theorem lp1_a {a0 a1 a2 a4 a5 a6 a7 : DL.Slot} {ys : List D} {g : FS} {μ : List Cell} (h : ys.length ≠ 2 ∧ ys.length ≠ 3) :
    dSeq lp1 g ⟨[a0, a1, a2, .val (.tup ys), a4, a5, a6, a7], μ⟩ = .rt (.bl false) ⟨[a0, a1, a2, .val (.tup ys), a4, a5, a6, a7], μ⟩ := by
  have e1 : ∀ s : S, gIsi s [.tup ys, .ty "tuple"] = some (.bl true) := fun s => rfl
  have e4 : ∀ s : S, gDat niG s (.int (ys.length : Nat)) (.tup [.int 2, .int 3]) = some (.bl true) := fun s => by rw [ni23, decide_eq_true h]
  simp [lp1, e1, len_tup, e4]
theorem lp1_b {a0 a1 a2 a4 a5 a6 a7 : DL.Slot} {ys : List D} {x : D} {g : FS} {μ : List Cell} (h : ys.length = 2 ∨ ys.length = 3) (e3 : ∀ s : S, gIx s (.tup ys) (.int 0) = some x) (fx : Fine x) (hx : isStr x = false) :
    dSeq lp1 g ⟨[a0, a1, a2, .val (.tup ys), a4, a5, a6, a7], μ⟩ = .rt (.bl false) ⟨[a0, a1, a2, .val (.tup ys), a4, a5, a6, a7], μ⟩ := by
  have e1 : ∀ s : S, gIsi s [.tup ys, .ty "tuple"] = some (.bl true) := fun s => rfl
  have e4 : ∀ s : S, gDat niG s (.int (ys.length : Nat)) (.tup [.int 2, .int 3]) = some (.bl false) := fun s => by rw [ni23, decide_eq_false (by omega)]
  have e2 := fun s => isi_str fx s
  simp [lp1, e1, len_tup, e4, e3, e2, hx]
theorem lp1_c {a0 a1 a2 a4 a5 a6 a7 : DL.Slot} {ys : List D} {x : Str} {g : FS} {μ : List Cell} (h : ys.length = 2 ∨ ys.length = 3) (e3 : ∀ s : S, gIx s (.tup ys) (.int 0) = some (.str x)) :
    dSeq lp1 g ⟨[a0, a1, a2, .val (.tup ys), a4, a5, a6, a7], μ⟩ = g ⟨[a0, a1, a2, .val (.tup ys), a4, a5, a6, a7], μ⟩ := by
  have e1 : ∀ s : S, gIsi s [.tup ys, .ty "tuple"] = some (.bl true) := fun s => rfl
  have e4 : ∀ s : S, gDat niG s (.int (ys.length : Nat)) (.tup [.int 2, .int 3]) = some (.bl false) := fun s => by rw [ni23, decide_eq_false (by omega)]
  have e2 : ∀ s : S, gIsi s [.str x, .ty "str"] = some (.bl true) := fun s => rfl
  simp [lp1, e1, len_tup, e4, e3, e2]
theorem ix_0 (s : S) (x : D) (xs : List D) : gIx s (.tup (x :: xs)) (.int 0) = some x := by simp [gIx, atI, L2.atI, L2.ixN]
theorem lp1_no {a0 a1 a2 a4 a5 a6 a7 : DL.Slot} {d : D} {g : FS} {μ : List Cell} (O : Okv d) (h : ∀ a xs, d = .tup (.str a :: xs) → xs.length ≠ 1 ∧ xs.length ≠ 2) :
    dSeq lp1 g ⟨[a0, a1, a2, .val d, a4, a5, a6, a7], μ⟩ = .rt (.bl false) ⟨[a0, a1, a2, .val d, a4, a5, a6, a7], μ⟩ := by
  have F := O.fine
  cases F with
  | tup xs hf =>
    by_cases h2 : xs.length ≠ 2 ∧ xs.length ≠ 3
    · exact lp1_a h2
    · cases xs with
      | nil => simp at h2
      | cons x xs =>
        refine lp1_b (x := x) (by omega) (fun s => ix_0 s x xs) (hf x (by simp)) ?_
        cases hx : x with
        | str a =>
          subst hx
          have := h a xs rfl
          rw [List.length_cons] at h2
          omega
        | _ => rfl
  | _ => rfl
/-! the program's question -/
def pp1 : FS := (dIfS (dOrT (dNotT (dTruth (dB gIsi (dCons (dVar 3) (dCons (dC (.ty "tuple")) dNil))))) (dOrT (dCmpT eqS (dVar 3) (dTup dNil)) (dNotT (dTruth (dB gIsi (dCons (dOp gIx (dVar 3) (dC (.int (0)))) (dCons (dC (.ty "str")) dNil))))))) (dRet (dC (.bl false))) dSkip)
theorem eq_ee (s : S) : eqS s (.tup []) (.tup []) = some (.bl true) := eq_rr s [] []
theorem pp1_no {a0 a1 a2 a4 a5 a6 : DL.Slot} {d : D} {g : FS} {μ : List Cell} (O : Okv d) (h : ∀ a xs, d ≠ .tup (.str a :: xs)) :
    dSeq pp1 g ⟨[a0, a1, a2, .val d, a4, a5, a6], μ⟩ = .rt (.bl false) ⟨[a0, a1, a2, .val d, a4, a5, a6], μ⟩ := by
  have F := O.fine
  cases F with
  | tup xs hf =>
    have e1 : ∀ s : S, gIsi s [.tup xs, .ty "tuple"] = some (.bl true) := fun s => rfl
    cases xs with
    | nil => simp [pp1, e1, eq_ee]
    | cons x xs =>
      have e2 := fun s => isi_str (hf x (by simp)) s
      have hx : isStr x = false := by
        cases hx : x with
        | str a => subst hx; exact absurd rfl (h a xs)
        | _ => rfl
      have e3 := eq_empty O.lay
      simp [pp1, e1, e3, ix_0, e2, hx]
  | _ => rfl
theorem pp1_ok {a0 a1 a2 a4 a5 a6 : DL.Slot} {x : Str} {xs : List D} {g : FS} {μ : List Cell} (O : Okv (.tup (.str x :: xs))) :
    dSeq pp1 g ⟨[a0, a1, a2, .val (.tup (.str x :: xs)), a4, a5, a6], μ⟩ = g ⟨[a0, a1, a2, .val (.tup (.str x :: xs)), a4, a5, a6], μ⟩ := by
  have e1 : ∀ s : S, gIsi s [.tup (.str x :: xs), .ty "tuple"] = some (.bl true) := fun s => rfl
  have e2 : ∀ s : S, gIsi s [.str x, .ty "str"] = some (.bl true) := fun s => rfl
  have e3 := eq_empty O.lay
  simp [pp1, e1, e3, ix_0, e2]
end K12

namespace K12
open PySem PySem.Spec PyProof.Rows L2 DL
def pp2 : FS := (dIfS (dCmpT eqS (dOp gIx (dVar 3) (dC (.int (0)))) (dC (.str "apart"))) (dSeq (dIfS (dOrT (dCmpT neS (dB gLen (dCons (dVar 3) dNil)) (dC (.int (2)))) (dNotT (dTruth (dCall F_is_plain_row (dCons (dVar 0) (dCons (dOp gIx (dVar 3) (dC (.int (1)))) dNil)))))) (dRet (dC (.bl false))) dSkip)
    (dRet (dAndV (dB gAll (dCons (dFrz (dLc [4] (dIter (dVar 1)) (gNm 4) dYes (dOp eqS (dCall F_dot (dCons (dVar 4) (dCons (dOp gIx (dVar 3) (dC (.int (1)))) dNil))) (dC (.int (0)))))) dNil)) (dOp neS (dCall F_dot (dCons (dVar 2) (dCons (dOp gIx (dVar 3) (dC (.int (1)))) dNil))) (dC (.int (0))))))) dSkip)
def pp3 : FS := (dIfS (dOrT (dCmpT neS (dOp gIx (dVar 3) (dC (.int (0)))) (dC (.str "sum"))) (dOrT (dCmpT neS (dB gLen (dCons (dVar 3) dNil)) (dC (.int (3)))) (dOrT (dNotT (dTruth (dCall F_is_integer (dCons (dOp gIx (dVar 3) (dC (.int (1)))) dNil)))) (dCmpT gLt (dOp gIx (dVar 3) (dC (.int (1)))) (dC (.int (1))))))) (dRet (dC (.bl false))) dSkip)
def pp4 : FS := (dIfS (dNotT (dTruth (dCall F_is_plain_row (dCons (dB gLen (dCons (dVar 1) dNil)) (dCons (dOp gIx (dVar 3) (dC (.int (2)))) dNil))))) (dRet (dC (.bl false))) dSkip)
def pp5 : FS := (dSeq (dAsg 5 (dOp gMul (dTup (dCons (dC (.int (0))) dNil)) (dVar 0)))
    (dSeq (dForI (dIterZp (dCons (dOp gIx (dVar 3) (dC (.int (2)))) (dCons (dVar 1) dNil))) (gT (gC (gNm 6) (gC (gNm 4) gN))) (dAsg 5 (dCall F_sum_of_rows (dCons (dVar 5) (dCons (dCall F_times_row (dCons (dVar 6) (dCons (dVar 4) dNil))) dNil)))))
    (dRet (dOp eqS (dVar 5) (dCall F_times_row (dCons (dOp gIx (dVar 3) (dC (.int (1)))) (dCons (dVar 2) dNil)))))))
theorem pp_split : b_is_span_paper = (dSeq (dDrop (dCall F_require_width (dCons (dVar 0) dNil)))
    (dSeq (dDrop (dCall F_require_rows (dCons (dVar 0) (dCons (dVar 1) dNil))))
    (dSeq (dDrop (dCall F_require_row (dCons (dVar 0) (dCons (dVar 2) dNil))))
    (dSeq pp1 (dSeq pp2 (dSeq pp3 (dSeq pp4 pp5))))))) := rfl
def lp2 : FS := (dIfS (dCmpT eqS (dB gLen (dCons (dVar 3) dNil)) (dC (.int (2)))) (dSeq (dIfS (dOrT (dCmpT neS (dOp gIx (dVar 3) (dC (.int (0)))) (dC (.str "apart"))) (dOrT (dNotT (dTruth (dCall F_L_is_row (dCons (dVar 0) (dCons (dOp gIx (dVar 3) (dC (.int (1)))) dNil))))) (dCmpT eqS (dCall F_L_dot (dCons (dOp gIx (dVar 3) (dC (.int (1)))) (dCons (dVar 2) dNil))) (dC (.int (0)))))) (dRet (dC (.bl false))) dSkip)
    (dRet (dOp eqS (dFrz (dLc [7] (dIter (dVar 1)) (gNm 7) (dCmpT neS (dCall F_L_dot (dCons (dOp gIx (dVar 3) (dC (.int (1)))) (dCons (dVar 7) dNil))) (dC (.int (0)))) (dC (.int (1))))) (dFrz (dLst dNil))))) dSkip)
def lp3 : FS := (dAsgG (dVar 3) (gT (gC (gNm 4) (gC (gNm 5) (gC (gNm 6) gN)))))
def lp4 : FS := (dIfS (dOrT (dCmpT neS (dVar 4) (dC (.str "sum"))) (dOrT (dNotT (dTruth (dCall F_L_is_number (dCons (dVar 5) dNil)))) (dOrT (dCmpT gLt (dVar 5) (dC (.int (1)))) (dNotT (dTruth (dCall F_L_is_row (dCons (dB gLen (dCons (dVar 1) dNil)) (dCons (dVar 6) dNil)))))))) (dRet (dC (.bl false))) dSkip)
def lp5 : FS := (dRet (dOp eqS (dCall F_L_summed (dCons (dVar 0) (dCons (dVar 1) (dCons (dVar 6) dNil)))) (dB gTuple (dCons (dFrz (dLc [7] (dIter (dVar 2)) (gNm 7) dYes (dOp gMul (dVar 5) (dVar 7)))) dNil))))
theorem lp_split : b_L_is_paper = dSeq lp1 (dSeq lp2 (dSeq lp3 (dSeq lp4 lp5))) := rfl
theorem ix_1 (s : S) (x y : D) (xs : List D) : gIx s (.tup (x :: y :: xs)) (.int 1) = some y := by
  have h : (1 : Int) < xs.length + 1 + 1 := by omega
  simp [gIx, atI, L2.atI, L2.ixN, h]
theorem ix_2 (s : S) (x y z : D) (xs : List D) : gIx s (.tup (x :: y :: z :: xs)) (.int 2) = some z := by
  have h : (2 : Int) < xs.length + 1 + 1 + 1 := by omega
  simp [gIx, atI, L2.atI, L2.ixN, h]
section
variable {w : Nat} {rows : List (List Int)} {v : List Int} {μ : List Cell} {a4 a5 a6 a7 : DL.Slot}
/-- the state of the program's question -/
abbrev Sp (w : Nat) (rows : List (List Int)) (v : List Int) (d : D) (a4 a5 a6 : DL.Slot) (μ : List Cell) : S := ⟨[.val (.int (w : Nat)), .val (.tup (rows.map Ri)), .val (Ri v), .val d, a4, a5, a6], μ⟩
abbrev Sl (w : Nat) (rows : List (List Int)) (v : List Int) (d : D) (a4 a5 a6 a7 : DL.Slot) (μ : List Cell) : S := ⟨[.val (.int (w : Nat)), .val (.tup (rows.map Ri)), .val (Ri v), .val d, a4, a5, a6, a7], μ⟩
theorem ppA {a : Str} {xs : List D} {g : FS} (h : (a == ("apart" : Str)) = true) (hl : xs.length ≠ 1) : dSeq pp2 g (Sp w rows v (.tup (.str a :: xs)) a4 a5 a6 μ) = .rt (.bl false) (Sp w rows v (.tup (.str a :: xs)) a4 a5 a6 μ) := by
  have e : (((.str a :: xs : List D).length : Int) == 2) = false := by
    rw [List.length_cons]; simp; omega
  have e1 : ∀ s : S, gIx s (.tup (.str a :: xs)) (.int 0) = some (.str a) := fun s => ix_0 s _ _
  simp only [pp2, ap_Seq, ap_IfS, ap_CmpT, ap_Op, ap_Var, ap_C, bind_ok, List.getElem?_cons_succ, List.getElem?_cons_zero, e1, eq_ss, h, ap_OrT, ap_B, ap_Cons, ap_Nil, len_tup, ne_ii, e, Bool.not_false, if_true, ap_Ret, no_bl]
theorem ppB {a : Str} {b : D} {g : FS} (h : (a == ("apart" : Str)) = true) (e0 : F_is_plain_row [.int (w : Nat), b] μ = .ok (.bl false) μ) (nb : noOwn b = true) : dSeq pp2 g (Sp w rows v (.tup [.str a, b]) a4 a5 a6 μ) = .rt (.bl false) (Sp w rows v (.tup [.str a, b]) a4 a5 a6 μ) := by
  have e1 : ∀ s : S, gIx s (.tup [.str a, b]) (.int 0) = some (.str a) := fun s => ix_0 s _ _
  have e2 : ∀ s : S, gIx s (.tup [.str a, b]) (.int 1) = some b := fun s => ix_1 s _ _ _
  simp [pp2, e1, h, len_tup, e2, e0, nb]
theorem dots_comp {y : List Int} {d : D} (e2 : ∀ s : S, gIx s d (.int 1) = some (Ri y)) (nd : noOwn d = true) (hy : Bd 9000 y) (hw : w ≤ 60) (a0 a1 a2 : DL.Slot) : ∀ m : List (List Int), (∀ o ∈ m, o.length = w ∧ Bd 11 o) →
    dLcGo [4] (gNm 4) dYes (dOp eqS (dCall F_dot (dCons (dVar 4) (dCons (dOp gIx (dVar 3) (dC (.int (1)))) dNil))) (dC (.int (0)))) (m.map Ri) ⟨[a0, a1, a2, .val d, .no, a5, a6], μ⟩ = .ok (m.map fun r => .bl (dt r y == 0)) ⟨[a0, a1, a2, .val d, .no, a5, a6], μ⟩
  | [], _ => rfl
  | o :: m, h => by
    obtain ⟨h1, h2⟩ := h o (by simp)
    have ih := dots_comp e2 nd hy hw a0 a1 a2 m fun p hp => h p (by simp [hp])
    have e := dot_ok (by decide : 0 < 11) (by decide : 0 < 9000) (by decide) h2 hy (by omega) μ
    rw [dt_eq] at e
    simp [-List.map_map, dLcGo, wipeD, backD, e2, e, ih]
theorem ppC {a : Str} {y : List Int} {g : FS} (I : In w rows v) (h : (a == ("apart" : Str)) = true) (hl : y.length = w) (hy : Bd 9000 y) : dSeq pp2 g (Sp w rows v (.tup [.str a, Ri y]) .no a5 a6 μ) = .rt (.bl ((rows.all fun r => dt r y == 0) && !(dt v y == 0))) (Sp w rows v (.tup [.str a, Ri y]) .no a5 a6 μ) := by
  have h5 := I.w5
  have h6 := I.m6
  have e1 : ∀ s : S, gIx s (.tup [.str a, Ri y]) (.int 0) = some (.str a) := fun s => ix_0 s _ _
  have e2 : ∀ s : S, gIx s (.tup [.str a, Ri y]) (.int 1) = some (Ri y) := fun s => ix_1 s _ _ _
  have e0 := is_plain_row_ok (w := w) (ri_fine y) (fun xs hx => by rw [ri_len y xs hx]; omega) μ
  rw [rowB_ri, hl] at e0
  have e3 := dots_comp (w := w) (a5 := a5) (a6 := a6) (μ := μ) e2 rfl hy (by omega) (.val (.int (w : Nat))) (.val (.tup (rows.map Ri))) (.val (Ri v)) rows I.ro
  have e4 := dot_ok (by decide : 0 < 14) (by decide : 0 < 9000) (by decide) I.vb hy (by rw [I.vl]; omega) μ
  rw [dt_eq] at e4
  have e5 := lc_ok (vs := [4]) (fi := dIter (dVar 1)) (g := gNm 4) (ft := dYes) (fe := dOp eqS (dCall F_dot (dCons (dVar 4) (dCons (dOp gIx (dVar 3) (dC (.int (1)))) dNil))) (dC (.int (0)))) (s := Sp w rows v (.tup [.str a, Ri y]) .no a5 a6 μ) (ds := rows.map Ri) (by simp) (by simp; omega) rfl e3
  have e6 : ∀ s : S, gAll s [.lst (rows.map fun r => .bl (dt r y == 0))] = some (.bl (rows.all fun r => dt r y == 0)) := fun s => all_bl s _ _
  have e7 : ∀ s : S, truthD s (.bl (rows.all fun r => dt r y == 0)) = some (rows.all fun r => dt r y == 0) := fun s => tr_bl s _
  generalize hB : (rows.all fun r => dt r y == 0) = B at e6 e7 ⊢
  generalize rows.map (fun r => D.bl (dt r y == 0)) = M at *
  cases B <;> simp [-List.map_map, -ap_Lc, -ap_Iter, pp2, e1, h, len_tup, e2, e0, e5, e6, e4]
theorem ppD {a : Str} {d : D} {g : FS} (e1 : ∀ s : S, gIx s d (.int 0) = some (.str a)) (h : (a == ("apart" : Str)) = false) : dSeq pp2 g (Sp w rows v d a4 a5 a6 μ) = g (Sp w rows v d a4 a5 a6 μ) := by
  refine seq_nx ?_
  simp [pp2, e1, h]
theorem ppD3 {a : Str} {xs : List D} {g : FS} (h : (a == ("sum" : Str)) = false ∨ xs.length ≠ 2) : dSeq pp3 g (Sp w rows v (.tup (.str a :: xs)) a4 a5 a6 μ) = .rt (.bl false) (Sp w rows v (.tup (.str a :: xs)) a4 a5 a6 μ) := by
  have e1 : ∀ s : S, gIx s (.tup (.str a :: xs)) (.int 0) = some (.str a) := fun s => ix_0 s _ _
  cases hs : a == ("sum" : Str) with
  | false => simp [pp3, e1, hs]
  | true =>
    have hl : xs.length ≠ 2 := h.elim (fun z => by rw [hs] at z; cases z) id
    have e : (((.str a :: xs : List D).length : Int) == 3) = false := by
      rw [List.length_cons]; simp; omega
    simp only [pp3, ap_Seq, ap_IfS, ap_CmpT, ap_Op, ap_Var, ap_C, bind_ok, List.getElem?_cons_succ, List.getElem?_cons_zero, e1, ne_ss, hs, ap_OrT, ap_B, ap_Cons, ap_Nil, len_tup, ne_ii, e, Bool.not_false, Bool.not_true, if_true, ap_Ret, no_bl]
    simp [e]
theorem ppE {a : Str} {b c : D} {g : FS} (hs : (a == ("sum" : Str)) = true) (fb : Fine b) (h : ∀ t : Int, b = .int t → t < 1) : dSeq pp3 g (Sp w rows v (.tup [.str a, b, c]) a4 a5 a6 μ) = .rt (.bl false) (Sp w rows v (.tup [.str a, b, c]) a4 a5 a6 μ) := by
  have e1 : ∀ s : S, gIx s (.tup [.str a, b, c]) (.int 0) = some (.str a) := fun s => ix_0 s _ _
  have e2 : ∀ s : S, gIx s (.tup [.str a, b, c]) (.int 1) = some b := fun s => ix_1 s _ _ _
  have e3 := is_integer_ok fb μ
  have nb := fb.no
  cases hi : isI b with
  | false => rw [hi] at e3; simp [pp3, e1, hs, len_tup, e2, e3, nb]
  | true =>
    rw [hi] at e3
    cases fb <;> simp [isI] at hi
    rename_i t
    have h1 : decide (t < 1) = true := decide_eq_true (h t rfl)
    simp [pp3, e1, hs, len_tup, e2, e3, h1]
theorem ppF {a : Str} {t : Int} {c : D} {g : FS} (hs : (a == ("sum" : Str)) = true) (h : 1 ≤ t) : dSeq pp3 g (Sp w rows v (.tup [.str a, .int t, c]) a4 a5 a6 μ) = g (Sp w rows v (.tup [.str a, .int t, c]) a4 a5 a6 μ) := by
  have e1 : ∀ s : S, gIx s (.tup [.str a, .int t, c]) (.int 0) = some (.str a) := fun s => ix_0 s _ _
  have e2 : ∀ s : S, gIx s (.tup [.str a, .int t, c]) (.int 1) = some (.int t) := fun s => ix_1 s _ _ _
  have e3 := is_integer_ok (.int t) μ
  have h1 : decide (t < 1) = false := decide_eq_false (by omega)
  refine seq_nx ?_
  simp [pp3, e1, hs, len_tup, e2, e3, h1, isI]
theorem ppG {a b c : D} {g : FS} (hm : rows.length ≤ 60) (fc : Fine c) (hl : ∀ xs, c = .tup xs → xs.length ≤ 16777216) (h : rowB rows.length c = false) : dSeq pp4 g (Sp w rows v (.tup [a, b, c]) a4 a5 a6 μ) = .rt (.bl false) (Sp w rows v (.tup [a, b, c]) a4 a5 a6 μ) := by
  have e2 : ∀ s : S, gIx s (.tup [a, b, c]) (.int 2) = some c := fun s => ix_2 s _ _ _ _
  have e3 := is_plain_row_ok (w := rows.length) fc hl μ
  rw [h] at e3
  have e4 : ∀ s : S, gLen s [.tup (rows.map Ri)] = some (.int (rows.length : Nat)) := fun s => by rw [len_tup, List.length_map]
  simp [pp4, e2, e3, e4, fc.no]
theorem ppH {a : D} {t : Int} {cs : List Int} (I : In w rows v) (hl : cs.length = rows.length) (hc : Bd 9000 cs) (ht : t.natAbs < 2 ^ 9000) : ∃ s, dSeq pp4 pp5 (Sp w rows v (.tup [a, .int t, Ri cs]) a4 a5 a6 μ) = .rt (.bl (decide (sm w cs rows = v.map fun x => t * x))) s ∧ s.μ = μ := by
  have h5 := I.w5
  have h6 := I.m6
  have e1 : ∀ s : S, gIx s (.tup [a, .int t, Ri cs]) (.int 1) = some (.int t) := fun s => ix_1 s _ _ _
  have e2 : ∀ s : S, gIx s (.tup [a, .int t, Ri cs]) (.int 2) = some (Ri cs) := fun s => ix_2 s _ _ _ _
  have e3 := is_plain_row_ok (w := rows.length) (ri_fine cs) (fun xs hx => by rw [ri_len cs xs hx]; omega) μ
  rw [rowB_ri, hl] at e3
  have e4 : ∀ s : S, gLen s [.tup (rows.map Ri)] = some (.int (rows.length : Nat)) := fun s => by rw [len_tup, List.length_map]
  have e5 : dSeq pp4 pp5 (Sp w rows v (.tup [a, .int t, Ri cs]) a4 a5 a6 μ) = pp5 (Sp w rows v (.tup [a, .int t, Ri cs]) a4 a5 a6 μ) := by
    refine seq_nx ?_
    simp [pp4, e2, e3, e4]
  have e6 : (dAsg 5 (dOp gMul (dTup (dCons (dC (.int (0))) dNil)) (dVar 0))) (Sp w rows v (.tup [a, .int t, Ri cs]) a4 a5 a6 μ) = .nx (Sp w rows v (.tup [a, .int t, Ri cs]) a4 (.val (Ri (List.replicate w 0))) a6 μ) := by
    have e7 : ∀ s : S, gMul s (.tup [.int 0]) (.int (w : Nat)) = some (.tup ((List.replicate w (0 : Int)).map .int)) := fun s => mulz s w (by omega)
    simp [-List.map_replicate, e7]
  obtain ⟨c4, c6, e8⟩ := sum_loop (.val (.int (w : Nat))) (.val (.tup (rows.map Ri))) (.val (Ri v)) (.val (.tup [a, .int t, Ri cs])) μ (show w ≤ 60 by omega) (by decide : 0 < 9000) (by decide : 0 < 11) (by decide) cs rows (List.replicate w 0) a4 a6 hc I.ro (by simp)
  have e9 := times_row_ok (by decide : 0 < 9000) (by decide : 0 < 14) (by decide) ht I.vb (by rw [I.vl]; omega) μ
  refine ⟨Sp w rows v (.tup [a, .int t, Ri cs]) c4 (.val (Ri (sm w cs rows))) c6 μ, ?_, rfl⟩
  rw [e5]
  unfold pp5
  rw [seq_nx e6]
  rw [seq_nx (by
    rw [forZp (d := Ri cs) (e := .tup (rows.map Ri)) (xs := cs.map .int) (ys := rows.map Ri) (by simp [e2]) rfl rfl]
    exact e8)]
  have e10 : ∀ s : S, eqS s (.tup ((sm w cs rows).map .int)) (.tup ((v.map fun x => t * x).map .int)) = some (.bl (decide (sm w cs rows = v.map fun x => t * x))) := fun s => eq_rr s _ _
  unfold sm at e10 ⊢
  simp [-List.map_map, e1, e9, e10, -eq_rr]
end
end K12

namespace K12
open PySem PySem.Spec PyProof.Rows L2 DL
section
variable {w : Nat} {rows : List (List Int)} {v : List Int} {μ : List Cell} {a4 a5 a6 a7 : DL.Slot}
theorem lpA {a : Str} {b : D} {g : FS} (fb : Fine b) (hb : ∀ xs, b = .tup xs → xs.length ≤ 16777216) (h : (a == ("apart" : Str)) = false ∨ rowB w b = false) : dSeq lp2 g (Sl w rows v (.tup [.str a, b]) a4 a5 a6 a7 μ) = .rt (.bl false) (Sl w rows v (.tup [.str a, b]) a4 a5 a6 a7 μ) := by
  have e1 : ∀ s : S, gIx s (.tup [.str a, b]) (.int 0) = some (.str a) := fun s => ix_0 s _ _
  have e2 : ∀ s : S, gIx s (.tup [.str a, b]) (.int 1) = some b := fun s => ix_1 s _ _ _
  have e0 := L_is_row_ok (w := w) fb hb μ
  cases ha : a == ("apart" : Str) with
  | false => simp [lp2, e1, ha, len_tup]
  | true =>
    rw [h.resolve_left (by rw [ha]; exact fun z => nomatch z)] at e0
    simp [lp2, e1, ha, len_tup, e2, e0, fb.no]
theorem dotsL_comp {y : List Int} {d : D} (e2 : ∀ s : S, gIx s d (.int 1) = some (Ri y)) (nd : noOwn d = true) (hy : Bd 9000 y) (hl : y.length ≤ 60) (a0 a1 a2 : DL.Slot) : ∀ m : List (List Int), (∀ o ∈ m, Bd 11 o) →
    dLcGo [7] (gNm 7) (dCmpT neS (dCall F_L_dot (dCons (dOp gIx (dVar 3) (dC (.int (1)))) (dCons (dVar 7) dNil))) (dC (.int (0)))) (dC (.int (1))) (m.map Ri) ⟨[a0, a1, a2, .val d, a4, a5, a6, .no], μ⟩ = .ok ((ones (fun r => !(dt y r == 0)) m).map .int) ⟨[a0, a1, a2, .val d, a4, a5, a6, .no], μ⟩
  | [], _ => rfl
  | o :: m, h => by
    have ih := dotsL_comp e2 nd hy hl a0 a1 a2 m fun p hp => h p (by simp [hp])
    have e := L_dot_ok (by decide : 0 < 9000) (by decide : 0 < 11) (by decide) hy (h o (by simp)) (by omega) μ
    rw [dt_eq] at e
    cases hz : dt y o == 0 with
    | true =>
      simp [-List.map_map, dLcGo, wipeD, backD, e2, e, ih, ones, hz]
    | false =>
      simp [-List.map_map, dLcGo, wipeD, backD, e2, e, ih, ones, hz]
theorem lpC {a : Str} {y : List Int} {g : FS} (I : In w rows v) (h : (a == ("apart" : Str)) = true) (hl : y.length = w) (hy : Bd 9000 y) : dSeq lp2 g (Sl w rows v (.tup [.str a, Ri y]) a4 a5 a6 .no μ) = .rt (.bl ((rows.all fun r => dt r y == 0) && !(dt v y == 0))) (Sl w rows v (.tup [.str a, Ri y]) a4 a5 a6 .no μ) := by
  have h5 := I.w5
  have h6 := I.m6
  have e1 : ∀ s : S, gIx s (.tup [.str a, Ri y]) (.int 0) = some (.str a) := fun s => ix_0 s _ _
  have e2 : ∀ s : S, gIx s (.tup [.str a, Ri y]) (.int 1) = some (Ri y) := fun s => ix_1 s _ _ _
  have e0 := L_is_row_ok (w := w) (ri_fine y) (fun xs hx => by rw [ri_len y xs hx]; omega) μ
  have hyw : (y.length == w) = true := by simpa using hl
  rw [rowB_ri, hyw] at e0
  have e3 := dotsL_comp (a4 := a4) (a5 := a5) (a6 := a6) (μ := μ) e2 rfl hy (by omega) (.val (.int (w : Nat))) (.val (.tup (rows.map Ri))) (.val (Ri v)) rows (fun o ho => (I.ro o ho).2)
  have e4 := L_dot_ok (by decide : 0 < 9000) (by decide : 0 < 14) (by decide) hy I.vb (by omega) μ
  rw [dt_eq] at e4
  have e5 := lc_ok (vs := [7]) (fi := dIter (dVar 1)) (g := gNm 7) (ft := dCmpT neS (dCall F_L_dot (dCons (dOp gIx (dVar 3) (dC (.int (1)))) (dCons (dVar 7) dNil))) (dC (.int (0)))) (fe := dC (.int (1))) (s := Sl w rows v (.tup [.str a, Ri y]) a4 a5 a6 .no μ) (ds := rows.map Ri) (by simp) (by simp; omega) rfl e3
  have e6 : ∀ s : S, eqS s (.lst ((ones (fun r => !(dt y r == 0)) rows).map .int)) (.lst []) = some (.bl (rows.all fun r => dt r y == 0)) := fun s => by
    rw [eq_l0, ones_nil]
    congr 2
    apply congrArg (List.all rows)
    funext r
    rw [Bool.not_not, dt_comm]
  rw [dt_comm v y]
  generalize (ones (fun r => !(dt y r == 0)) rows).map D.int = M at *
  cases hz : dt y v == 0 with
  | true => simp [-List.map_map, -ap_Lc, -ap_Iter, lp2, e1, h, len_tup, e2, e0, e4, hz]
  | false => simp [-List.map_map, -ap_Lc, -ap_Iter, lp2, e1, h, len_tup, e2, e0, e4, hz, e5, e6]
theorem lpD {x b c : D} {g : FS} (n1 : noOwn x = true) (n2 : noOwn b = true) (n3 : noOwn c = true) : dSeq lp2 (dSeq lp3 g) (Sl w rows v (.tup [x, b, c]) a4 a5 a6 a7 μ) = g (Sl w rows v (.tup [x, b, c]) (.val x) (.val b) (.val c) a7 μ) := by
  have e0 : lp2 (Sl w rows v (.tup [x, b, c]) a4 a5 a6 a7 μ) = .nx (Sl w rows v (.tup [x, b, c]) a4 a5 a6 a7 μ) := by
    have e1 : ∀ s : S, eqS s (.int (([x, b, c] : List D).length : Nat)) (.int 2) = some (.bl false) := fun s => by rw [eq_ii]; rfl
    simp only [lp2, ap_IfS, ap_CmpT, ap_B, ap_Cons, ap_Nil, ap_Var, List.getElem?_cons_succ, List.getElem?_cons_zero, bind_ok, len_tup, ap_C, e1, ap_Skip]
  rw [seq_nx e0]
  refine seq_nx ?_
  simp [lp3, dAsgG]
theorem lpE {a : Str} {b c d : D} {g : FS} (fb : Fine b) (h : (a == ("sum" : Str)) = false ∨ ∀ t : Int, b = .int t → t < 1) : dSeq lp4 g (Sl w rows v d (.val (.str a)) (.val b) (.val c) a7 μ) = .rt (.bl false) (Sl w rows v d (.val (.str a)) (.val b) (.val c) a7 μ) := by
  have e3 := L_is_number_ok fb μ
  have nb := fb.no
  cases hs : a == ("sum" : Str) with
  | false => simp [lp4, hs]
  | true =>
    have h := h.resolve_left (by rw [hs]; exact fun z => nomatch z)
    cases hi : isI b with
    | false => rw [hi] at e3; simp [lp4, hs, e3, nb]
    | true =>
      rw [hi] at e3
      have : ∃ t : Int, b = .int t := by cases b <;> first | exact ⟨_, rfl⟩ | simp [isI] at hi
      obtain ⟨t, rfl⟩ := this
      have h1 : decide (t < 1) = true := decide_eq_true (h t rfl)
      simp [lp4, hs, e3, h1]
theorem lpG {a : Str} {t : Int} {c d : D} {g : FS} (hm : rows.length ≤ 60) (hs : (a == ("sum" : Str)) = true) (ht : 1 ≤ t) (fc : Fine c) (hl : ∀ xs, c = .tup xs → xs.length ≤ 16777216) (h : rowB rows.length c = false) : dSeq lp4 g (Sl w rows v d (.val (.str a)) (.val (.int t)) (.val c) a7 μ) = .rt (.bl false) (Sl w rows v d (.val (.str a)) (.val (.int t)) (.val c) a7 μ) := by
  have e3 := L_is_number_ok (.int t) μ
  have e5 := L_is_row_ok (w := rows.length) fc hl μ
  rw [h] at e5
  have e4 : ∀ s : S, gLen s [.tup (rows.map Ri)] = some (.int (rows.length : Nat)) := fun s => by rw [len_tup, List.length_map]
  have h1 : decide (t < 1) = false := decide_eq_false (by omega)
  simp [lp4, hs, e3, h1, e4, e5, isI, fc.no]
theorem ret_eq {fa fb : FE} {s : S} {x y : D} {b : Bool} (h1 : fa s = .ok x s) (h2 : fb s = .ok y s) (h3 : eqS s x y = some (.bl b)) : dRet (dOp eqS fa fb) s = .rt (.bl b) s := by
  rw [ap_Ret, ap_Op, h1, bind_ok, h2, bind_ok, h3]
  rfl
theorem tup_lc {fc : FC} {s : S} {xs : List D} {d : D} (h : fc s = .ok (.lst xs) s) (h2 : gTuple s [.lst xs] = some d) : dB gTuple (dCons (dFrz fc) dNil) s = .ok d s := by
  rw [ap_B, ap_Cons, ap_Frz, h]
  simp only [bind_ok, ap_Nil, Cell.toD, h2]
theorem len2 {α : Type} {xs : List α} (h : xs.length = 2) : ∃ b c, xs = [b, c] := by
  match xs, h with
  | [b, c], _ => exact ⟨b, c, rfl⟩
theorem timesL_comp (a0 a1 a2 a3 a4 a6 : DL.Slot) {t : Int} (ht : t.natAbs < 2 ^ 9000) : ∀ xs : List Int, Bd 14 xs →
    dLcGo [7] (gNm 7) dYes (dOp gMul (dVar 5) (dVar 7)) (xs.map .int) ⟨[a0, a1, a2, a3, a4, .val (.int t), a6, .no], μ⟩ = .ok ((xs.map fun x => t * x).map .int) ⟨[a0, a1, a2, a3, a4, .val (.int t), a6, .no], μ⟩
  | [], _ => rfl
  | x :: xs, h => by
    have ih := timesL_comp a0 a1 a2 a3 a4 a6 ht xs fun y hy => h y (by simp [hy])
    have e := mulOk_of ht (h x (by simp)) (by decide) (by decide) (by decide)
    simp only [List.map_map] at ih
    simp [dLcGo, wipeD, backD, mul_ii e, ih]
theorem lpH {a : Str} {t : Int} {cs : List Int} {d : D} (I : In w rows v) (hs : (a == ("sum" : Str)) = true) (h1 : 1 ≤ t) (hl : cs.length = rows.length) (hc : Bd 9000 cs) (ht : t.natAbs < 2 ^ 9000) : dSeq lp4 lp5 (Sl w rows v d (.val (.str a)) (.val (.int t)) (.val (Ri cs)) .no μ) = .rt (.bl (decide (sm w cs rows = v.map fun x => t * x))) (Sl w rows v d (.val (.str a)) (.val (.int t)) (.val (Ri cs)) .no μ) := by
  have h5 := I.w5
  have h6 := I.m6
  have e3 := L_is_number_ok (.int t) μ
  have e5 := L_is_row_ok (w := rows.length) (ri_fine cs) (fun xs hx => by rw [ri_len cs xs hx]; omega) μ
  have hcw : (cs.length == rows.length) = true := by simpa using hl
  rw [rowB_ri, hcw] at e5
  have e4 : ∀ s : S, gLen s [.tup (rows.map Ri)] = some (.int (rows.length : Nat)) := fun s => by rw [len_tup, List.length_map]
  have h2 : decide (t < 1) = false := decide_eq_false (by omega)
  have e6 : dSeq lp4 lp5 (Sl w rows v d (.val (.str a)) (.val (.int t)) (.val (Ri cs)) .no μ) = lp5 (Sl w rows v d (.val (.str a)) (.val (.int t)) (.val (Ri cs)) .no μ) := by
    refine seq_nx ?_
    simp [lp4, hs, e3, h2, e4, e5, isI]
  have e7 := timesL_comp (μ := μ) (.val (.int (w : Nat))) (.val (.tup (rows.map Ri))) (.val (Ri v)) (.val d) (.val (.str a)) (.val (Ri cs)) ht v I.vb
  have e8 := lc_ok (vs := [7]) (fi := dIter (dVar 2)) (g := gNm 7) (ft := dYes) (fe := dOp gMul (dVar 5) (dVar 7)) (s := Sl w rows v d (.val (.str a)) (.val (.int t)) (.val (Ri cs)) .no μ) (ds := v.map .int) (by simp) (by rw [List.length_map, I.vl]; omega) rfl e7
  have e9 := L_summed_ok (w := w) (cs := cs) (rows := rows) (by omega) (by decide : 0 < 9000) (by decide : 0 < 11) (by decide) hc I.ro (dr := .tup (rows.map Ri)) (dc := Ri cs) (.inl rfl) (.inl rfl) μ
  have e10 : ∀ s : S, eqS s (.tup ((sm w cs rows).map .int)) (.tup ((v.map fun x => t * x).map .int)) = some (.bl (decide (sm w cs rows = v.map fun x => t * x))) := fun s => eq_rr s _ _
  have e11 : ∀ s : S, gTuple s [.lst ((v.map fun x => t * x).map .int)] = some (Ri (v.map fun x => t * x)) := fun s => tup_ints s _
  rw [e6]
  exact ret_eq (x := Ri (sm w cs rows)) (y := Ri (v.map fun x => t * x)) (call_ok (ds := [.int (w : Nat), .tup (rows.map Ri), Ri cs]) (by simp) rfl e9) (tup_lc e8 (e11 _)) (e10 _)
end
theorem eqb {a b : Str} (h : (a == b) = true) : a = b := by simpa using h
theorem apart_ne : (("apart" : Str) == ("sum" : Str)) = false := by decide
theorem is_span_run {w : Nat} {rows : List (List Int)} {v : List Int} (I : In w rows v) {d : D} (nd : noOwn d = true) {b : Bool} {s : S} {μ : List Cell} (h : dSeq pp1 (dSeq pp2 (dSeq pp3 (dSeq pp4 pp5))) (Sp w rows v d .no .no .no μ) = .rt (.bl b) s) (hs : s.μ = μ) : F_is_span_paper [.int (w : Nat), .tup (rows.map Ri), Ri v, d] μ = .ok (.bl b) μ := by
  have h5 := I.w5
  have h6 := I.m6
  have q1 := require_width_ok I.w1 (show w ≤ 60 by omega) μ
  have q2 := require_rows_ok (w := w) (m := rows) (fun o ho => (I.ro o ho).1) (by omega) (by omega) μ
  have q3 := require_row_ok (w := w) (xs := v) I.vl (by omega) μ
  have t : b_is_span_paper (Sp w rows v d .no .no .no μ) = .rt (.bl b) s := by
    rw [pp_split, seq_nx (drop_ok (call_ok (ds := [.int (w : Nat)]) (by simp) rfl q1)), seq_nx (drop_ok (call_ok (ds := [.int (w : Nat), .tup (rows.map Ri)]) (by simp) rfl q2)), seq_nx (drop_ok (call_ok (ds := [.int (w : Nat), Ri v]) (by simp) rfl q3))]
    exact h
  have := runF_rt (n := 7) (ds := [.int (w : Nat), .tup (rows.map Ri), Ri v, d]) t
  rw [hs] at this
  exact this
theorem L_is_run {w : Nat} {rows : List (List Int)} {v : List Int} {d : D} {b : Bool} {s : S} {μ : List Cell} (h : dSeq lp1 (dSeq lp2 (dSeq lp3 (dSeq lp4 lp5))) (Sl w rows v d .no .no .no .no μ) = .rt (.bl b) s) (hs : s.μ = μ) : F_L_is_paper [.int (w : Nat), .tup (rows.map Ri), Ri v, d] μ = .ok (.bl b) μ := by
  have t : b_L_is_paper (Sl w rows v d .no .no .no .no μ) = .rt (.bl b) s := by rw [lp_split]; exact h
  have := runF_rt (n := 8) (ds := [.int (w : Nat), .tup (rows.map Ri), Ri v, d]) t
  rw [hs] at this
  exact this
def AskB (w : Nat) (rows : List (List Int)) (v : List Int) (d : D) (μ : List Cell) (b : Bool) : Prop := F_is_span_paper [.int (w : Nat), .tup (rows.map Ri), Ri v, d] μ = .ok (.bl b) μ ∧ F_L_is_paper [.int (w : Nat), .tup (rows.map Ri), Ri v, d] μ = .ok (.bl b) μ
theorem ask_apart {w : Nat} {rows : List (List Int)} {v : List Int} (I : In w rows v) {a : Str} {y : List Int} (O : Okv (.tup [.str a, Ri y])) (h : (a == ("apart" : Str)) = true) (hl : y.length = w) (hy : Bd 9000 y) (μ : List Cell) : AskB w rows v (.tup [.str a, Ri y]) μ ((rows.all fun r => dt r y == 0) && !(dt v y == 0)) :=
  ⟨is_span_run I rfl (by rw [pp1_ok O]; exact ppC I h hl hy) rfl, L_is_run (by rw [lp1_c (.inl rfl) (fun s => ix_0 s _ _)]; exact lpC I h hl hy) rfl⟩
theorem ask_sum {w : Nat} {rows : List (List Int)} {v : List Int} (I : In w rows v) {a : Str} {t : Int} {cs : List Int} (O : Okv (.tup [.str a, .int t, Ri cs])) (h : (a == ("sum" : Str)) = true) (h1 : 1 ≤ t) (hl : cs.length = rows.length) (hc : Bd 9000 cs) (ht : t.natAbs < 2 ^ 9000) (μ : List Cell) : AskB w rows v (.tup [.str a, .int t, Ri cs]) μ (decide (sm w cs rows = v.map fun x => t * x)) := by
  have ha : (a == ("apart" : Str)) = false := by
    rw [eqb h]; decide
  obtain ⟨s, e1, e2⟩ := ppH (a := .str a) (a4 := .no) (a5 := .no) (a6 := .no) (μ := μ) I hl hc ht
  exact ⟨is_span_run I rfl (by rw [pp1_ok O, ppD (fun s => ix_0 s _ _) ha, ppF h h1]; exact e1) e2, L_is_run (by rw [lp1_c (.inr rfl) (fun s => ix_0 s _ _), lpD rfl rfl rfl]; exact lpH I h h1 hl hc ht) rfl⟩
theorem ask_ok {w : Nat} {rows : List (List Int)} {v : List Int} (I : In w rows v) {d : D} (O : Okv d) (μ : List Cell) : ∃ b, AskB w rows v d μ b := by
  have h6 := I.m6
  have nd := O.fine.no
  by_cases hd : ∃ a xs, d = .tup (.str a :: xs)
  · obtain ⟨a, xs, rfl⟩ := hd
    have hf := fine_mem O.fine
    cases ha : a == ("apart" : Str) with
    | true =>
      have hs : (a == ("sum" : Str)) = false := by rw [eqb ha]; exact apart_ne
      by_cases hx : xs.length = 1
      · obtain ⟨b, rfl⟩ := List.length_eq_one_iff.mp hx
        have fb := hf b (by simp)
        obtain ⟨o1, o2⟩ := O.two _ _ rfl
        cases hr : rowB w b with
        | false =>
          have e0 := is_plain_row_ok (w := w) fb o1 μ
          rw [hr] at e0
          exact ⟨false, is_span_run I nd (by rw [pp1_ok O]; exact ppB ha e0 fb.no) rfl, L_is_run (by rw [lp1_c (.inl rfl) (fun s => ix_0 s _ _)]; exact lpA fb o1 (.inr hr)) rfl⟩
        | true =>
          obtain ⟨y, rfl, hy⟩ := rowB_of hr
          exact ⟨_, ask_apart I O ha hy (o2 y rfl) μ⟩
      · refine ⟨false, is_span_run I nd (by rw [pp1_ok O]; exact ppA ha hx) rfl, ?_⟩
        by_cases h2 : xs.length = 2
        · obtain ⟨b, c, rfl⟩ := len2 h2
          exact L_is_run (by rw [lp1_c (.inr rfl) (fun s => ix_0 s _ _), lpD rfl (hf b (by simp)).no (hf c (by simp)).no]; exact lpE (hf b (by simp)) (.inl hs)) rfl
        · exact L_is_run (lp1_no O fun a' xs' e => by cases e; exact ⟨hx, h2⟩) rfl
    | false =>
      by_cases hx : xs.length = 2
      · obtain ⟨b, c, rfl⟩ := len2 hx
        have fb := hf b (by simp)
        have fc := hf c (by simp)
        obtain ⟨o1, o2, o3⟩ := O.three _ _ _ rfl
        have L1 : ∀ {r}, dSeq lp4 lp5 (Sl w rows v (.tup [.str a, b, c]) (.val (.str a)) (.val b) (.val c) .no μ) = r → dSeq lp1 (dSeq lp2 (dSeq lp3 (dSeq lp4 lp5))) (Sl w rows v (.tup [.str a, b, c]) .no .no .no .no μ) = r := fun h => by
          rw [lp1_c (.inr rfl) (fun s => ix_0 s _ _), lpD rfl fb.no fc.no]; exact h
        cases hs : a == ("sum" : Str) with
        | false => exact ⟨false, is_span_run I nd (by rw [pp1_ok O, ppD (fun s => ix_0 s _ _) ha]; exact ppD3 (.inl hs)) rfl, L_is_run (L1 (lpE fb (.inl hs))) rfl⟩
        | true =>
          by_cases ht : ∀ t : Int, b = .int t → t < 1
          · exact ⟨false, is_span_run I nd (by rw [pp1_ok O, ppD (fun s => ix_0 s _ _) ha]; exact ppE hs fb ht) rfl, L_is_run (L1 (lpE fb (.inr ht))) rfl⟩
          · have : ∃ t : Int, b = .int t ∧ 1 ≤ t := Classical.byContradiction fun hc => ht fun t e => by
              by_cases z : t < 1
              · exact z
              · exact absurd ⟨t, e, by omega⟩ hc
            obtain ⟨t, rfl, h1⟩ := this
            cases hr : rowB rows.length c with
            | false => exact ⟨false, is_span_run I nd (by rw [pp1_ok O, ppD (fun s => ix_0 s _ _) ha, ppF hs h1]; exact ppG (by omega) fc o2 hr) rfl, L_is_run (L1 (lpG (by omega) hs h1 fc o2 hr)) rfl⟩
            | true =>
              obtain ⟨cs, rfl, hc⟩ := rowB_of hr
              exact ⟨_, ask_sum I O hs h1 hc (o3 cs rfl) (o1 t rfl) μ⟩
      · refine ⟨false, is_span_run I nd (by rw [pp1_ok O, ppD (fun s => ix_0 s _ _) ha]; exact ppD3 (.inr hx)) rfl, ?_⟩
        by_cases h2 : xs.length = 1
        · obtain ⟨b, rfl⟩ := List.length_eq_one_iff.mp h2
          exact L_is_run (by rw [lp1_c (.inl rfl) (fun s => ix_0 s _ _)]; exact lpA (hf b (by simp)) (O.two _ _ rfl).1 (.inl ha)) rfl
        · exact L_is_run (lp1_no O fun a' xs' e => by cases e; exact ⟨h2, hx⟩) rfl
  · exact ⟨false, is_span_run I nd (pp1_no O fun a xs e => hd ⟨a, xs, e⟩) rfl, L_is_run (lp1_no O fun a xs e => absurd ⟨a, xs, e⟩ hd) rfl⟩
end K12

namespace K12
open PySem PySem.Spec PyProof.Rows L2 DL
/-! ### the dice -/
def Dc (k n : Nat) (μ : List Cell) : Prop := (∃ a b c : Int, μ[n]? = some (.lst [.int a, .int b, .int c]) ∧ 0 ≤ c ∧ c ≤ k) ∧ μ.all nLc = true
theorem Dc.mono {k j n : Nat} {μ : List Cell} (h : Dc k n μ) (hk : k ≤ j) : Dc j n μ := by
  obtain ⟨⟨a, b, c, h1, h2, h3⟩, h4⟩ := h
  exact ⟨⟨a, b, c, h1, h2, by omega⟩, h4⟩
theorem ix_ref {s : S} {n : Nat} {xs : List D} (h : s.μ[n]? = some (.lst xs)) (i : Int) : gIx s (.ref n) (.int i) = atI xs i := by
  show (asL s (.ref n)).bind _ = _
  simp [asL, cellAt, h]
theorem ix0 (a b c : D) : atI [a, b, c] 0 = some a := rfl
theorem ix1 (a b c : D) : atI [a, b, c] 1 = some b := rfl
theorem ix2 (a b c : D) : atI [a, b, c] 2 = some c := rfl
theorem set_ref {s : S} {n : Nat} {xs : List D} (h : s.μ[n]? = some (.lst xs)) (i : Int) (d : D) : gSetI s (.ref n) (.int i) d = (ixN xs.length i).map fun j => { s with μ := s.μ.set n (.lst (xs.set j d)) } := by
  simp [gSetI, mutAt, h, setAt]
theorem set0 {s : S} {n : Nat} {a b c : D} (h : s.μ[n]? = some (.lst [a, b, c])) (d : D) : gSetI s (.ref n) (.int 0) d = some { s with μ := s.μ.set n (.lst [d, b, c]) } := by rw [set_ref h]; rfl
theorem set2 {s : S} {n : Nat} {a b c : D} (h : s.μ[n]? = some (.lst [a, b, c])) (d : D) : gSetI s (.ref n) (.int 2) d = some { s with μ := s.μ.set n (.lst [a, b, d]) } := by rw [set_ref h]; rfl
theorem fmod_rng {a t : Int} (h : 0 < t) : 0 ≤ a.fmod t ∧ a.fmod t < t := ⟨Int.fmod_nonneg_of_pos a h, Int.fmod_lt_of_pos a h⟩
theorem small_of {a t : Int} {n : Nat} (h : 0 < t) (ht : t ≤ 2 ^ n) : (a.fmod t).natAbs < 2 ^ n := by
  obtain ⟨h1, h2⟩ := fmod_rng (a := a) h
  have : ((a.fmod t).natAbs : Int) < ((2 ^ n : Nat) : Int) := by push_cast; omega
  exact_mod_cast this

theorem all_set {μ : List Cell} {n : Nat} {c : Cell} (h : μ.all nLc = true) (hc : nLc c = true) : (μ.set n c).all nLc = true := by
  rw [List.all_eq_true] at h ⊢
  intro x hx
  rcases List.mem_or_eq_of_mem_set hx with h1 | rfl
  · exact h x h1
  · exact hc
theorem roll_ok {k n : Nat} {t : Int} {μ : List Cell} (h : Dc k n μ) (hk : k ≤ 100000) (h1 : 1 ≤ t) (h2 : t ≤ 65536) : ∃ (r : Nat) (μ' : List Cell), F_L_roll [.ref n, .int t] μ = .ok (.int r) μ' ∧ (r : Int) < t ∧ Dc (k + 1) n μ' := by
  obtain ⟨⟨a, b, c, e, hc0, hc1⟩, hnl⟩ := h
  have hn : n < μ.length := by
    rcases Nat.lt_or_ge n μ.length with z | z
    · exact z
    · rw [List.getElem?_eq_none z] at e; cases e
  have t0 : t ≠ 0 := by omega
  have tb : t.natAbs < 2 ^ 17 := by omega
  have fo : ∀ x, fdivOk x t = true := fun x => fdivOk_of t0 tb (by decide) (by decide)
  by_cases ha : 0 < a
  · obtain ⟨q1, q2⟩ := fmod_rng (a := a) (t := t) (by omega)
    obtain ⟨r, hr⟩ := Int.eq_ofNat_of_zero_le q1
    refine ⟨r, μ.set n (.lst [.int (a.fdiv t), .int b, .int c]), ?_, by omega, ⟨⟨a.fdiv t, b, c, by simp [hn], hc0, by omega⟩, all_set hnl rfl⟩⟩
    have hs := hr.symm
    simp [F_L_roll, b_L_roll, runF, ix_ref (s := ⟨_, μ⟩) e, ix0, ix1, ix2, ha, mod_ii t0, fdiv_ii (fo a), dSetI, set0 (s := ⟨_, μ⟩) e, gInt, hr]
  · let μ1 := μ.set n (.lst [.int a, .int b, .int (c + 1)])
    have e1 : μ1[n]? = some (.lst [.int a, .int b, .int (c + 1)]) := by simp [μ1, hn]
    have hnl1 : μ1.all nLc = true := all_set hnl rfl
    have cb : (c + 1).natAbs < 2 ^ 20 := by omega
    have m1 : mulOk 49979687 (c + 1) = true := mulOk_of (n := 30) (m := 20) (by decide) cb (by decide) (by decide) (by decide)
    have m2 : mulOk 131 (c + 1) = true := mulOk_of (n := 30) (m := 20) (by decide) cb (by decide) (by decide) (by decide)
    let x := (b + 49979687 * (c + 1)).fmod 2305843009213693951
    have xb : x.natAbs < 2 ^ 61 := small_of (by decide) (by decide)
    have m3 : mulOk x x = true := mulOk_of xb xb (by decide) (by decide) (by decide)
    let y := (x * x + 131 * (c + 1)).fmod 2305843009213693921
    have yb : y.natAbs < 2 ^ 61 := small_of (by decide) (by decide)
    have m4 : mulOk y 32452843 = true := mulOk_of (n := 61) (m := 30) yb (by decide) (by decide) (by decide) (by decide)
    have f1 : ∀ z, fdivOk z 65587 = true := fun z => fdivOk_of (n := 20) (by decide) (by decide) (by decide) (by decide)
    obtain ⟨q1, q2⟩ := fmod_rng (a := (y * 32452843 + x).fdiv 65587) (t := t) (by omega)
    obtain ⟨r, hr⟩ := Int.eq_ofNat_of_zero_le q1
    refine ⟨r, μ1, ?_, by omega, ⟨⟨a, b, c + 1, e1, by omega, by omega⟩, hnl1⟩⟩
    have hs := hr.symm
    have ex : (b + 49979687 * (c + 1)).fmod 2305843009213693951 = x := rfl
    have ey : (x * x + 131 * (c + 1)).fmod 2305843009213693921 = y := rfl
    have eμ : μ.set n (.lst [.int a, .int b, .int (c + 1)]) = μ1 := rfl
    clear_value x y μ1
    simp [F_L_roll, b_L_roll, runF, ix_ref (s := ⟨_, μ⟩) e, ix0, ix1, ix2, ha, mod_ii t0, dSetI, set2 (s := ⟨_, μ⟩) e, gInt, ix_ref (s := ⟨_, μ1⟩) e1, mul_ii m1, mul_ii m2, mod_ii, mul_ii m3, mul_ii m4, fdiv_ii (f1 _), hr, ex, ey, eμ]
theorem pick_okD {k n : Nat} {xs : List D} {μ : List Cell} (h : Dc k n μ) (hk : k ≤ 100000) (h1 : 1 ≤ xs.length) (h2 : xs.length ≤ 65536) (hno : ∀ x ∈ xs, noOwn x = true) : ∃ x ∈ xs, ∃ μ', F_L_pick [.ref n, .lst xs] μ = .ok x μ' ∧ Dc (k + 1) n μ' := by
  obtain ⟨r, μ', e, hr, d⟩ := roll_ok (t := (xs.length : Int)) h hk (by omega) (by omega)
  have hl : xs.length ≤ 16777216 := by omega
  have hr : r < xs.length := by omega
  have ei : ∀ s : S, gIx s (.lst xs) (.int (r : Int)) = some xs[r] := fun s => by simp [gIx, L2.atI, L2.ixN, hr]
  refine ⟨xs[r], List.getElem_mem hr, μ', ?_, d⟩
  have hn := hno _ (List.getElem_mem hr)
  simp [F_L_pick, b_L_pick, runF, gLen, hl, e, ei, hn]
/-- so many rolls, each less 2 -/
theorem rolls_gen {v n : Nat} (hv : 0 < v) : ∀ (ds : List D) (s : S) (k : Nat), s.δ[0]? = some (.val (.ref n)) → v < s.δ.length → Dc k n s.μ → k + ds.length ≤ 100000 → ∃ (cs : List Int) (μ' : List Cell), cs.length = ds.length ∧ (∀ c ∈ cs, c.natAbs ≤ 2) ∧ Dc (k + ds.length) n μ' ∧
    dLcGo [v] (gNm v) dYes (dOp gSub (dCall F_L_roll (dCons (dVar 0) (dCons (dC (.int (5))) dNil))) (dC (.int (2)))) ds s = .ok (cs.map .int) { s with μ := μ' }
  | [], s, k, _, _, h, _ => ⟨[], s.μ, rfl, by simp, h, rfl⟩
  | d :: ds, s, k, h0, hl, h, hk => by
    rw [List.length_cons] at hk
    obtain ⟨r, μ1, e1, hr, h1⟩ := roll_ok (t := 5) h (by omega) (by decide) (by decide)
    obtain ⟨cs, μ', l1, l2, l3, e2⟩ := rolls_gen (n := n) hv ds { s with μ := μ1 } (k + 1) h0 hl h1 (by omega)
    refine ⟨((r : Int) - 2) :: cs, μ', by simp [l1], fun c hc => ?_, by rw [List.length_cons, show k + (ds.length + 1) = k + 1 + ds.length by omega]; exact l3, ?_⟩
    · rcases List.mem_cons.mp hc with rfl | hc
      · omega
      · exact l2 c hc
    · have g0 : ((s.δ.set v .no).set v (.val d))[0]? = some (.val (.ref n)) := by
        rw [List.getElem?_set_ne (by omega), List.getElem?_set_ne (by omega), h0]
      have gv : s.δ[v]? = some (s.δ[v]'hl) := List.getElem?_eq_getElem hl
      have gb : ((s.δ.set v .no).set v (.val d)).set v (s.δ[v]'hl) = s.δ := by
        rw [List.set_set, List.set_set, List.set_getElem_self]
      simp only [dLcGo, wipeD, backD, ap_gNm, ap_Yes, ap_Op, ap_Call, ap_Cons, ap_Nil, ap_Var, ap_C, g0, bind_ok, List.all_cons, List.all_nil, no_ref, no_int, Bool.and_self, if_true, e1, sub_ii, gv, gb]
      rw [e2]
      rfl
/-! ### rows drawn -/
def tot : List (List Int) → Nat → Nat
  | [], _ => 0
  | r :: rows, j => (at0 r j).natAbs + tot rows j
theorem dt_tot (j : Nat) : ∀ (cs : List Int) (rows : List (List Int)), (∀ c ∈ cs, c.natAbs ≤ 2) → (dt cs (col rows j)).natAbs ≤ 2 * tot rows j
  | [], rows, _ => by simp
  | c :: cs, [], _ => by simp [col, tot]
  | c :: cs, r :: rows, h => by
    have ih := dt_tot j cs rows fun x hx => h x (by simp [hx])
    have h1 := h c (by simp)
    show (dt (c :: cs) (at0 r j :: col rows j)).natAbs ≤ 2 * ((at0 r j).natAbs + tot rows j)
    rw [dt_cons]
    have h2 : (c * at0 r j).natAbs ≤ 2 * (at0 r j).natAbs := by rw [Int.natAbs_mul]; exact Nat.mul_le_mul_right _ h1
    omega
theorem tot_app (rows : List (List Int)) (r : List Int) (j : Nat) : tot (rows ++ [r]) j = tot rows j + (at0 r j).natAbs := by
  induction rows with
  | nil => simp [tot]
  | cons x rows ih => rw [List.cons_append, tot, tot, ih]; omega
def TT : Nat → Nat
  | 0 => 0
  | k + 1 => 3 * TT k + 7
structure Dr (w k : Nat) (fs : List (List Int)) : Prop where
  len : fs.length = k
  ro : ∀ o ∈ fs, o.length = w ∧ Bd 11 o
  tt : ∀ j, tot fs j ≤ TT k
theorem tt_le : ∀ k ≤ 5, 2 * TT k < 2 ^ 11 := by decide
theorem Dr.add {w k : Nat} {fs : List (List Int)} (h : Dr w k fs) (hk : k ≤ 5) {r : List Int} (hl : r.length = w) (hr : ∀ j, (at0 r j).natAbs ≤ max 7 (2 * TT k)) : Dr w (k + 1) (fs ++ [r]) := by
  refine ⟨by simp [h.len], fun o ho => ?_, fun j => ?_⟩
  · rcases List.mem_append.mp ho with ho | ho
    · exact h.ro o ho
    · simp at ho; subst ho
      refine ⟨hl, fun x hx => ?_⟩
      obtain ⟨i, hi, rfl⟩ := List.getElem_of_mem hx
      have := hr i
      rw [at0_lt hi] at this
      have := tt_le k hk
      have : 7 < 2 ^ 11 := by decide
      omega
  · rw [tot_app]
    have := h.tt j
    have := hr j
    show _ ≤ 3 * TT k + 7
    omega
def drs : List Int := [0, 0, 1, -1, 2, -3, 7]
theorem picks_comp (n : Nat) (a1 a2 a3 a4 a5 a6 : DL.Slot) : ∀ (ds : List D) (k : Nat) (μ : List Cell), Dc k n μ → k + ds.length ≤ 100000 → ∃ (xs : List Int) (μ' : List Cell), xs.length = ds.length ∧ (∀ x ∈ xs, x.natAbs ≤ 7) ∧ Dc (k + ds.length) n μ' ∧
    dLcGo [7] (gNm 7) dYes (dCall F_L_pick (dCons (dVar 0) (dCons (dFrz (dLst (dCons (dC (.int (0))) (dCons (dC (.int (0))) (dCons (dC (.int (1))) (dCons (dNeg (dC (.int (1)))) (dCons (dC (.int (2))) (dCons (dNeg (dC (.int (3)))) (dCons (dC (.int (7))) dNil))))))))) dNil))) ds ⟨[.val (.ref n), a1, a2, a3, a4, a5, a6, .no, .no], μ⟩ = .ok (xs.map .int) ⟨[.val (.ref n), a1, a2, a3, a4, a5, a6, .no, .no], μ'⟩
  | [], k, μ, h, _ => ⟨[], μ, rfl, by simp, h, rfl⟩
  | d :: ds, k, μ, h, hk => by
    rw [List.length_cons] at hk
    obtain ⟨x, hx, μ1, e1, h1⟩ := pick_okD (xs := drs.map .int) h (by omega) (by decide) (by decide) (fun x hx => by obtain ⟨i, _, rfl⟩ := List.mem_map.mp hx; rfl)
    obtain ⟨i, hi, rfl⟩ := List.mem_map.mp hx
    obtain ⟨xs, μ', l1, l2, l3, e2⟩ := picks_comp n a1 a2 a3 a4 a5 a6 ds (k + 1) μ1 h1 (by omega)
    refine ⟨i :: xs, μ', by simp [l1], fun y hy => ?_, by rw [List.length_cons, show k + (ds.length + 1) = k + 1 + ds.length by omega]; exact l3, ?_⟩
    · rcases List.mem_cons.mp hy with rfl | hy
      · simp only [drs, List.mem_cons, List.not_mem_nil, or_false] at hi
        omega
      · exact l2 y hy
    · have ec : (drs.map D.int) = [.int 0, .int 0, .int 1, .int (-1), .int 2, .int (-3), .int 7] := rfl
      rw [ec] at e1
      simp [dLcGo, wipeD, backD, e1, e2]
end K12

namespace K12
open PySem PySem.Spec PyProof.Rows L2 DL
theorem lend_ok {i : Nat} {f : FE} {s : S} {xs : List D} {d : D} {μ' : List Cell} (h1 : s.δ[i]? = some (.own (.lst xs))) (h2 : f { s with δ := s.δ.set i (.val (.lst xs)) } = .ok d ⟨s.δ.set i (.val (.lst xs)), μ'⟩) (nd : nL d = true) (nμ : μ'.all nLc = true) (nδ : (s.δ.set i .no).all nLl = true) : dLend i f s = .ok d { s with μ := μ' } := by
  have hi : i < s.δ.length := by
    rcases Nat.lt_or_ge i s.δ.length with z | z
    · exact z
    · rw [List.getElem?_eq_none z] at h1; cases h1
  have g1 : (s.δ.set i (.val (.lst xs)))[i]? = some (.val (.lst xs)) := by rw [List.getElem?_set_self hi]
  have g2 : s.δ[i]'hi = .own (.lst xs) := by
    rw [List.getElem?_eq_getElem hi] at h1
    exact Option.some.inj h1
  have g3 : s.δ.set i (.own (.lst xs)) = s.δ := by rw [← g2, List.set_getElem_self]
  unfold dLend
  rw [h1]
  simp only [h2, List.set_set, g1, nd, nμ, nδ, isVL, Bool.and_self, if_true, g3]
theorem lc_okμ {vs : List Nat} {fi : FA} {g : FG} {ft : FT} {fe : FE} {s s2 : S} {ds ys : List D} (h1 : fi s = .ok ds s) (h2 : ds.length ≤ 16777216) (h3 : vs.all (fun v => !isOwn s.δ v) = true) (h4 : dLcGo vs g ft fe ds s = .ok ys s2) : dLc vs fi g ft fe s = .ok (.lst ys) s2 := by
  rw [ap_Lc, h1, bind_ok, if_pos (by rw [h3, Bool.and_true]; exact decide_eq_true h2), h4]
theorem call_okμ {F : FF} {fa : FA} {s s1 : S} {ds : List D} {d : D} {μ' : List Cell} (h : fa s = .ok ds s1) (hn : ds.all noOwn = true) (e : F ds s1.μ = .ok d μ') : dCall F fa s = .ok d { s1 with μ := μ' } := by
  rw [ap_Call, h, bind_ok]
  simp only [hn, e, if_true]
theorem asg_okμ {i : Nat} {fa : FE} {s s1 : S} {d : D} (h : fa s = .ok d s1) (hn : noOwn d = true) : dAsg i fa s = .nx { s1 with δ := s1.δ.set i (.val d) } := by
  rw [ap_Asg, h]
  simp only [hn, if_true]
theorem frzE_ok {fc : FC} {s s1 : S} {xs : List D} (h : fc s = .ok (.lst xs) s1) : dFrz fc s = .ok (.lst xs) s1 := by
  rw [ap_Frz, h]; rfl
theorem var_ok {i : Nat} {s : S} {d : D} (h : s.δ[i]? = some (.val d)) : dVar i s = .ok d s := by rw [ap_Var, h]
theorem cons_ok {fa : FE} {fr : FA} {s s1 s2 : S} {d : D} {ds : List D} (h1 : fa s = .ok d s1) (h2 : fr s1 = .ok ds s2) : dCons fa fr s = .ok (d :: ds) s2 := by
  rw [ap_Cons, h1, bind_ok, h2, bind_ok]
theorem b_ok {g : S → List D → Option D} {fa : FA} {s s1 : S} {ds : List D} {d : D} (h : fa s = .ok ds s1) (e : g s1 ds = some d) : dB g fa s = .ok d s1 := by
  rw [ap_B, h, bind_ok, e]
theorem py_rows : ∀ fs : List (List Int), toPyL (fs.map Ri) = some (fs.map fun r => .tuple (r.map .int))
  | [] => rfl
  | r :: fs => by simp [toPyL, toPy, py_ints, py_rows fs]
theorem sh_rows (fs : List (List Int)) : SeqAt.shaped (.list (fs.map fun r => .tuple (r.map .int))) = true := by
  have h1 : PyData.canLayAll0 (fs.map fun r => .tuple (r.map .int)) = true := by
    induction fs with
    | nil => simp [PyData.canLayAll0]
    | cons r fs ih => simp only [List.map_cons, PyData.canLayAll0, PyData.canLay0, can_ints, ih, Bool.and_self]
  have h2 : PyData.depthAll (fs.map fun r => .tuple (r.map .int)) ≤ 1 := by
    induction fs with
    | nil => simp [PyData.depthAll]
    | cons r fs ih =>
      simp only [List.map_cons, PyData.depthAll, PyData.depth, depth_ints]
      have := ih (by
        simp only [List.map_cons, PyData.canLayAll0, Bool.and_eq_true] at h1
        exact h1.2)
      omega
  unfold SeqAt.shaped
  simp only [PyData.canLay0, h1, PyData.depth, Bool.true_and]
  exact decide_eq_true (Nat.le_trans (Nat.succ_le_succ h2) (show 1 + 1 ≤ 64 by decide))
theorem ne_own {s : S} {i : Nat} {fs : List (List Int)} (h : s.δ[i]? = some (.own (.lst (fs.map Ri)))) : neS s (.own i) (.lst []) = some (.bl (!fs.isEmpty)) := by
  have e1 : toPyS s (.own i) = some (.list (fs.map fun r => .tuple (r.map .int))) := by
    simp only [toPyS, asL, cellAt, h, Option.bind_some, py_rows, Option.map_some]
  have e2 : toPyS s (.lst []) = some (.list []) := rfl
  have h2 : SeqAt.shaped (.list []) = true := rfl
  simp only [neS, twoStr, gDat, e1, e2, neG, sh_rows, h2, Bool.and_self, if_true, Option.map_some]
  cases fs with
  | nil => rfl
  | cons r fs => rfl
abbrev Sr (n w m : Nat) (fs : List (List Int)) (c4 c5 c6 : DL.Slot) (μ : List Cell) : S := ⟨[.val (.ref n), .val (.int (w : Nat)), .val (.int (m : Nat)), .own (.lst (fs.map Ri)), c4, c5, c6, .no, .no], μ⟩
theorem dr1 {n w m k : Nat} {fs : List (List Int)} {c4 c5 c6 : DL.Slot} {μ : List Cell} (h : Dc k n μ) (hk : k ≤ 90000) : ∃ (r : Nat) (μ' : List Cell), r < 5 ∧ Dc (k + 1) n μ' ∧ (dAsg 5 (dCall F_L_roll (dCons (dVar 0) (dCons (dC (.int (5))) dNil)))) (Sr n w m fs c4 c5 c6 μ) = .nx (Sr n w m fs c4 (.val (.int (r : Nat))) c6 μ') := by
  obtain ⟨r, μ', e, hr, d⟩ := roll_ok (t := 5) h (by omega) (by decide) (by decide)
  refine ⟨r, μ', by omega, d, ?_⟩
  rw [asg_okμ (call_okμ (s1 := Sr n w m fs c4 c5 c6 μ) (ds := [.ref n, .int 5]) (by simp) rfl e) rfl]
  rfl
theorem dr2 {n w m k : Nat} {fs : List (List Int)} {c4 c5 c6 : DL.Slot} {μ : List Cell} (h : Dc k n μ) (hw : w ≤ 5) (hk : k ≤ 90000) : ∃ (xs : List Int) (μ' : List Cell), xs.length = w ∧ (∀ x ∈ xs, x.natAbs ≤ 7) ∧ Dc (k + w) n μ' ∧ (dAsg 6 (dB gTuple (dCons (dFrz (dLc [7] (dRng1 (dCons (dVar 1) dNil)) (gNm 7) dYes (dCall F_L_pick (dCons (dVar 0) (dCons (dFrz (dLst (dCons (dC (.int (0))) (dCons (dC (.int (0))) (dCons (dC (.int (1))) (dCons (dNeg (dC (.int (1)))) (dCons (dC (.int (2))) (dCons (dNeg (dC (.int (3)))) (dCons (dC (.int (7))) dNil))))))))) dNil))))) dNil))) (Sr n w m fs c4 c5 c6 μ) = .nx (Sr n w m fs c4 c5 (.val (Ri xs)) μ') := by
  obtain ⟨xs, μ', l1, l2, l3, e⟩ := picks_comp n (.val (.int (w : Nat))) (.val (.int (m : Nat))) (.own (.lst (fs.map Ri))) c4 c5 c6 (rngD 0 w) k μ h (by rw [rng_len]; omega)
  rw [rng_len] at l1 l3
  refine ⟨xs, μ', l1, l2, l3, ?_⟩
  have e1 : dRng1 (dCons (dVar 1) dNil) (Sr n w m fs c4 c5 c6 μ) = .ok (rngD 0 w) (Sr n w m fs c4 c5 c6 μ) := by
    have := rng_gen (fa := dCons (dVar 1) dNil) (s := Sr n w m fs c4 c5 c6 μ) (s1 := Sr n w m fs c4 c5 c6 μ) (j := (w : Int)) (by simp) (small_w (by omega))
    rw [this, Int.toNat_natCast]
  have e2 := lc_okμ (vs := [7]) e1 (by rw [rng_len]; omega) rfl e
  refine (asg_okμ (i := 6) (s1 := Sr n w m fs c4 c5 c6 μ') (d := Ri xs) (b_ok (cons_ok (frzE_ok e2) rfl) (tup_ints _ xs)) rfl).trans ?_
  rfl
theorem dr3 {n w m k j0 : Nat} {fs : List (List Int)} {c4 : DL.Slot} {xs : List Int} {r : Nat} {μ : List Cell} (D0 : Dr w j0 fs) (hj0 : j0 ≤ 6) (h : Dc k n μ) (hw : w ≤ 5) (hk : k ≤ 90000) (hx : xs.length = w) (hb : ∀ x ∈ xs, x.natAbs ≤ 7) (n4 : nLl c4 = true) : ∃ (ys : List Int) (μ' : List Cell), ys.length = w ∧ (∀ j, (at0 ys j).natAbs ≤ max 7 (2 * TT j0)) ∧ Dc (k + 6) n μ' ∧
    (dIfS (dCmpT eqS (dVar 5) (dC (.int (0)))) (dAsg 6 (dOp gMul (dTup (dCons (dC (.int (0))) dNil)) (dVar 1))) (dIfS (dAndT (dCmpT gLt (dVar 5) (dC (.int (3)))) (dCmpT neS (dVar 3) (dFrz (dLst dNil)))) (dAsg 6 (dLend 3 (dCall F_L_summed (dCons (dVar 1) (dCons (dVar 3) (dCons (dFrz (dLc [8] (dIter (dVar 3)) (gNm 8) dYes (dOp gSub (dCall F_L_roll (dCons (dVar 0) (dCons (dC (.int (5))) dNil))) (dC (.int (2)))))) dNil)))))) dSkip)) (Sr n w m fs c4 (.val (.int (r : Nat))) (.val (Ri xs)) μ) = .nx (Sr n w m fs c4 (.val (.int (r : Nat))) (.val (Ri ys)) μ') := by
  have old : ∀ j, (at0 xs j).natAbs ≤ max 7 (2 * TT j0) := fun j => by
    by_cases hj : j < xs.length
    · rw [at0_lt hj]
      have := hb _ (List.getElem_mem hj)
      omega
    · rw [at0_ge (by omega)]; simp
  by_cases hr : r = 0
  · subst hr
    refine ⟨List.replicate w 0, μ, by simp, fun j => by rw [at0_rep]; simp, h.mono (by omega), ?_⟩
    have e7 : ∀ s : S, gMul s (.tup [.int 0]) (.int (w : Nat)) = some (.tup ((List.replicate w (0 : Int)).map .int)) := fun s => mulz s w (by omega)
    have e8 : (dOp gMul (dTup (dCons (dC (.int (0))) dNil)) (dVar 1)) (Sr n w m fs c4 (.val (.int ((0 : Nat) : Int))) (.val (Ri xs)) μ) = .ok (Ri (List.replicate w 0)) (Sr n w m fs c4 (.val (.int ((0 : Nat) : Int))) (.val (Ri xs)) μ) := by simp [-List.map_replicate, e7]
    rw [ap_IfS]
    have e9 : (dCmpT eqS (dVar 5) (dC (.int (0)))) (Sr n w m fs c4 (.val (.int ((0 : Nat) : Int))) (.val (Ri xs)) μ) = .ok true (Sr n w m fs c4 (.val (.int ((0 : Nat) : Int))) (.val (Ri xs)) μ) := by simp
    rw [e9]
    simp only []
    rw [asg_okμ e8 rfl]
    rfl
  · have e9 : (dCmpT eqS (dVar 5) (dC (.int (0)))) (Sr n w m fs c4 (.val (.int (r : Nat))) (.val (Ri xs)) μ) = .ok false (Sr n w m fs c4 (.val (.int (r : Nat))) (.val (Ri xs)) μ) := by
      have : ((r : Int) == 0) = false := by simp; omega
      simp [this]
    rw [ap_IfS, e9]
    simp only []
    have en : ∀ s : S, s.δ[3]? = some (.own (.lst (fs.map Ri))) → neS s (.own 3) (.lst []) = some (.bl (!fs.isEmpty)) := fun s hs => ne_own hs
    by_cases hc : r < 3 ∧ fs.isEmpty = false
    · have e10 : (dAndT (dCmpT gLt (dVar 5) (dC (.int (3)))) (dCmpT neS (dVar 3) (dFrz (dLst dNil)))) (Sr n w m fs c4 (.val (.int (r : Nat))) (.val (Ri xs)) μ) = .ok true (Sr n w m fs c4 (.val (.int (r : Nat))) (.val (Ri xs)) μ) := by
        have h3 : decide ((r : Int) < 3) = true := decide_eq_true (by omega)
        have e11 := en (Sr n w m fs c4 (.val (.int (r : Nat))) (.val (Ri xs)) μ) rfl
        rw [hc.2] at e11
        simp [-List.map_map, h3, e11]
      rw [ap_IfS, e10]
      simp only []
      obtain ⟨cs, μ', l1, l2, l3, e12⟩ := rolls_gen (v := 8) (n := n) (by decide) (fs.map Ri) ⟨[.val (.ref n), .val (.int (w : Nat)), .val (.int (m : Nat)), .val (.lst (fs.map Ri)), c4, .val (.int (r : Nat)), .val (Ri xs), .no, .no], μ⟩ k rfl (by simp) h (by rw [List.length_map, D0.len]; omega)
      have hcb : Bd 2 cs := fun c hc => by have := l2 c hc; omega
      have e13 := L_summed_ok (w := w) (cs := cs) (rows := fs) (by omega) (by decide : 0 < 2) (by decide : 0 < 11) (by decide) hcb D0.ro (dr := .lst (fs.map Ri)) (dc := .lst (cs.map .int)) (.inr rfl) (.inr rfl) μ'
      have e14 := lc_okμ (vs := [8]) (fi := dIter (dVar 3)) (g := gNm 8) (ft := dYes) (ds := fs.map Ri) (s := ⟨[.val (.ref n), .val (.int (w : Nat)), .val (.int (m : Nat)), .val (.lst (fs.map Ri)), c4, .val (.int (r : Nat)), .val (Ri xs), .no, .no], μ⟩) (iter_ok (d := .lst (fs.map Ri)) (by simp) rfl) (by rw [List.length_map, D0.len]; omega) rfl e12
      have e15 : dCall F_L_summed (dCons (dVar 1) (dCons (dVar 3) (dCons (dFrz (dLc [8] (dIter (dVar 3)) (gNm 8) dYes (dOp gSub (dCall F_L_roll (dCons (dVar 0) (dCons (dC (.int (5))) dNil))) (dC (.int (2)))))) dNil))) ⟨[.val (.ref n), .val (.int (w : Nat)), .val (.int (m : Nat)), .val (.lst (fs.map Ri)), c4, .val (.int (r : Nat)), .val (Ri xs), .no, .no], μ⟩ = .ok (Ri (sm w cs fs)) ⟨[.val (.ref n), .val (.int (w : Nat)), .val (.int (m : Nat)), .val (.lst (fs.map Ri)), c4, .val (.int (r : Nat)), .val (Ri xs), .no, .no], μ'⟩ :=
        call_okμ (ds := [.int (w : Nat), .lst (fs.map Ri), .lst (cs.map .int)]) (cons_ok (var_ok rfl) (cons_ok (var_ok rfl) (cons_ok (frzE_ok e14) rfl))) rfl e13
      refine ⟨sm w cs fs, μ', sm_len (fun o ho => (D0.ro o ho).1), fun j => ?_, l3.mono (by rw [List.length_map, D0.len]; omega), ?_⟩
      · unfold sm
        rw [(smF_at (w := w) j (fun o ho => (D0.ro o ho).1) (by simp)).1, at0_rep]
        have := dt_tot j cs fs l2
        have := D0.tt j
        omega
      · have e16 := lend_ok (i := 3) (s := Sr n w m fs c4 (.val (.int (r : Nat))) (.val (Ri xs)) μ) (xs := fs.map Ri) rfl e15 (by simp) l3.2 (by simp [n4])
        rw [asg_okμ e16 rfl]
        rfl
    · have e10 : (dAndT (dCmpT gLt (dVar 5) (dC (.int (3)))) (dCmpT neS (dVar 3) (dFrz (dLst dNil)))) (Sr n w m fs c4 (.val (.int (r : Nat))) (.val (Ri xs)) μ) = .ok false (Sr n w m fs c4 (.val (.int (r : Nat))) (.val (Ri xs)) μ) := by
        by_cases h3 : r < 3
        · have h4 : decide ((r : Int) < 3) = true := decide_eq_true (by omega)
          have h5 : fs.isEmpty = true := by
            cases he : fs.isEmpty with
            | true => rfl
            | false => exact absurd ⟨h3, he⟩ hc
          have e11 := en (Sr n w m fs c4 (.val (.int (r : Nat))) (.val (Ri xs)) μ) rfl
          rw [h5] at e11
          simp [-List.map_map, h4, e11]
        · have h4 : decide ((r : Int) < 3) = false := decide_eq_false (by omega)
          simp [-List.map_map, h4]
      rw [ap_IfS, e10]
      exact ⟨xs, μ, hx, old, h.mono (by omega), rfl⟩
end K12

namespace K12
open PySem PySem.Spec PyProof.Rows L2 DL
def drB : FS := (dSeq (dAsg 5 (dCall F_L_roll (dCons (dVar 0) (dCons (dC (.int (5))) dNil))))
    (dSeq (dAsg 6 (dB gTuple (dCons (dFrz (dLc [7] (dRng1 (dCons (dVar 1) dNil)) (gNm 7) dYes (dCall F_L_pick (dCons (dVar 0) (dCons (dFrz (dLst (dCons (dC (.int (0))) (dCons (dC (.int (0))) (dCons (dC (.int (1))) (dCons (dNeg (dC (.int (1)))) (dCons (dC (.int (2))) (dCons (dNeg (dC (.int (3)))) (dCons (dC (.int (7))) dNil))))))))) dNil))))) dNil)))
    (dSeq (dIfS (dCmpT eqS (dVar 5) (dC (.int (0)))) (dAsg 6 (dOp gMul (dTup (dCons (dC (.int (0))) dNil)) (dVar 1))) (dIfS (dAndT (dCmpT gLt (dVar 5) (dC (.int (3)))) (dCmpT neS (dVar 3) (dFrz (dLst dNil)))) (dAsg 6 (dLend 3 (dCall F_L_summed (dCons (dVar 1) (dCons (dVar 3) (dCons (dFrz (dLc [8] (dIter (dVar 3)) (gNm 8) dYes (dOp gSub (dCall F_L_roll (dCons (dVar 0) (dCons (dC (.int (5))) dNil))) (dC (.int (2)))))) dNil)))))) dSkip))
    (dDrop (dM "list" gAppend (dVar 3) (dCons (dVar 6) dNil))))))
theorem dr_split : b_L_rw_drawn = (dSeq (dAsgO 3 (dLst dNil)) (dSeq (dForI (dRng1 (dCons (dVar 2) dNil)) (gNm 4) drB) (dRetF (dTake 3)))) := rfl
theorem dr4 {n w m : Nat} {fs : List (List Int)} {c4 c5 : DL.Slot} {ys : List Int} {μ : List Cell} (hf : fs.length < 16777216) : (dDrop (dM "list" gAppend (dVar 3) (dCons (dVar 6) dNil))) (Sr n w m fs c4 c5 (.val (Ri ys)) μ) = .nx (Sr n w m (fs ++ [ys]) c4 c5 (.val (Ri ys)) μ) := by
  simp [-List.map_map, dM, tyD, cellAt, kitB, gAppend, mutAt, setAt, hf]
theorem dr_body {n w m k j0 : Nat} {fs : List (List Int)} {c4 c5 c6 : DL.Slot} {μ : List Cell} (D0 : Dr w j0 fs) (hj0 : j0 ≤ 5) (h : Dc k n μ) (hw : w ≤ 5) (hk : k ≤ 80000) (n4 : nLl c4 = true) : ∃ (ys : List Int) (c5' c6' : DL.Slot) (μ' : List Cell), Dr w (j0 + 1) (fs ++ [ys]) ∧ Dc (k + 12) n μ' ∧ drB (Sr n w m fs c4 c5 c6 μ) = .nx (Sr n w m (fs ++ [ys]) c4 c5' c6' μ') := by
  obtain ⟨r, μ1, hr, d1, e1⟩ := dr1 (w := w) (m := m) (fs := fs) (c4 := c4) (c5 := c5) (c6 := c6) h (by omega)
  obtain ⟨xs, μ2, x1, x2, d2, e2⟩ := dr2 (m := m) (fs := fs) (c4 := c4) (c5 := .val (.int (r : Nat))) (c6 := c6) d1 hw (by omega)
  obtain ⟨ys, μ3, y1, y2, d3, e3⟩ := dr3 (m := m) (c4 := c4) (r := r) D0 (by omega) d2 hw (by omega) x1 x2 n4
  refine ⟨ys, .val (.int (r : Nat)), .val (Ri ys), μ3, D0.add hj0 y1 y2, d3.mono (by omega), ?_⟩
  unfold drB
  rw [seq_nx e1, seq_nx e2, seq_nx e3]
  exact dr4 (by rw [D0.len]; omega)
theorem dr_loop {n w m : Nat} (hw : w ≤ 5) : ∀ (t k j0 : Nat) (i : Int) (fs : List (List Int)) (c4 c5 c6 : DL.Slot) (μ : List Cell), Dr w j0 fs → j0 + t ≤ 6 → Dc k n μ → k + 12 * t ≤ 80000 →
    ∃ (fs' : List (List Int)) (c4' c5' c6' : DL.Slot) (μ' : List Cell), Dr w (j0 + t) fs' ∧ Dc (k + 12 * t) n μ' ∧ dFor (gNm 4) drB (rngD i t) (Sr n w m fs c4 c5 c6 μ) = .nx (Sr n w m fs' c4' c5' c6' μ')
  | 0, k, j0, i, fs, c4, c5, c6, μ, D0, _, h, _ => ⟨fs, c4, c5, c6, μ, D0, h, rfl⟩
  | t + 1, k, j0, i, fs, c4, c5, c6, μ, D0, hj, h, hk => by
    obtain ⟨ys, d5, d6, μ1, D1, h1, e1⟩ := dr_body (m := m) (c4 := .val (.int i)) (c5 := c5) (c6 := c6) D0 (by omega) h hw (by omega) rfl
    obtain ⟨fs', c4', c5', c6', μ', D2, h2, e2⟩ := dr_loop hw t (k + 12) (j0 + 1) (i + 1) (fs ++ [ys]) (.val (.int i)) d5 d6 μ1 D1 (by omega) h1 (by omega)
    refine ⟨fs', c4', c5', c6', μ', by rw [show j0 + (t + 1) = j0 + 1 + t by omega]; exact D2, h2.mono (by omega), ?_⟩
    rw [rngD_succ, dFor]
    simp only [ap_gNm, List.set_cons_succ, List.set_cons_zero]
    rw [e1]
    exact e2
theorem runF_rtc {b : FS} {n : Nat} {ds : List D} {v : Cell} {s : S} {μ : List Cell} (h : b ⟨ds.map .val ++ List.replicate (n - ds.length) .no, μ⟩ = .rtc v s) : runF b n ds μ = .okc v s.μ := by
  unfold runF; rw [h]
theorem Dr.nil (w : Nat) : Dr w 0 [] := ⟨rfl, by simp, fun j => Nat.le_refl _⟩
theorem rw_drawn_ok {n w m k : Nat} {μ : List Cell} (hw : w ≤ 5) (hm : m ≤ 6) (h : Dc k n μ) (hk : k ≤ 50000) : ∃ (fs : List (List Int)) (μ' : List Cell), F_L_rw_drawn [.ref n, .int (w : Nat), .int (m : Nat)] μ = .okc (.lst (fs.map Ri)) μ' ∧ Dr w m fs ∧ Dc (k + 72) n μ' := by
  obtain ⟨fs, c4, c5, c6, μ', D1, h1, e1⟩ := dr_loop (n := n) (m := m) hw m k 0 0 [] .no .no .no μ (Dr.nil w) (by omega) h (by omega)
  rw [Nat.zero_add] at D1
  refine ⟨fs, μ', ?_, D1, h1.mono (by omega)⟩
  have t : b_L_rw_drawn ⟨[.val (.ref n), .val (.int (w : Nat)), .val (.int (m : Nat)), .no, .no, .no, .no, .no, .no], μ⟩ = .rtc (.lst (fs.map Ri)) ⟨[.val (.ref n), .val (.int (w : Nat)), .val (.int (m : Nat)), .no, c4, c5, c6, .no, .no], μ'⟩ := by
    rw [dr_split]
    have e0 : (dAsgO 3 (dLst dNil)) ⟨[.val (.ref n), .val (.int (w : Nat)), .val (.int (m : Nat)), .no, .no, .no, .no, .no, .no], μ⟩ = .nx (Sr n w m [] .no .no .no μ) := by simp
    rw [seq_nx e0]
    rw [seq_nx (by
      rw [forRng (w := m) (by simp) (by omega)]
      exact e1)]
    simp [-List.map_map, dTake]
  exact runF_rtc (n := 9) (ds := [.ref n, .int (w : Nat), .int (m : Nat)]) t
/-! ### values that can be asked about -/
theorem lay_sum (k : Nat) : Lay k (.str "sum") := ⟨.str "sum", rfl, by simp only [PyData.canLay0]; decide +kernel, by simp [PyData.depth]⟩
theorem lay_apart (k : Nat) : Lay k (.str "apart") := ⟨.str "apart", rfl, by simp only [PyData.canLay0]; decide +kernel, by simp [PyData.depth]⟩
/-- a part of a value -/
structure Pt (d : D) : Prop where
  fine : Fine d
  lay : Lay 10 d
  len : ∀ xs, d = .tup xs → xs.length ≤ 16777216
  bd : ∀ ys, d = Ri ys → Bd 9000 ys
  int : ∀ i, d = .int i → i.natAbs < 2 ^ 9000
theorem okv_tup {xs : List D} (hl : xs.length ≤ 100) (h : ∀ x ∈ xs, Pt x) : Okv (.tup xs) := by
  refine ⟨.tup _ fun x hx => (h x hx).fine, (lay_tup fun x hx => (h x hx).lay).mono (by decide), fun ys e => by cases e; omega, fun a b e => ?_, fun a b c e => ?_⟩
  · cases e
    have hb := h b (by simp)
    exact ⟨hb.len, hb.bd⟩
  · cases e
    have hb := h b (by simp)
    have hc := h c (by simp)
    exact ⟨hb.int, hc.len, hc.bd⟩
theorem okv_lst {xs : List D} (h : ∀ x ∈ xs, Pt x) : Okv (.lst xs) :=
  ⟨.lst _ fun x hx => (h x hx).fine, (lay_lst fun x hx => (h x hx).lay).mono (by decide), fun ys e => (nomatch e), fun a b e => (nomatch e), fun a b c e => (nomatch e)⟩
theorem okv_non : Okv .non := ⟨.non, lay_non _, fun ys e => (nomatch e), fun a b e => (nomatch e), fun a b c e => (nomatch e)⟩
theorem two_lt {n : Nat} (h : n < 9000) : 2 ^ n < 2 ^ 9000 := Nat.pow_lt_pow_right (by decide) h
theorem pt_int {i : Int} (h : i.natAbs < 2 ^ 9000) : Pt (.int i) := ⟨.int i, lay_int _ i, fun xs e => (nomatch e), fun ys e => (nomatch e), fun j e => by cases e; exact h⟩
theorem pt_bl (b : Bool) : Pt (.bl b) := ⟨.bl b, lay_bl _ b, fun xs e => (nomatch e), fun ys e => (nomatch e), fun j e => (nomatch e)⟩
theorem pt_non : Pt .non := ⟨.non, lay_non _, fun xs e => (nomatch e), fun ys e => (nomatch e), fun j e => (nomatch e)⟩
theorem pt_sum : Pt (.str "sum") := ⟨.str _, lay_sum _, fun xs e => (nomatch e), fun ys e => (nomatch e), fun j e => (nomatch e)⟩
theorem pt_apart : Pt (.str "apart") := ⟨.str _, lay_apart _, fun xs e => (nomatch e), fun ys e => (nomatch e), fun j e => (nomatch e)⟩
/-- a leaf: an int that is not too great, or a truth value -/
def Lf (d : D) : Prop := (∃ i : Int, d = .int i ∧ i.natAbs < 2 ^ 9000) ∨ ∃ b, d = .bl b
theorem pt_tup {xs : List D} (hl : xs.length ≤ 16777216) (h : ∀ x ∈ xs, Lf x) : Pt (.tup xs) := by
  refine ⟨.tup _ fun x hx => ?_, (lay_tup (k := 3) fun x hx => ?_).mono (by decide), fun ys e => by cases e; exact hl, fun ys e => ?_, fun i e => (nomatch e)⟩
  · rcases h x hx with ⟨i, rfl, _⟩ | ⟨b, rfl⟩
    · exact .int i
    · exact .bl b
  · rcases h x hx with ⟨i, rfl, _⟩ | ⟨b, rfl⟩
    · exact lay_int _ i
    · exact lay_bl _ b
  · cases e
    intro z hz
    rcases h (.int z) (List.mem_map.mpr ⟨z, hz, rfl⟩) with ⟨i, e, hi⟩ | ⟨b, e⟩
    · cases e; exact hi
    · cases e
theorem pt_lst {xs : List D} (h : ∀ x ∈ xs, Lf x) : Pt (.lst xs) := by
  refine ⟨.lst _ fun x hx => ?_, (lay_lst (k := 3) fun x hx => ?_).mono (by decide), fun ys e => (nomatch e), fun ys e => (nomatch e), fun i e => (nomatch e)⟩
  · rcases h x hx with ⟨i, rfl, _⟩ | ⟨b, rfl⟩
    · exact .int i
    · exact .bl b
  · rcases h x hx with ⟨i, rfl, _⟩ | ⟨b, rfl⟩
    · exact lay_int _ i
    · exact lay_bl _ b
theorem lf_ri {ys : List Int} (h : Bd 9000 ys) : ∀ x ∈ ys.map D.int, Lf x := fun x hx => by
  obtain ⟨i, hi, rfl⟩ := List.mem_map.mp hx
  exact .inl ⟨i, rfl, h i hi⟩
theorem pt_ri {ys : List Int} (hl : ys.length ≤ 16777216) (h : Bd 9000 ys) : Pt (Ri ys) := pt_tup (by simpa using hl) (lf_ri h)
theorem okv_apart {d : D} (h : Pt d) : Okv (.tup [.str "apart", d]) := okv_tup (by simp) fun x hx => by
  simp only [List.mem_cons, List.not_mem_nil, or_false] at hx
  rcases hx with rfl | rfl
  · exact pt_apart
  · exact h
theorem okv_sum {t d : D} (ht : Pt t) (h : Pt d) : Okv (.tup [.str "sum", t, d]) := okv_tup (by simp) fun x hx => by
  simp only [List.mem_cons, List.not_mem_nil, or_false] at hx
  rcases hx with rfl | rfl | rfl
  · exact pt_sum
  · exact ht
  · exact h
end K12

namespace K12
open PySem PySem.Spec PyProof.Rows L2 DL
theorem apd_ok {i : Nat} {fe : FE} {s s1 : S} {d : D} {V : List D} (h0 : s.δ[i]? = some (.own (.lst V))) (h1 : fe s = .ok d s1) (h2 : s1.δ[i]? = some (.own (.lst V))) (hl : V.length < 16777216) (nd : noOwn d = true) :
    dDrop (dM "list" gAppend (dVar i) (dCons fe dNil)) s = .nx { s1 with δ := s1.δ.set i (.own (.lst (V ++ [d]))) } := by
  have e1 : dVar i s = .ok (.own i) s := by rw [ap_Var, h0]
  have e2 : tyD s (.own i) = some "list" := by simp only [tyD, cellAt, h0]
  have e3 : dCons fe dNil s = .ok [d] s1 := cons_ok h1 rfl
  have e4 : gAppend s1 (.own i) [d] = some (.non, { s1 with δ := s1.δ.set i (.own (.lst (V ++ [d]))) }) := by
    simp only [gAppend, mutAt, h2, nd, hl, decide_true, Bool.and_self, if_true, setAt]
  have e5 : dM "list" gAppend (dVar i) (dCons fe dNil) s = .ok .non { s1 with δ := s1.δ.set i (.own (.lst (V ++ [d]))) } := by
    unfold dM
    rw [e1, bind_ok, if_pos e2, e3, bind_ok, e4]
  rw [ap_Drop, e5]
theorem tup_ok {fa : FA} {s s1 : S} {ds : List D} (h : fa s = .ok ds s1) (hn : ds.all noOwn = true) (hl : ds.length ≤ 16777216) : dTup fa s = .ok (.tup ds) s1 := by
  rw [ap_Tup, h, bind_ok, if_pos (by rw [hn, Bool.true_and]; exact decide_eq_true hl)]
theorem lst_ok {fa : FA} {s s1 : S} {ds : List D} (h : fa s = .ok ds s1) (hn : ds.all noOwn = true) (hl : ds.length ≤ 16777216) : dLst fa s = .ok (.lst ds) s1 := by
  rw [ap_Lst, h, bind_ok, if_pos (by rw [hn, Bool.true_and]; exact decide_eq_true hl)]
theorem c_ok {d : D} {s : S} : dC d s = .ok d s := rfl
theorem op_ok {g : S → D → D → Option D} {fa fb : FE} {s s1 s2 : S} {x y d : D} (h1 : fa s = .ok x s1) (h2 : fb s1 = .ok y s2) (h3 : g s2 x y = some d) : dOp g fa fb s = .ok d s2 := by
  rw [ap_Op, h1, bind_ok, h2, bind_ok, h3]
theorem muls_gen {v : Nat} {fe : FE} {t : Int} {s : S} {n m : Nat} (hl : v < s.δ.length) (hfe : ∀ x, fe ⟨s.δ.set v x, s.μ⟩ = .ok (.int t) ⟨s.δ.set v x, s.μ⟩) (hn : 0 < n) (hm : 0 < m) (hnm : n + m ≤ 50000) (ht : t.natAbs < 2 ^ n) : ∀ xs : List Int, Bd m xs → dLcGo [v] (gNm v) dYes (dOp gMul fe (dVar v)) (xs.map .int) s = .ok ((xs.map fun x => t * x).map .int) s
  | [], _ => rfl
  | x :: xs, hb => by
    have ih := muls_gen hl hfe hn hm hnm ht xs fun y hy => hb y (by simp [hy])
    have gv : s.δ[v]? = some (s.δ[v]'hl) := List.getElem?_eq_getElem hl
    have g1 : (s.δ.set v (.val (.int x)))[v]? = some (.val (.int x)) := by rw [List.getElem?_set_self hl]
    have gb : (s.δ.set v (.val (.int x))).set v (s.δ[v]'hl) = s.δ := by rw [List.set_set, List.set_getElem_self]
    have e := mulOk_of ht (hb x (by simp)) hn hm hnm
    simp only [List.map_cons, dLcGo, wipeD, backD, ap_gNm, ap_Yes, List.set_set, ap_Op, hfe, bind_ok, ap_Var, g1, mul_ii e, no_int, if_true, gv, gb]
    have ih : dLcGo [v] (gNm v) dYes (dOp gMul fe (dVar v)) (xs.map .int) { δ := s.δ, μ := s.μ } = .ok ((xs.map fun x => t * x).map .int) s := ih
    have gc : s.δ.set v (s.δ[v]'hl) = s.δ := List.set_getElem_self hl
    simp only [gc, ih, bind_ok]
/-- a tuple of products -/
theorem tmul {v : Nat} {fe fi : FE} {t : Int} {s : S} {n m : Nat} {xs : List Int} {d : D} (hi : fi s = .ok d s) (hd : fixSeq d = some (xs.map .int)) (hl : v < s.δ.length) (ho : isOwn s.δ v = false) (hfe : ∀ x, fe ⟨s.δ.set v x, s.μ⟩ = .ok (.int t) ⟨s.δ.set v x, s.μ⟩) (hn : 0 < n) (hm : 0 < m) (hnm : n + m ≤ 50000) (ht : t.natAbs < 2 ^ n) (hb : Bd m xs) (hx : xs.length ≤ 100) :
    dB gTuple (dCons (dFrz (dLc [v] (dIter fi) (gNm v) dYes (dOp gMul fe (dVar v)))) dNil) s = .ok (Ri (xs.map fun x => t * x)) s :=
  tup_lc (lc_ok (iter_ok hi hd) (by simp; omega) (by simp [ho, -isOwn_c]) (muls_gen hl hfe hn hm hnm ht xs hb)) (tup_ints s _)
theorem bd_mul {xs : List Int} {k : Int} {n m : Nat} (hk : k.natAbs < 2 ^ n) (h : Bd m xs) : Bd (n + m) (xs.map fun x => k * x) := fun z hz => by
  obtain ⟨x, hx, rfl⟩ := List.mem_map.mp hz
  exact abs_mul_lt hk (h x hx)
abbrev So (n w : Nat) (rows : List (List Int)) (v : List Int) (V : List D) (c5 c6 c7 c8 c9 c10 : DL.Slot) (μ : List Cell) : S := ⟨[.val (.ref n), .val (.int (w : Nat)), .val (.tup (rows.map Ri)), .val (Ri v), .own (.lst V), c5, c6, c7, c8, c9, c10, .no], μ⟩
section
variable {n w : Nat} {rows : List (List Int)} {v : List Int}
def ow1 : FS := (dSeq (dAsg 7 (dCall F_L_pick (dCons (dVar 0) (dCons (dFrz (dLst (dCons (dC (.int (1))) (dCons (dNeg (dC (.int (1)))) (dCons (dOp gPow (dC (.int (10))) (dC (.int (40)))) dNil))))) dNil))))
    (dDrop (dM "list" gAppend (dVar 4) (dCons (dTup (dCons (dC (.str "apart")) (dCons (dB gTuple (dCons (dFrz (dLc [11] (dIter (dVar 6)) (gNm 11) dYes (dOp gMul (dVar 7) (dVar 11)))) dNil)) dNil))) dNil))))
theorem ow1_ok {T : Int} {k : Nat} {V : List D} {y : List Int} {c5 c7 c8 c9 c10 : DL.Slot} {μ : List Cell} (hT : T.natAbs < 2 ^ 140) (hp : ∀ s : S, gPow s (.int 10) (.int 40) = some (.int T)) (h : Dc k n μ) (hk : k ≤ 90000) (hy : Bd 8000 y) (hl : y.length ≤ 60) (hV : V.length ≤ 100) : ∃ (d : D) (c7' : DL.Slot) (μ' : List Cell), Okv d ∧ Dc (k + 1) n μ' ∧
    ow1 (So n w rows v V c5 (.val (Ri y)) c7 c8 c9 c10 μ) = .nx (So n w rows v (V ++ [d]) c5 (.val (Ri y)) c7' c8 c9 c10 μ') := by
  obtain ⟨x, hx, μ', e, d⟩ := pick_okD (xs := [.int 1, .int (-1), .int T]) h (by omega) (by simp) (by simp) (by simp)
  have : ∃ t : Int, x = .int t ∧ t.natAbs < 2 ^ 140 := by
    simp only [List.mem_cons, List.not_mem_nil, or_false] at hx
    rcases hx with rfl | rfl | rfl
    · exact ⟨1, rfl, Nat.lt_of_lt_of_le (m := 2 ^ 1) (by decide) (Nat.pow_le_pow_right (by decide) (by decide))⟩
    · exact ⟨-1, rfl, Nat.lt_of_lt_of_le (m := 2 ^ 1) (by decide) (Nat.pow_le_pow_right (by decide) (by decide))⟩
    · exact ⟨T, rfl, hT⟩
  obtain ⟨t, rfl, ht⟩ := this
  have e1 : dFrz (dLst (dCons (dC (.int (1))) (dCons (dNeg (dC (.int (1)))) (dCons (dOp gPow (dC (.int (10))) (dC (.int (40)))) dNil)))) (So n w rows v V c5 (.val (Ri y)) c7 c8 c9 c10 μ) = .ok (.lst [.int 1, .int (-1), .int T]) (So n w rows v V c5 (.val (Ri y)) c7 c8 c9 c10 μ) :=
    frzE_ok (lst_ok (cons_ok c_ok (cons_ok rfl (cons_ok (op_ok c_ok c_ok (hp _)) rfl))) rfl (by simp))
  refine ⟨.tup [.str "apart", Ri (y.map fun x => t * x)], .val (.int t), μ', okv_apart (pt_ri (by simp; omega) ((bd_mul ht hy).mono (by decide))), d, ?_⟩
  unfold ow1
  refine (seq_nx (asg_okμ (i := 7) (call_okμ (s1 := So n w rows v V c5 (.val (Ri y)) c7 c8 c9 c10 μ) (ds := [.ref n, .lst [.int 1, .int (-1), .int T]]) (cons_ok (var_ok rfl) (cons_ok e1 rfl)) rfl e) rfl)).trans ?_
  exact apd_ok (s := So n w rows v V c5 (.val (Ri y)) (.val (.int t)) c8 c9 c10 μ') (s1 := So n w rows v V c5 (.val (Ri y)) (.val (.int t)) c8 c9 c10 μ') rfl
    (tup_ok (cons_ok c_ok (cons_ok (tmul (v := 11) (t := t) (n := 140) (m := 8000) (d := Ri y) (xs := y) (var_ok rfl) rfl (by simp) rfl (fun x => var_ok rfl) (by decide) (by decide) (by decide) ht hy (by omega)) rfl)) rfl (by simp)) rfl (by omega) rfl
theorem ow1_loop {T : Int} {c5 c8 c9 c10 : DL.Slot} (hT : T.natAbs < 2 ^ 140) (hp : ∀ s : S, gPow s (.int 10) (.int 40) = some (.int T)) : ∀ (m : List (List Int)) (k : Nat) (V : List D) (c6 c7 : DL.Slot) (μ : List Cell), (∀ o ∈ m, o.length ≤ 60 ∧ Bd 8000 o) → Dc k n μ → k + m.length ≤ 80000 → V.length + m.length ≤ 100 → (∀ d ∈ V, Okv d) →
    ∃ (V' : List D) (c6' c7' : DL.Slot) (μ' : List Cell), (∀ d ∈ V', Okv d) ∧ V'.length = V.length + m.length ∧ Dc (k + m.length) n μ' ∧ dFor (gNm 6) ow1 (m.map Ri) (So n w rows v V c5 c6 c7 c8 c9 c10 μ) = .nx (So n w rows v V' c5 c6' c7' c8 c9 c10 μ')
  | [], k, V, c6, c7, μ, _, h, _, _, hV => ⟨V, c6, c7, μ, hV, rfl, h, rfl⟩
  | o :: m, k, V, c6, c7, μ, hm, h, hk, hl, hV => by
    rw [List.length_cons] at hk hl
    obtain ⟨h1, h2⟩ := hm o (by simp)
    obtain ⟨d, d7, μ1, o1, D1, e1⟩ := ow1_ok (w := w) (rows := rows) (v := v) (c5 := c5) (c7 := c7) (c8 := c8) (c9 := c9) (c10 := c10) hT hp h (by omega) h2 h1 (show V.length ≤ 100 by omega)
    obtain ⟨V', c6', c7', μ', o2, l2, D2, e2⟩ := ow1_loop (c5 := c5) (c8 := c8) (c9 := c9) (c10 := c10) hT hp m (k + 1) (V ++ [d]) (.val (Ri o)) d7 μ1 (fun p hp => hm p (by simp [hp])) D1 (by omega) (by simp; omega) (fun x hx => (List.mem_append.mp hx).elim (hV x) fun hx => by rw [List.mem_singleton.mp hx]; exact o1)
    refine ⟨V', c6', c7', μ', o2, by rw [l2]; simp; omega, by rw [List.length_cons, show k + (m.length + 1) = k + 1 + m.length by omega]; exact D2, ?_⟩
    rw [List.map_cons, dFor]
    simp only [ap_gNm, List.set_cons_succ, List.set_cons_zero]
    rw [e1]
    exact e2
end
end K12

namespace K12
open PySem PySem.Spec PyProof.Rows L2 DL
section
variable {n w : Nat} {rows : List (List Int)} {v : List Int}
def ow2 : FS := (dAsg 8 (dB gTuple (dCons (dFrz (dLc [11] (dIter (dVar 2)) (gNm 11) dYes (dOp gSub (dCall F_L_roll (dCons (dVar 0) (dCons (dC (.int (5))) dNil))) (dC (.int (2)))))) dNil)))
theorem ow2_ok {k : Nat} {V : List D} {c5 c6 c7 c8 c9 c10 : DL.Slot} {μ : List Cell} (h : Dc k n μ) (hk : k ≤ 90000) (hm : rows.length ≤ 6) : ∃ (cs : List Int) (μ' : List Cell), cs.length = rows.length ∧ Bd 2 cs ∧ Dc (k + 6) n μ' ∧ ow2 (So n w rows v V c5 c6 c7 c8 c9 c10 μ) = .nx (So n w rows v V c5 c6 c7 (.val (Ri cs)) c9 c10 μ') := by
  obtain ⟨cs, μ', l1, l2, l3, e⟩ := rolls_gen (v := 11) (n := n) (by decide) (rows.map Ri) (So n w rows v V c5 c6 c7 c8 c9 c10 μ) k rfl (by simp) h (by simp; omega)
  rw [List.length_map] at l1 l3
  refine ⟨cs, μ', l1, fun c hc => by have := l2 c hc; omega, l3.mono (by omega), ?_⟩
  exact asg_okμ (i := 8) (s1 := So n w rows v V c5 c6 c7 c8 c9 c10 μ') (d := Ri cs) (b_ok (cons_ok (frzE_ok (lc_okμ (iter_ok (d := .tup (rows.map Ri)) (var_ok rfl) rfl) (by simp; omega) rfl e)) rfl) (tup_ints _ cs)) rfl
def ow5 : FS := (dSeq (dDrop (dM "list" gAppend (dVar 4) (dCons (dTup (dCons (dC (.str "sum")) (dCons (dVar 10) (dCons (dB gTuple (dCons (dFrz (dLc [11] (dIter (dVar 8)) (gNm 11) dYes (dOp gMul (dVar 10) (dVar 11)))) dNil)) dNil)))) dNil)))
    (dIfS (dCmpT eqS (dVar 9) (dVar 3)) (dDrop (dM "list" gAppend (dVar 4) (dCons (dTup (dCons (dC (.str "sum")) (dCons (dOp gMul (dC (.int (2))) (dVar 10)) (dCons (dB gTuple (dCons (dFrz (dLc [11] (dIter (dVar 8)) (gNm 11) dYes (dOp gMul (dOp gMul (dC (.int (2))) (dVar 10)) (dVar 11)))) dNil)) dNil)))) dNil))) dSkip))
theorem ow5_ok {V : List D} {cs z : List Int} {t : Int} {c5 c6 c7 : DL.Slot} {μ : List Cell} (ht : t.natAbs < 2 ^ 70) (hb : Bd 2 cs) (hl : cs.length ≤ 60) (hV : V.length ≤ 200) (oV : ∀ d ∈ V, Okv d) : ∃ V' : List D, (∀ d ∈ V', Okv d) ∧ V'.length ≤ V.length + 2 ∧
    ow5 (So n w rows v V c5 c6 c7 (.val (Ri cs)) (.val (Ri z)) (.val (.int t)) μ) = .nx (So n w rows v V' c5 c6 c7 (.val (Ri cs)) (.val (Ri z)) (.val (.int t)) μ) := by
  have m2 : mulOk 2 t = true := mulOk_of (n := 2) (m := 70) (by decide) ht (by decide) (by decide) (by decide)
  have ht2 : (2 * t).natAbs < 2 ^ 72 := abs_mul_lt (n := 2) (m := 70) (by decide) ht
  have hbig : ∀ {j : Nat} {i : Int}, j ≤ 9000 → i.natAbs < 2 ^ j → i.natAbs < 2 ^ 9000 := fun hj hi => Nat.lt_of_lt_of_le hi (Nat.pow_le_pow_right (by decide) hj)
  have o1 : Okv (.tup [.str "sum", .int t, Ri (cs.map fun x => t * x)]) := okv_sum (pt_int (hbig (by decide) ht)) (pt_ri (by simp; omega) ((bd_mul ht hb).mono (by decide)))
  have o2 : Okv (.tup [.str "sum", .int (2 * t), Ri (cs.map fun x => 2 * t * x)]) := okv_sum (pt_int (hbig (by decide) ht2)) (pt_ri (by simp; omega) ((bd_mul ht2 hb).mono (by decide)))
  have e1 : dDrop (dM "list" gAppend (dVar 4) (dCons (dTup (dCons (dC (.str "sum")) (dCons (dVar 10) (dCons (dB gTuple (dCons (dFrz (dLc [11] (dIter (dVar 8)) (gNm 11) dYes (dOp gMul (dVar 10) (dVar 11)))) dNil)) dNil)))) dNil)) (So n w rows v V c5 c6 c7 (.val (Ri cs)) (.val (Ri z)) (.val (.int t)) μ) = .nx (So n w rows v (V ++ [.tup [.str "sum", .int t, Ri (cs.map fun x => t * x)]]) c5 c6 c7 (.val (Ri cs)) (.val (Ri z)) (.val (.int t)) μ) :=
    apd_ok (s1 := So n w rows v V c5 c6 c7 (.val (Ri cs)) (.val (Ri z)) (.val (.int t)) μ) rfl (tup_ok (cons_ok c_ok (cons_ok (var_ok rfl) (cons_ok (tmul (v := 11) (t := t) (n := 70) (m := 2) (d := Ri cs) (xs := cs) (var_ok rfl) rfl (by simp) rfl (fun x => var_ok rfl) (by decide) (by decide) (by decide) ht hb (by omega)) rfl))) rfl (by simp)) rfl (by omega) rfl
  unfold ow5
  by_cases hz : z = v
  · refine ⟨V ++ [.tup [.str "sum", .int t, Ri (cs.map fun x => t * x)]] ++ [.tup [.str "sum", .int (2 * t), Ri (cs.map fun x => 2 * t * x)]], fun d hd => ?_, by simp, ?_⟩
    · rcases List.mem_append.mp hd with hd | hd
      · rcases List.mem_append.mp hd with hd | hd
        · exact oV d hd
        · rw [List.mem_singleton.mp hd]; exact o1
      · rw [List.mem_singleton.mp hd]; exact o2
    · rw [seq_nx e1, ap_IfS]
      have e2 : (dCmpT eqS (dVar 9) (dVar 3)) (So n w rows v (V ++ [.tup [.str "sum", .int t, Ri (cs.map fun x => t * x)]]) c5 c6 c7 (.val (Ri cs)) (.val (Ri z)) (.val (.int t)) μ) = .ok true (So n w rows v (V ++ [.tup [.str "sum", .int t, Ri (cs.map fun x => t * x)]]) c5 c6 c7 (.val (Ri cs)) (.val (Ri z)) (.val (.int t)) μ) := by
        simp [-List.map_map, hz]
      rw [e2]
      exact apd_ok (s1 := So n w rows v (V ++ [.tup [.str "sum", .int t, Ri (cs.map fun x => t * x)]]) c5 c6 c7 (.val (Ri cs)) (.val (Ri z)) (.val (.int t)) μ) rfl (tup_ok (cons_ok c_ok (cons_ok (op_ok c_ok (var_ok rfl) (mul_ii m2 _)) (cons_ok (tmul (v := 11) (t := 2 * t) (n := 72) (m := 2) (d := Ri cs) (xs := cs) (var_ok rfl) rfl (by simp) rfl (fun x => op_ok c_ok (var_ok rfl) (mul_ii m2 _)) (by decide) (by decide) (by decide) ht2 hb (by omega)) rfl))) rfl (by simp)) rfl (by simp; omega) rfl
  · refine ⟨V ++ [.tup [.str "sum", .int t, Ri (cs.map fun x => t * x)]], fun d hd => ?_, by simp, ?_⟩
    · rcases List.mem_append.mp hd with hd | hd
      · exact oV d hd
      · rw [List.mem_singleton.mp hd]; exact o1
    · rw [seq_nx e1, ap_IfS]
      have e2 : (dCmpT eqS (dVar 9) (dVar 3)) (So n w rows v (V ++ [.tup [.str "sum", .int t, Ri (cs.map fun x => t * x)]]) c5 c6 c7 (.val (Ri cs)) (.val (Ri z)) (.val (.int t)) μ) = .ok false (So n w rows v (V ++ [.tup [.str "sum", .int t, Ri (cs.map fun x => t * x)]]) c5 c6 c7 (.val (Ri cs)) (.val (Ri z)) (.val (.int t)) μ) := by
        simp [-List.map_map, hz]
      rw [e2]
      rfl
theorem ow5_loop {cs z : List Int} {c5 c6 c7 : DL.Slot} {μ : List Cell} (hb : Bd 2 cs) (hl : cs.length ≤ 60) : ∀ (ts : List Int) (V : List D) (c10 : DL.Slot), (∀ t ∈ ts, t.natAbs < 2 ^ 70) → V.length + 2 * ts.length ≤ 200 → (∀ d ∈ V, Okv d) → ∃ (V' : List D) (c10' : DL.Slot), (∀ d ∈ V', Okv d) ∧ V'.length ≤ V.length + 2 * ts.length ∧
    dFor (gNm 10) ow5 (ts.map .int) (So n w rows v V c5 c6 c7 (.val (Ri cs)) (.val (Ri z)) c10 μ) = .nx (So n w rows v V' c5 c6 c7 (.val (Ri cs)) (.val (Ri z)) c10' μ)
  | [], V, c10, _, _, hV => ⟨V, c10, hV, by simp, rfl⟩
  | t :: ts, V, c10, ht, hn, hV => by
    rw [List.length_cons] at hn
    obtain ⟨V1, o1, l1, e1⟩ := ow5_ok (n := n) (w := w) (rows := rows) (v := v) (z := z) (c5 := c5) (c6 := c6) (c7 := c7) (μ := μ) (ht t (by simp)) hb hl (show V.length ≤ 200 by omega) hV
    obtain ⟨V', c10', o2, l2, e2⟩ := ow5_loop (z := z) (c5 := c5) (c6 := c6) (c7 := c7) (μ := μ) hb hl ts V1 (.val (.int t)) (fun x hx => ht x (by simp [hx])) (by omega) o1
    refine ⟨V', c10', o2, by rw [List.length_cons]; omega, ?_⟩
    rw [List.map_cons, dFor]
    simp only [ap_gNm, List.set_cons_succ, List.set_cons_zero]
    rw [e1]
    exact e2
end
theorem ow_split : b_L_own = (dSeq (dParM 4 5 (dMc (dLst dNil) (dMv (dCall F_L_lot (dCons (dVar 2) dNil)) dMn)))
    (dSeq (dForI (dIter (dCall F_L_apart (dCons (dVar 5) (dCons (dVar 1) dNil)))) (gNm 6) ow1)
    (dSeq ow2
    (dSeq (dDrop (dM "list" gAppend (dVar 4) (dCons (dTup (dCons (dC (.str "sum")) (dCons (dC (.int (1))) (dCons (dVar 8) dNil)))) dNil)))
    (dSeq (dAsg 9 (dCall F_L_summed (dCons (dVar 1) (dCons (dVar 2) (dCons (dVar 8) dNil)))))
    (dSeq (dForI (dIter (dTup (dCons (dC (.int (1))) (dCons (dC (.int (2))) (dCons (dOp gPow (dC (.int (10))) (dC (.int (20)))) dNil))))) (gNm 10) ow5)
    (dRetF (dTake 4)))))))) := rfl
theorem pow_ok' {i j : Int} (h : powOk i j = true) (s : S) : gPow s (.int i) (.int j) = some (.int (i ^ j.toNat)) := by
  show (if powOk i j = true then _ else _) = _
  rw [if_pos h]
theorem pow40 (s : S) : gPow s (.int 10) (.int 40) = some (.int (10 ^ 40)) := pow_ok' (by decide) s
theorem pow20 (s : S) : gPow s (.int 10) (.int 20) = some (.int (10 ^ 20)) := pow_ok' (by decide) s
theorem own_gen {T U : Int} {n w k : Nat} {rows : List (List Int)} {v : List Int} {μ : List Cell} (I : In w rows v) (hT : T.natAbs < 2 ^ 140) (hp : ∀ s : S, gPow s (.int 10) (.int 40) = some (.int T)) (hU : U.natAbs < 2 ^ 70) (hq : ∀ s : S, gPow s (.int 10) (.int 20) = some (.int U)) (h : Dc k n μ) (hk : k ≤ 50000) :
    ∃ (V : List D) (μ' : List Cell), F_L_own [.ref n, .int (w : Nat), .tup (rows.map Ri), Ri v] μ = .okc (.lst V) μ' ∧ (∀ d ∈ V, Okv d) ∧ V.length ≤ 100 ∧ Dc (k + 20) n μ' := by
  have h5 := I.w5
  have h6 := I.m6
  obtain ⟨lot, l1, l2, l3⟩ := I.lotL (d := .tup (rows.map Ri)) (.inl rfl) μ
  obtain ⟨m', a1, ⟨nn, n1, a2⟩, a3⟩ := L_apart_ok (I.ap l2) μ
  have hml := a2.le
  obtain ⟨V1, c6, c7, μ1, o1, v1, D1, e1⟩ := ow1_loop (n := n) (w := w) (rows := rows) (v := v) (c5 := .val (.tup (lot.map Ri))) (c8 := .no) (c9 := .no) (c10 := .no) hT hp m' k [] .no .no μ (fun o ho => ⟨by rw [a2.len o ho]; omega, (a2.bd o ho).mono n1⟩) h (by omega) (by simp; omega) (by simp)
  rw [List.length_nil, Nat.zero_add] at v1
  obtain ⟨cs, μ2, c1, c2, D2, e2⟩ := ow2_ok (w := w) (rows := rows) (v := v) (V := V1) (c5 := .val (.tup (lot.map Ri))) (c6 := c6) (c7 := c7) (c8 := .no) (c9 := .no) (c10 := .no) D1 (by omega) h6
  have o3 : Okv (.tup [.str "sum", .int 1, Ri cs]) := okv_sum (pt_int (Nat.lt_of_lt_of_le (m := 2 ^ 1) (by decide) (Nat.pow_le_pow_right (by decide) (by decide)))) (pt_ri (by omega) (c2.mono (by decide)))
  have e4 := L_summed_ok (w := w) (cs := cs) (rows := rows) (by omega) (by decide : 0 < 2) (by decide : 0 < 11) (by decide) c2 I.ro (dr := .tup (rows.map Ri)) (dc := Ri cs) (.inl rfl) (.inl rfl) μ2
  obtain ⟨V2, c10, o4, v4, e5⟩ := ow5_loop (n := n) (w := w) (rows := rows) (v := v) (z := sm w cs rows) (c5 := .val (.tup (lot.map Ri))) (c6 := c6) (c7 := c7) (μ := μ2) c2 (by omega) [1, 2, U] (V1 ++ [.tup [.str "sum", .int 1, Ri cs]]) .no (fun t ht => by
    simp only [List.mem_cons, List.not_mem_nil, or_false] at ht
    rcases ht with rfl | rfl | rfl
    · exact Nat.lt_of_lt_of_le (m := 2 ^ 2) (by decide) (Nat.pow_le_pow_right (by decide) (by decide))
    · exact Nat.lt_of_lt_of_le (m := 2 ^ 2) (by decide) (Nat.pow_le_pow_right (by decide) (by decide))
    · exact hU) (by simp; omega) (fun x hx => (List.mem_append.mp hx).elim (o1 x) fun hx => by rw [List.mem_singleton.mp hx]; exact o3)
  refine ⟨V2, μ2, ?_, o4, by simp at v4; omega, D2.mono (by omega)⟩
  have t : b_L_own ⟨[.val (.ref n), .val (.int (w : Nat)), .val (.tup (rows.map Ri)), .val (Ri v), .no, .no, .no, .no, .no, .no, .no, .no], μ⟩ = .rtc (.lst V2) ⟨[.val (.ref n), .val (.int (w : Nat)), .val (.tup (rows.map Ri)), .val (Ri v), .no, .val (.tup (lot.map Ri)), c6, c7, .val (Ri cs), .val (Ri (sm w cs rows)), c10, .no], μ2⟩ := by
    rw [ow_split]
    have e0 : dParM 4 5 (dMc (dLst dNil) (dMv (dCall F_L_lot (dCons (dVar 2) dNil)) dMn)) ⟨[.val (.ref n), .val (.int (w : Nat)), .val (.tup (rows.map Ri)), .val (Ri v), .no, .no, .no, .no, .no, .no, .no, .no], μ⟩ = .nx (So n w rows v [] (.val (.tup (lot.map Ri))) .no .no .no .no .no μ) := by
      simp [-List.map_map, dParM, dMv, dMc, dMn, slotOf, l1]
    refine (seq_nx e0).trans ?_
    refine (seq_nx (s1 := So n w rows v V1 (.val (.tup (lot.map Ri))) c6 c7 .no .no .no μ1) ?_).trans ?_
    · refine (forIt (d := .tup (m'.map Ri)) (xs := m'.map Ri) (call_ok (ds := [.tup (lot.map Ri), .int (w : Nat)]) (cons_ok (var_ok rfl) (cons_ok (var_ok rfl) rfl)) rfl a1) rfl).trans ?_
      exact e1
    refine (seq_nx e2).trans ?_
    have e3 : (dDrop (dM "list" gAppend (dVar 4) (dCons (dTup (dCons (dC (.str "sum")) (dCons (dC (.int (1))) (dCons (dVar 8) dNil)))) dNil))) (So n w rows v V1 (.val (.tup (lot.map Ri))) c6 c7 (.val (Ri cs)) .no .no μ2) = .nx (So n w rows v (V1 ++ [.tup [.str "sum", .int 1, Ri cs]]) (.val (.tup (lot.map Ri))) c6 c7 (.val (Ri cs)) .no .no μ2) :=
      apd_ok (s1 := So n w rows v V1 (.val (.tup (lot.map Ri))) c6 c7 (.val (Ri cs)) .no .no μ2) rfl (tup_ok (cons_ok c_ok (cons_ok c_ok (cons_ok (var_ok rfl) rfl))) rfl (by simp)) rfl (by omega) rfl
    have e6 : (dAsg 9 (dCall F_L_summed (dCons (dVar 1) (dCons (dVar 2) (dCons (dVar 8) dNil))))) (So n w rows v (V1 ++ [.tup [.str "sum", .int 1, Ri cs]]) (.val (.tup (lot.map Ri))) c6 c7 (.val (Ri cs)) .no .no μ2) = .nx (So n w rows v (V1 ++ [.tup [.str "sum", .int 1, Ri cs]]) (.val (.tup (lot.map Ri))) c6 c7 (.val (Ri cs)) (.val (Ri (sm w cs rows))) .no μ2) :=
      asg_ok (i := 9) (call_ok (ds := [.int (w : Nat), .tup (rows.map Ri), Ri cs]) (cons_ok (var_ok rfl) (cons_ok (var_ok rfl) (cons_ok (var_ok rfl) rfl))) rfl e4) rfl
    refine (seq_nx e3).trans ?_
    refine (seq_nx e6).trans ?_
    refine (seq_nx (s1 := So n w rows v V2 (.val (.tup (lot.map Ri))) c6 c7 (.val (Ri cs)) (.val (Ri (sm w cs rows))) c10 μ2) ?_).trans ?_
    · refine (forIt (d := .tup [.int 1, .int 2, .int U]) (xs := [.int 1, .int 2, .int U]) (tup_ok (cons_ok c_ok (cons_ok c_ok (cons_ok (op_ok c_ok c_ok (hq _)) rfl))) rfl (by simp)) rfl).trans ?_
      exact e5
    · simp [-List.map_map, dTake]
  exact runF_rtc (n := 12) (ds := [.ref n, .int (w : Nat), .tup (rows.map Ri), Ri v]) t
theorem own_ok {n w k : Nat} {rows : List (List Int)} {v : List Int} {μ : List Cell} (I : In w rows v) (h : Dc k n μ) (hk : k ≤ 50000) :
    ∃ (V : List D) (μ' : List Cell), F_L_own [.ref n, .int (w : Nat), .tup (rows.map Ri), Ri v] μ = .okc (.lst V) μ' ∧ (∀ d ∈ V, Okv d) ∧ V.length ≤ 100 ∧ Dc (k + 20) n μ' :=
  own_gen I (by decide) pow40 (by decide) pow20 h hk
end K12

namespace K12
open PySem PySem.Spec PyProof.Rows L2 DL
theorem add_tt2 (s : S) (a b : List D) (h : a.length + b.length ≤ 16777216) : gAdd s (.tup a) (.tup b) = some (.tup (a ++ b)) := by
  simp [gAdd, h]
theorem part_ok {fe : FE} {s s1 : S} {i : Int} (h : fe s = .ok (.int i) s1) : dPart fe s = .ok (some i) s1 := by
  unfold dPart; rw [h]; rfl
theorem no_ok {s : S} : dNo s = .ok none s := rfl
theorem sl_ok {fa : FE} {fl fh : FO} {s : S} {xs : List D} {l h : Option Int} (h1 : fa s = .ok (.tup xs) s) (h2 : fl s = .ok l s) (h3 : fh s = .ok h s) : dSl fa fl fh s = .ok (.tup (DL.cutD xs l h)) s := by
  unfold dSl
  rw [h1, bind_ok, h2, bind_ok, h3, bind_ok]
theorem cat_ok {fa fb : FE} {s s1 s2 : S} {a b : D} {x y : List D} (h1 : fa s = .ok a s1) (h2 : fb s1 = .ok b s2) (h3 : asL s2 a = some x) (h4 : asL s2 b = some y) (hl : x.length + y.length ≤ 16777216) : dCat fa fb s = .ok (.lst (x ++ y)) s2 := by
  unfold dCat
  rw [h1, bind_ok, h2, bind_ok, h3, h4]
  simp only [hl, if_true]
theorem asl_own {s : S} {i : Nat} {V : List D} (h : s.δ[i]? = some (.own (.lst V))) : asL s (.own i) = some V := by simp only [asL, cellAt, h]
theorem var_own {s : S} {i : Nat} {V : List D} (h : s.δ[i]? = some (.own (.lst V))) : dVar i s = .ok (.own i) s := by rw [ap_Var, h]
theorem add_own {s : S} {i : Nat} {V U : List D} (h : s.δ[i]? = some (.own (.lst V))) (hl : V.length + U.length ≤ 16777216) : gAdd s (.own i) (.lst U) = some (.lst (V ++ U)) := by
  have e1 := asl_own h
  have e2 : asL s (.lst U) = some U := rfl
  simp only [gAdd, e1, e2, hl, if_true]
def midE (i : Nat) (fe : FE) : FE := (dOp gAdd (dOp gAdd (dSl (dVar i) dNo (dPart (dVar 5))) (dTup (dCons fe dNil))) (dSl (dVar i) (dPart (dOp gAdd (dVar 5) (dC (.int (1))))) dNo))
theorem mid_ok {i r : Nat} {fe : FE} {s : S} {ys : List D} {x : D} (h1 : s.δ[i]? = some (.val (.tup ys))) (h2 : s.δ[5]? = some (.val (.int (r : Nat)))) (hr : r < ys.length) (hl : ys.length ≤ 100) (h3 : fe s = .ok x s) (nx : noOwn x = true) : midE i fe s = .ok (.tup (ys.take r ++ [x] ++ ys.drop (r + 1))) s := by
  have e1 : dSl (dVar i) dNo (dPart (dVar 5)) s = .ok (.tup (ys.take r)) s := by
    refine (sl_ok (var_ok h1) no_ok (part_ok (var_ok h2))).trans ?_
    rw [cut_to (by omega)]
  have e2 : dSl (dVar i) (dPart (dOp gAdd (dVar 5) (dC (.int (1))))) dNo s = .ok (.tup (ys.drop (r + 1))) s := by
    have : (r : Int) + 1 = ((r + 1 : Nat) : Int) := by push_cast; rfl
    refine (sl_ok (var_ok h1) (part_ok (op_ok (var_ok h2) c_ok (add_ii _ _ _))) no_ok).trans ?_
    rw [this, cut_from (by omega)]
  have e3 : dTup (dCons fe dNil) s = .ok (.tup [x]) s := tup_ok (cons_ok h3 rfl) (by simp [nx]) (by simp)
  exact op_ok (op_ok e1 e3 (add_tt2 _ _ _ (by simp; omega))) e2 (add_tt2 _ _ _ (by simp; omega))
theorem lf_mid {ys : List Int} (h : Bd 8900 ys) (r : Nat) {x : D} (hx : Lf x) : ∀ z ∈ (ys.map D.int).take r ++ [x] ++ (ys.map D.int).drop (r + 1), Lf z := fun z hz => by
  have h9 : Bd 9000 ys := h.mono (by decide)
  rcases List.mem_append.mp hz with hz | hz
  · rcases List.mem_append.mp hz with hz | hz
    · exact lf_ri h9 z (List.mem_of_mem_take hz)
    · rw [List.mem_singleton.mp hz]; exact hx
  · exact lf_ri h9 z (List.mem_of_mem_drop hz)
theorem pt_mid {ys : List Int} (h : Bd 8900 ys) (hl : ys.length ≤ 100) (r : Nat) {x : D} (hx : Lf x) : Pt (.tup ((ys.map D.int).take r ++ [x] ++ (ys.map D.int).drop (r + 1))) := pt_tup (by simp; omega) (lf_mid h r hx)
theorem lf_int {i : Int} {j : Nat} (hj : j ≤ 9000) (h : i.natAbs < 2 ^ j) : Lf (.int i) := .inl ⟨i, rfl, Nat.lt_of_lt_of_le h (Nat.pow_le_pow_right (by decide) hj)⟩
theorem lf_small {i : Int} (h : i.natAbs < 2) : Lf (.int i) := lf_int (j := 1) (by decide) h
theorem inc_bd {i : Int} {j : Nat} (h : i.natAbs < 2 ^ j) : (i + 1).natAbs < 2 ^ (j + 1) := by
  rw [Nat.pow_succ]
  have := Nat.two_pow_pos j
  omega
def V0 (es : List D) (w : Nat) : List D := [.non, .tup [], .lst es, .tup (es ++ [.int 0]), .tup es.reverse, .tup (es.drop 1), .tup [.str "sum", .int 0, Ri (List.replicate 3 0)], .tup [.str "apart", Ri (List.replicate w 0)]]
theorem pt_small {i : Int} (h : i.natAbs < 2) : Pt (.int i) := pt_int (Nat.lt_of_lt_of_le (m := 2 ^ 1) h (Nat.pow_le_pow_right (by decide) (by decide)))
theorem bd_rep (n : Nat) : Bd 9000 (List.replicate n 0) := fun z hz => by rw [List.eq_of_mem_replicate hz]; exact Nat.two_pow_pos _
theorem V0_ok {es : List D} {w : Nat} (hw : w ≤ 5) (hl : es.length ≤ 3) (h : ∀ e ∈ es, Pt e) : ∀ d ∈ V0 es w, Okv d := fun d hd => by
  simp only [V0, List.mem_cons, List.not_mem_nil, or_false] at hd
  rcases hd with rfl | rfl | rfl | rfl | rfl | rfl | rfl | rfl
  · exact okv_non
  · exact okv_tup (by simp) (by simp)
  · exact okv_lst h
  · exact okv_tup (by simp; omega) fun x hx => (List.mem_append.mp hx).elim (h x) fun hx => by rw [List.mem_singleton.mp hx]; exact pt_small (by decide)
  · exact okv_tup (by simp; omega) fun x hx => h x (List.mem_reverse.mp hx)
  · exact okv_tup (by simp; omega) fun x hx => h x (List.mem_of_mem_drop hx)
  · exact okv_sum (pt_small (by decide)) (pt_ri (by simp) (bd_rep 3))
  · exact okv_apart (pt_ri (by simp; omega) (bd_rep w))
abbrev Sn (n w : Nat) (es : List D) (c3 c4 c5 c6 c7 c8 : DL.Slot) (μ : List Cell) : S := ⟨[.val (.ref n), .val (.int (w : Nat)), .val (.tup es), c3, c4, c5, c6, c7, c8, .no], μ⟩
def nr0 : FS := (dAsgO 3 (dLst (dCons (dC .non) (dCons (dTup dNil) (dCons (dFrz (dBF gList (dCons (dVar 2) dNil))) (dCons (dOp gAdd (dVar 2) (dTup (dCons (dC (.int (0))) dNil))) (dCons (dRev (dVar 2)) (dCons (dSl (dVar 2) (dPart (dC (.int (1)))) dNo) (dCons (dTup (dCons (dC (.str "sum")) (dCons (dC (.int (0))) (dCons (dOp gMul (dTup (dCons (dC (.int (0))) dNil)) (dC (.int (3)))) dNil)))) (dCons (dTup (dCons (dC (.str "apart")) (dCons (dOp gMul (dTup (dCons (dC (.int (0))) dNil)) (dVar 1)) dNil))) dNil))))))))))
theorem nr0_ok {n w : Nat} {es : List D} {μ : List Cell} (hw : w ≤ 5) (hl : es.length ≤ 3) (h1 : 1 ≤ es.length) : nr0 (Sn n w es .no .no .no .no .no .no μ) = .nx (Sn n w es (.own (.lst (V0 es w))) .no .no .no .no .no μ) := by
  have e1 : dFrz (dBF gList (dCons (dVar 2) dNil)) (Sn n w es .no .no .no .no .no .no μ) = .ok (.lst es) (Sn n w es .no .no .no .no .no .no μ) := by
    have : dBF gList (dCons (dVar 2) dNil) (Sn n w es .no .no .no .no .no .no μ) = .ok (.lst es) (Sn n w es .no .no .no .no .no .no μ) := by simp [gList]
    exact frzE_ok this
  have e0 : ∀ s : S, dTup (dCons (dC (.int 0)) dNil) s = .ok (.tup [.int 0]) s := fun s => tup_ok (cons_ok c_ok rfl) rfl (by simp)
  have e2 : dRev (dVar 2) (Sn n w es .no .no .no .no .no .no μ) = .ok (.tup es.reverse) (Sn n w es .no .no .no .no .no .no μ) := by
    unfold dRev; rw [var_ok (d := .tup es) rfl]; rfl
  have e3 : dSl (dVar 2) (dPart (dC (.int (1)))) dNo (Sn n w es .no .no .no .no .no .no μ) = .ok (.tup (es.drop 1)) (Sn n w es .no .no .no .no .no .no μ) := by
    have := cut_from (xs := es) (w := 1) h1
    refine (sl_ok (xs := es) (l := some ((1 : Nat) : Int)) (h := none) (var_ok rfl) (part_ok c_ok) no_ok).trans ?_
    rw [this]
  have e4 : ∀ s : S, gMul s (.tup [.int 0]) (.int 3) = some (Ri (List.replicate 3 0)) := fun s => mulz s 3 (by decide)
  have e5 : ∀ s : S, gMul s (.tup [.int 0]) (.int (w : Nat)) = some (Ri (List.replicate w 0)) := fun s => mulz s w (by omega)
  have e6 : dLst (dCons (dC .non) (dCons (dTup dNil) (dCons (dFrz (dBF gList (dCons (dVar 2) dNil))) (dCons (dOp gAdd (dVar 2) (dTup (dCons (dC (.int (0))) dNil))) (dCons (dRev (dVar 2)) (dCons (dSl (dVar 2) (dPart (dC (.int (1)))) dNo) (dCons (dTup (dCons (dC (.str "sum")) (dCons (dC (.int (0))) (dCons (dOp gMul (dTup (dCons (dC (.int (0))) dNil)) (dC (.int (3)))) dNil)))) (dCons (dTup (dCons (dC (.str "apart")) (dCons (dOp gMul (dTup (dCons (dC (.int (0))) dNil)) (dVar 1)) dNil))) dNil)))))))) (Sn n w es .no .no .no .no .no .no μ) = .ok (.lst (V0 es w)) (Sn n w es .no .no .no .no .no .no μ) :=
    lst_ok (cons_ok c_ok (cons_ok (tup_ok rfl rfl (by simp)) (cons_ok e1 (cons_ok (op_ok (var_ok rfl) (e0 _) (add_tt2 _ _ _ (by simp; omega))) (cons_ok e2 (cons_ok e3 (cons_ok (tup_ok (cons_ok c_ok (cons_ok c_ok (cons_ok (op_ok (e0 _) c_ok (e4 _)) rfl))) rfl (by simp)) (cons_ok (tup_ok (cons_ok c_ok (cons_ok (op_ok (e0 _) (var_ok rfl) (e5 _)) rfl)) rfl (by simp)) rfl)))))))) rfl (by simp [V0])
  unfold nr0
  rw [asgO_ok e6]
  rfl
end K12

namespace K12
open PySem PySem.Spec PyProof.Rows L2 DL
def na4 : FS := (dAsg 4 (dOp gIx (dVar 2) (dC (.int (1)))))
def na5 : FS := (dAsg 5 (dCall F_L_roll (dCons (dVar 0) (dCons (dVar 1) dNil))))
def na6 : FS := (dAsgO 3 (dCat (dVar 3) (dFrz (dLst (dCons (dTup (dCons (dC (.str "apart")) (dCons (midE 4 (dOp gAdd (dOp gIx (dVar 4) (dVar 5)) (dC (.int (1))))) dNil))) (dCons (dTup (dCons (dC (.str "apart")) (dCons (dFrz (dBF gList (dCons (dVar 4) dNil))) dNil))) (dCons (dTup (dCons (dC (.str "apart")) (dCons (dOp gAdd (dVar 4) (dTup (dCons (dC (.int (0))) dNil))) dNil))) dNil)))))))
def na7 : FS := (dRet (dOp gAdd (dVar 3) (dFrz (dLst (dCons (dTup (dCons (dC (.str "apart")) (dCons (midE 4 (dC (.bl true))) dNil))) (dCons (dOp gAdd (dTup (dCons (dC (.str "sum")) dNil)) (dSl (dVar 2) (dPart (dC (.int (1)))) dNo)) (dCons (dTup (dCons (dC (.str "apart")) (dCons (dC .non) dNil))) dNil)))))))
def nIf : FS := (dIfS (dCmpT eqS (dOp gIx (dVar 2) (dC (.int (0)))) (dC (.str "apart"))) (dSeq na4 (dSeq na5 (dSeq na6 na7))) dSkip)
def ns1 : FS := (dAsgG (dVar 2) (gT (gC (gNm 6) (gC (gNm 7) (gC (gNm 8) gN)))))
def ns2 : FS := (dAsgO 3 (dCat (dVar 3) (dFrz (dLst (dCons (dTup (dCons (dC (.str "sum")) (dCons (dOp gSub (dC (.int (0))) (dVar 7)) (dCons (dVar 8) dNil)))) (dCons (dTup (dCons (dC (.str "sum")) (dCons (dC (.int (0))) (dCons (dVar 8) dNil)))) (dCons (dTup (dCons (dC (.str "sum")) (dCons (dOp gAdd (dVar 7) (dC (.int (1)))) (dCons (dVar 8) dNil)))) (dCons (dTup (dCons (dC (.str "apart")) (dCons (dVar 8) dNil))) dNil))))))))
def ns3 : FS := (dAsgO 3 (dCat (dVar 3) (dFrz (dLst (dCons (dTup (dCons (dC (.str "sum")) (dCons (dVar 7) (dCons (dFrz (dBF gList (dCons (dVar 8) dNil))) dNil)))) (dCons (dTup (dCons (dC (.str "sum")) (dCons (dVar 7) (dCons (dOp gAdd (dVar 8) (dTup (dCons (dC (.int (0))) dNil))) dNil)))) (dCons (dTup (dCons (dC (.str "sum")) (dCons (dC (.bl true)) (dCons (dVar 8) dNil)))) dNil)))))))
def ns4 : FS := (dAsg 5 (dCall F_L_roll (dCons (dVar 0) (dCons (dB gLen (dCons (dVar 8) dNil)) dNil))))
def ns5 : FS := (dDrop (dM "list" gAppend (dVar 3) (dCons (dTup (dCons (dC (.str "sum")) (dCons (dVar 7) (dCons (midE 8 (dOp gAdd (dOp gIx (dVar 8) (dVar 5)) (dC (.int (1))))) dNil)))) dNil)))
def ns6 : FS := (dDrop (dM "list" gAppend (dVar 3) (dCons (dTup (dCons (dC (.str "sum")) (dCons (dVar 7) (dCons (dB gTuple (dCons (dFrz (dLc [9] (dIter (dVar 8)) (gNm 9) dYes (dOp gSub (dC (.int (0))) (dVar 9)))) dNil)) dNil)))) dNil)))
theorem near_split : b_L_near = dSeq nr0 (dSeq nIf (dSeq ns1 (dSeq ns2 (dSeq ns3 (dSeq (dIfS (dCmpT neS (dVar 8) (dTup dNil)) (dSeq ns4 (dSeq ns5 ns6)) dSkip) (dRet (dFrz (dTake 3)))))))) := rfl
section
variable {n w : Nat} {es : List D} {y : List Int} {V : List D} {μ : List Cell}
theorem tup2 {a b : D} {fa fb : FE} {s : S} (h1 : fa s = .ok a s) (h2 : fb s = .ok b s) (na : noOwn a = true) (nb : noOwn b = true) : dTup (dCons fa (dCons fb dNil)) s = .ok (.tup [a, b]) s := tup_ok (cons_ok h1 (cons_ok h2 rfl)) (by simp [na, nb]) (by simp)
theorem tup3 {a b c : D} {fa fb fc : FE} {s : S} (h1 : fa s = .ok a s) (h2 : fb s = .ok b s) (h3 : fc s = .ok c s) (na : noOwn a = true) (nb : noOwn b = true) (nc : noOwn c = true) : dTup (dCons fa (dCons fb (dCons fc dNil))) s = .ok (.tup [a, b, c]) s := tup_ok (cons_ok h1 (cons_ok h2 (cons_ok h3 rfl))) (by simp [na, nb, nc]) (by simp)
theorem frzList {i : Nat} {s : S} {xs : List D} (h : s.δ[i]? = some (.val (.tup xs))) : dFrz (dBF gList (dCons (dVar i) dNil)) s = .ok (.lst xs) s := by
  have : dBF gList (dCons (dVar i) dNil) s = .ok (.lst xs) s := by
    have e : dCons (dVar i) dNil s = .ok [.tup xs] s := cons_ok (var_ok h) rfl
    rw [ap_BF, e, bind_ok]; rfl
  exact frzE_ok this
theorem na6_ok {r : Nat} (hl : y.length ≤ 60) (hr : r < y.length) (hV : V.length ≤ 100) : na6 (Sn n w es (.own (.lst V)) (.val (Ri y)) (.val (.int (r : Nat))) .no .no .no μ) = .nx (Sn n w es (.own (.lst (V ++ [.tup [.str "apart", .tup ((y.map D.int).take r ++ [.int (at0 y r + 1)] ++ (y.map D.int).drop (r + 1))], .tup [.str "apart", .lst (y.map .int)], .tup [.str "apart", .tup (y.map .int ++ [.int 0])]]))) (.val (Ri y)) (.val (.int (r : Nat))) .no .no .no μ) := by
  have e1 : ∀ s : S, gIx s (.tup (y.map .int)) (.int (r : Nat)) = some (.int (at0 y r)) := fun s => ix_at hr
  have e0 : ∀ s : S, dTup (dCons (dC (.int 0)) dNil) s = .ok (.tup [.int 0]) s := fun s => tup_ok (cons_ok c_ok rfl) rfl (by simp)
  have m1 := mid_ok (i := 4) (r := r) (fe := dOp gAdd (dOp gIx (dVar 4) (dVar 5)) (dC (.int (1)))) (s := Sn n w es (.own (.lst V)) (.val (Ri y)) (.val (.int (r : Nat))) .no .no .no μ) (ys := y.map .int) (x := .int (at0 y r + 1)) rfl rfl (by simpa using hr) (by simp; omega) (op_ok (op_ok (var_ok rfl) (var_ok rfl) (e1 _)) c_ok (add_ii _ _ _)) rfl
  have e2 := cat_ok (fa := dVar 3) (fb := dFrz (dLst (dCons (dTup (dCons (dC (.str "apart")) (dCons (midE 4 (dOp gAdd (dOp gIx (dVar 4) (dVar 5)) (dC (.int (1))))) dNil))) (dCons (dTup (dCons (dC (.str "apart")) (dCons (dFrz (dBF gList (dCons (dVar 4) dNil))) dNil))) (dCons (dTup (dCons (dC (.str "apart")) (dCons (dOp gAdd (dVar 4) (dTup (dCons (dC (.int (0))) dNil))) dNil))) dNil)))))
    (s := Sn n w es (.own (.lst V)) (.val (Ri y)) (.val (.int (r : Nat))) .no .no .no μ) (x := V) (y := [.tup [.str "apart", .tup ((y.map D.int).take r ++ [.int (at0 y r + 1)] ++ (y.map D.int).drop (r + 1))], .tup [.str "apart", .lst (y.map .int)], .tup [.str "apart", .tup (y.map .int ++ [.int 0])]])
    (var_own rfl) (frzE_ok (lst_ok (cons_ok (tup2 c_ok m1 rfl rfl) (cons_ok (tup2 c_ok (frzList rfl) rfl rfl) (cons_ok (tup2 c_ok (op_ok (var_ok rfl) (e0 _) (add_tt2 _ _ _ (by simp; omega))) rfl rfl) rfl))) rfl (by simp))) (asl_own rfl) rfl (by simp; omega)
  unfold na6
  rw [asgO_ok e2]
  rfl
theorem na7_ok {r : Nat} (hl : y.length ≤ 60) (hr : r < y.length) (hV : V.length ≤ 100) (he : 1 ≤ es.length) (he2 : es.length ≤ 60) : na7 (Sn n w es (.own (.lst V)) (.val (Ri y)) (.val (.int (r : Nat))) .no .no .no μ) = .rt (.lst (V ++ [.tup [.str "apart", .tup ((y.map D.int).take r ++ [.bl true] ++ (y.map D.int).drop (r + 1))], .tup ([.str "sum"] ++ es.drop 1), .tup [.str "apart", .non]])) (Sn n w es (.own (.lst V)) (.val (Ri y)) (.val (.int (r : Nat))) .no .no .no μ) := by
  have m1 := mid_ok (i := 4) (r := r) (fe := dC (.bl true)) (s := Sn n w es (.own (.lst V)) (.val (Ri y)) (.val (.int (r : Nat))) .no .no .no μ) (ys := y.map .int) (x := .bl true) rfl rfl (by simpa using hr) (by simp; omega) c_ok rfl
  have e3 : dSl (dVar 2) (dPart (dC (.int (1)))) dNo (Sn n w es (.own (.lst V)) (.val (Ri y)) (.val (.int (r : Nat))) .no .no .no μ) = .ok (.tup (es.drop 1)) (Sn n w es (.own (.lst V)) (.val (Ri y)) (.val (.int (r : Nat))) .no .no .no μ) := by
    have := cut_from (xs := es) (w := 1) he
    refine (sl_ok (xs := es) (l := some ((1 : Nat) : Int)) (h := none) (var_ok rfl) (part_ok c_ok) no_ok).trans ?_
    rw [this]
  have e0 : ∀ s : S, dTup (dCons (dC (.str "sum")) dNil) s = .ok (.tup [.str "sum"]) s := fun s => tup_ok (cons_ok c_ok rfl) rfl (by simp)
  have e2 := op_ok (g := gAdd) (fa := dVar 3) (fb := dFrz (dLst (dCons (dTup (dCons (dC (.str "apart")) (dCons (midE 4 (dC (.bl true))) dNil))) (dCons (dOp gAdd (dTup (dCons (dC (.str "sum")) dNil)) (dSl (dVar 2) (dPart (dC (.int (1)))) dNo)) (dCons (dTup (dCons (dC (.str "apart")) (dCons (dC .non) dNil))) dNil)))))
    (s := Sn n w es (.own (.lst V)) (.val (Ri y)) (.val (.int (r : Nat))) .no .no .no μ) (var_own rfl) (frzE_ok (lst_ok (cons_ok (tup2 c_ok m1 rfl rfl) (cons_ok (op_ok (e0 _) e3 (add_tt2 _ _ _ (by simp; omega))) (cons_ok (tup2 c_ok c_ok rfl rfl) rfl))) rfl (by simp))) (add_own (V := V) rfl (by simp; omega))
  unfold na7
  rw [ap_Ret, e2]
  rfl
end
theorem near_apart {n w k : Nat} {y : List Int} {μ : List Cell} (h1 : 1 ≤ w) (hw : w ≤ 5) (hl : y.length = w) (hb : Bd 8000 y) (h : Dc k n μ) (hk : k ≤ 90000) : ∃ (V : List D) (μ' : List Cell), F_L_near [.ref n, .int (w : Nat), .tup [.str "apart", Ri y]] μ = .ok (.lst V) μ' ∧ (∀ d ∈ V, Okv d) ∧ V.length ≤ 100 ∧ Dc (k + 1) n μ' := by
  obtain ⟨r, μ', e, hr, d⟩ := roll_ok (t := (w : Int)) h (by omega) (by omega) (by omega)
  have hr : r < y.length := by omega
  have hb9 : Bd 8900 y := hb.mono (by decide)
  have hpt : ∀ e ∈ [D.str "apart", Ri y], Pt e := fun e he => by
    simp only [List.mem_cons, List.not_mem_nil, or_false] at he
    rcases he with rfl | rfl
    · exact pt_apart
    · exact pt_ri (by omega) (hb.mono (by decide))
  refine ⟨V0 [.str "apart", Ri y] w ++ [.tup [.str "apart", .tup ((y.map D.int).take r ++ [.int (at0 y r + 1)] ++ (y.map D.int).drop (r + 1))], .tup [.str "apart", .lst (y.map .int)], .tup [.str "apart", .tup (y.map .int ++ [.int 0])]] ++ [.tup [.str "apart", .tup ((y.map D.int).take r ++ [.bl true] ++ (y.map D.int).drop (r + 1))], .tup ([.str "sum"] ++ [D.str "apart", Ri y].drop 1), .tup [.str "apart", .non]], μ', ?_, fun x hx => ?_, by simp [V0], d⟩
  · have e1 : ∀ s : S, gIx s (.tup [.str "apart", Ri y]) (.int 0) = some (.str "apart") := fun s => ix_0 s _ _
    have e2 : ∀ s : S, gIx s (.tup [.str "apart", Ri y]) (.int 1) = some (Ri y) := fun s => ix_1 s _ _ _
    have t : b_L_near ⟨[.val (.ref n), .val (.int (w : Nat)), .val (.tup [.str "apart", Ri y]), .no, .no, .no, .no, .no, .no, .no], μ⟩ = .rt (.lst (V0 [.str "apart", Ri y] w ++ [.tup [.str "apart", .tup ((y.map D.int).take r ++ [.int (at0 y r + 1)] ++ (y.map D.int).drop (r + 1))], .tup [.str "apart", .lst (y.map .int)], .tup [.str "apart", .tup (y.map .int ++ [.int 0])]] ++ [.tup [.str "apart", .tup ((y.map D.int).take r ++ [.bl true] ++ (y.map D.int).drop (r + 1))], .tup ([.str "sum"] ++ [D.str "apart", Ri y].drop 1), .tup [.str "apart", .non]]))
      (Sn n w [.str "apart", Ri y] (.own (.lst (V0 [.str "apart", Ri y] w ++ [.tup [.str "apart", .tup ((y.map D.int).take r ++ [.int (at0 y r + 1)] ++ (y.map D.int).drop (r + 1))], .tup [.str "apart", .lst (y.map .int)], .tup [.str "apart", .tup (y.map .int ++ [.int 0])]]))) (.val (Ri y)) (.val (.int (r : Nat))) .no .no .no μ') := by
      rw [near_split]
      refine (seq_nx (nr0_ok hw (by simp) (by simp))).trans ?_
      have e3 : nIf (Sn n w [.str "apart", Ri y] (.own (.lst (V0 [.str "apart", Ri y] w))) .no .no .no .no .no μ) = (dSeq na4 (dSeq na5 (dSeq na6 na7))) (Sn n w [.str "apart", Ri y] (.own (.lst (V0 [.str "apart", Ri y] w))) .no .no .no .no .no μ) := by
        unfold nIf
        rw [ap_IfS]
        have : (dCmpT eqS (dOp gIx (dVar 2) (dC (.int (0)))) (dC (.str "apart"))) (Sn n w [.str "apart", Ri y] (.own (.lst (V0 [.str "apart", Ri y] w))) .no .no .no .no .no μ) = .ok true (Sn n w [.str "apart", Ri y] (.own (.lst (V0 [.str "apart", Ri y] w))) .no .no .no .no .no μ) := by simp [e1]
        rw [this]
      have e4 : na4 (Sn n w [.str "apart", Ri y] (.own (.lst (V0 [.str "apart", Ri y] w))) .no .no .no .no .no μ) = .nx (Sn n w [.str "apart", Ri y] (.own (.lst (V0 [.str "apart", Ri y] w))) (.val (Ri y)) .no .no .no .no μ) := asg_ok (op_ok (var_ok rfl) c_ok (e2 _)) rfl
      have e5 : na5 (Sn n w [.str "apart", Ri y] (.own (.lst (V0 [.str "apart", Ri y] w))) (.val (Ri y)) .no .no .no .no μ) = .nx (Sn n w [.str "apart", Ri y] (.own (.lst (V0 [.str "apart", Ri y] w))) (.val (Ri y)) (.val (.int (r : Nat))) .no .no .no μ') := asg_okμ (call_okμ (s1 := Sn n w [.str "apart", Ri y] (.own (.lst (V0 [.str "apart", Ri y] w))) (.val (Ri y)) .no .no .no .no μ) (ds := [.ref n, .int (w : Nat)]) (cons_ok (var_ok rfl) (cons_ok (var_ok rfl) rfl)) rfl e) rfl
      have e6 := na6_ok (n := n) (w := w) (es := [.str "apart", Ri y]) (y := y) (V := V0 [.str "apart", Ri y] w) (μ := μ') (r := r) (by omega) hr (by simp [V0])
      have e7 := na7_ok (n := n) (w := w) (es := [.str "apart", Ri y]) (y := y) (V := V0 [.str "apart", Ri y] w ++ [.tup [.str "apart", .tup ((y.map D.int).take r ++ [.int (at0 y r + 1)] ++ (y.map D.int).drop (r + 1))], .tup [.str "apart", .lst (y.map .int)], .tup [.str "apart", .tup (y.map .int ++ [.int 0])]]) (μ := μ') (r := r) (by omega) hr (by simp [V0]) (by simp) (by simp)
      rw [ap_Seq, e3, seq_nx e4, seq_nx e5, seq_nx e6, e7]
    exact runF_rt (n := 10) (ds := [.ref n, .int (w : Nat), .tup [.str "apart", Ri y]]) t
  · rcases List.mem_append.mp hx with hx | hx
    · rcases List.mem_append.mp hx with hx | hx
      · exact V0_ok hw (by simp) hpt x hx
      · simp only [List.mem_cons, List.not_mem_nil, or_false] at hx
        rcases hx with rfl | rfl | rfl
        · exact okv_apart (pt_mid hb9 (by omega) r (lf_int (j := 8001) (by decide) (inc_bd (bd_at hb r))))
        · exact okv_apart (pt_lst (lf_ri (hb.mono (by decide))))
        · exact okv_apart (pt_tup (by simp; omega) fun z hz => (List.mem_append.mp hz).elim (lf_ri (hb.mono (by decide)) z) fun hz => by rw [List.mem_singleton.mp hz]; exact lf_small (by decide))
    · simp only [List.mem_cons, List.not_mem_nil, or_false] at hx
      rcases hx with rfl | rfl | rfl
      · exact okv_apart (pt_mid hb9 (by omega) r (.inr ⟨_, rfl⟩))
      · exact okv_tup (by simp) fun z hz => by
          rcases List.mem_append.mp hz with hz | hz
          · rw [List.mem_singleton.mp hz]; exact pt_sum
          · exact hpt z (List.mem_of_mem_drop hz)
      · exact okv_apart pt_non
end K12

namespace K12
open PySem PySem.Spec PyProof.Rows L2 DL
section
variable {n w : Nat} {es : List D} {t : Int} {cs : List Int} {V : List D} {x6 c5 : DL.Slot} {μ : List Cell}
def U2 (t : Int) (cs : List Int) : List D := [.tup [.str "sum", .int (0 - t), Ri cs], .tup [.str "sum", .int 0, Ri cs], .tup [.str "sum", .int (t + 1), Ri cs], .tup [.str "apart", Ri cs]]
def U3 (t : Int) (cs : List Int) : List D := [.tup [.str "sum", .int t, .lst (cs.map .int)], .tup [.str "sum", .int t, .tup (cs.map .int ++ [.int 0])], .tup [.str "sum", .bl true, Ri cs]]
theorem ns2_ok (hV : V.length ≤ 100) : ns2 (Sn n w es (.own (.lst V)) .no .no x6 (.val (.int t)) (.val (Ri cs)) μ) = .nx (Sn n w es (.own (.lst (V ++ U2 t cs))) .no .no x6 (.val (.int t)) (.val (Ri cs)) μ) := by
  have e2 := cat_ok (fa := dVar 3) (fb := (dFrz (dLst (dCons (dTup (dCons (dC (.str "sum")) (dCons (dOp gSub (dC (.int (0))) (dVar 7)) (dCons (dVar 8) dNil)))) (dCons (dTup (dCons (dC (.str "sum")) (dCons (dC (.int (0))) (dCons (dVar 8) dNil)))) (dCons (dTup (dCons (dC (.str "sum")) (dCons (dOp gAdd (dVar 7) (dC (.int (1)))) (dCons (dVar 8) dNil)))) (dCons (dTup (dCons (dC (.str "apart")) (dCons (dVar 8) dNil))) dNil)))))))
    (s := Sn n w es (.own (.lst V)) .no .no x6 (.val (.int t)) (.val (Ri cs)) μ) (x := V) (y := U2 t cs)
    (var_own rfl) (frzE_ok (lst_ok (cons_ok (tup3 c_ok (op_ok c_ok (var_ok rfl) (sub_ii _ _ _)) (var_ok rfl) rfl rfl rfl) (cons_ok (tup3 c_ok c_ok (var_ok rfl) rfl rfl rfl) (cons_ok (tup3 c_ok (op_ok (var_ok rfl) c_ok (add_ii _ _ _)) (var_ok rfl) rfl rfl rfl) (cons_ok (tup2 c_ok (var_ok rfl) rfl rfl) rfl)))) rfl (by simp))) (asl_own rfl) rfl (by simp [U2]; omega)
  unfold ns2
  rw [asgO_ok e2]
  rfl
theorem ns3_ok (hV : V.length ≤ 100) (hc : cs.length ≤ 60) : ns3 (Sn n w es (.own (.lst V)) .no .no x6 (.val (.int t)) (.val (Ri cs)) μ) = .nx (Sn n w es (.own (.lst (V ++ U3 t cs))) .no .no x6 (.val (.int t)) (.val (Ri cs)) μ) := by
  have e0 : ∀ s : S, dTup (dCons (dC (.int 0)) dNil) s = .ok (.tup [.int 0]) s := fun s => tup_ok (cons_ok c_ok rfl) rfl (by simp)
  have e2 := cat_ok (fa := dVar 3) (fb := (dFrz (dLst (dCons (dTup (dCons (dC (.str "sum")) (dCons (dVar 7) (dCons (dFrz (dBF gList (dCons (dVar 8) dNil))) dNil)))) (dCons (dTup (dCons (dC (.str "sum")) (dCons (dVar 7) (dCons (dOp gAdd (dVar 8) (dTup (dCons (dC (.int (0))) dNil))) dNil)))) (dCons (dTup (dCons (dC (.str "sum")) (dCons (dC (.bl true)) (dCons (dVar 8) dNil)))) dNil))))))
    (s := Sn n w es (.own (.lst V)) .no .no x6 (.val (.int t)) (.val (Ri cs)) μ) (x := V) (y := U3 t cs)
    (var_own rfl) (frzE_ok (lst_ok (cons_ok (tup3 c_ok (var_ok rfl) (frzList rfl) rfl rfl rfl) (cons_ok (tup3 c_ok (var_ok rfl) (op_ok (var_ok rfl) (e0 _) (add_tt2 _ _ _ (by simp; omega))) rfl rfl rfl) (cons_ok (tup3 c_ok c_ok (var_ok rfl) rfl rfl rfl) rfl))) rfl (by simp))) (asl_own rfl) rfl (by simp [U3]; omega)
  unfold ns3
  rw [asgO_ok e2]
  rfl
theorem ns5_ok {r : Nat} (hV : V.length ≤ 100) (hc : cs.length ≤ 60) (hr : r < cs.length) : ns5 (Sn n w es (.own (.lst V)) .no (.val (.int (r : Nat))) x6 (.val (.int t)) (.val (Ri cs)) μ) = .nx (Sn n w es (.own (.lst (V ++ [.tup [.str "sum", .int t, .tup ((cs.map D.int).take r ++ [.int (at0 cs r + 1)] ++ (cs.map D.int).drop (r + 1))]]))) .no (.val (.int (r : Nat))) x6 (.val (.int t)) (.val (Ri cs)) μ) := by
  have e1 : ∀ s : S, gIx s (.tup (cs.map .int)) (.int (r : Nat)) = some (.int (at0 cs r)) := fun s => ix_at hr
  have m1 := mid_ok (i := 8) (r := r) (fe := dOp gAdd (dOp gIx (dVar 8) (dVar 5)) (dC (.int (1)))) (s := Sn n w es (.own (.lst V)) .no (.val (.int (r : Nat))) x6 (.val (.int t)) (.val (Ri cs)) μ) (ys := cs.map .int) (x := .int (at0 cs r + 1)) rfl rfl (by simpa using hr) (by simp; omega) (op_ok (op_ok (var_ok rfl) (var_ok rfl) (e1 _)) c_ok (add_ii _ _ _)) rfl
  exact apd_ok (s1 := Sn n w es (.own (.lst V)) .no (.val (.int (r : Nat))) x6 (.val (.int t)) (.val (Ri cs)) μ) rfl (tup3 c_ok (var_ok rfl) m1 rfl rfl rfl) rfl (by omega) rfl
theorem negs_comp (a0 a1 a2 a3 a4 a5 a6 a7 a8 : DL.Slot) : ∀ xs : List Int, dLcGo [9] (gNm 9) dYes (dOp gSub (dC (.int (0))) (dVar 9)) (xs.map .int) ⟨[a0, a1, a2, a3, a4, a5, a6, a7, a8, .no], μ⟩ = .ok ((xs.map fun x => 0 - x).map .int) ⟨[a0, a1, a2, a3, a4, a5, a6, a7, a8, .no], μ⟩
  | [] => rfl
  | x :: xs => by
    have ih := negs_comp a0 a1 a2 a3 a4 a5 a6 a7 a8 xs
    simp only [List.map_map] at ih
    simp [dLcGo, wipeD, backD, ih]
theorem ns6_ok {r : Nat} (hV : V.length ≤ 100) (hc : cs.length ≤ 60) : ns6 (Sn n w es (.own (.lst V)) .no (.val (.int (r : Nat))) x6 (.val (.int t)) (.val (Ri cs)) μ) = .nx (Sn n w es (.own (.lst (V ++ [.tup [.str "sum", .int t, Ri (cs.map fun x => 0 - x)]]))) .no (.val (.int (r : Nat))) x6 (.val (.int t)) (.val (Ri cs)) μ) := by
  have e := negs_comp (μ := μ) (.val (.ref n)) (.val (.int (w : Nat))) (.val (.tup es)) (.own (.lst V)) .no (.val (.int (r : Nat))) x6 (.val (.int t)) (.val (Ri cs)) cs
  have e2 : dB gTuple (dCons (dFrz (dLc [9] (dIter (dVar 8)) (gNm 9) dYes (dOp gSub (dC (.int (0))) (dVar 9)))) dNil) (Sn n w es (.own (.lst V)) .no (.val (.int (r : Nat))) x6 (.val (.int t)) (.val (Ri cs)) μ) = .ok (Ri (cs.map fun x => 0 - x)) (Sn n w es (.own (.lst V)) .no (.val (.int (r : Nat))) x6 (.val (.int t)) (.val (Ri cs)) μ) :=
    tup_lc (lc_ok (iter_ok (d := Ri cs) (var_ok rfl) rfl) (by simp; omega) rfl e) (tup_ints _ _)
  exact apd_ok (s1 := Sn n w es (.own (.lst V)) .no (.val (.int (r : Nat))) x6 (.val (.int t)) (.val (Ri cs)) μ) rfl (tup3 c_ok (var_ok rfl) e2 rfl rfl rfl) rfl (by omega) rfl
end
theorem near_sum {n w k : Nat} {t : Int} {cs : List Int} {μ : List Cell} (hw : w ≤ 5) (ht : t.natAbs < 2 ^ 8000) (hl : cs.length ≤ 6) (hb : Bd 8000 cs) (h : Dc k n μ) (hk : k ≤ 90000) : ∃ (V : List D) (μ' : List Cell), F_L_near [.ref n, .int (w : Nat), .tup [.str "sum", .int t, Ri cs]] μ = .ok (.lst V) μ' ∧ (∀ d ∈ V, Okv d) ∧ V.length ≤ 100 ∧ Dc (k + 1) n μ' := by
  have hb9 : Bd 8900 cs := hb.mono (by decide)
  have hbig : ∀ {i : Int}, i.natAbs < 2 ^ 8001 → Pt (.int i) := fun hi => pt_int (Nat.lt_of_lt_of_le hi (Nat.pow_le_pow_right (by decide) (by decide)))
  have ht1 : t.natAbs < 2 ^ 8001 := Nat.lt_of_lt_of_le ht (Nat.pow_le_pow_right (by decide) (by decide))
  have pt : Pt (.int t) := hbig ht1
  have pc : Pt (Ri cs) := pt_ri (by omega) (hb.mono (by decide))
  have hpt : ∀ e ∈ [D.str "sum", .int t, Ri cs], Pt e := fun e he => by
    simp only [List.mem_cons, List.not_mem_nil, or_false] at he
    rcases he with rfl | rfl | rfl
    · exact pt_sum
    · exact pt
    · exact pc
  have e1 : ∀ s : S, gIx s (.tup [.str "sum", .int t, Ri cs]) (.int 0) = some (.str "sum") := fun s => ix_0 s _ _
  have o2 : ∀ d ∈ U2 t cs, Okv d := fun d hd => by
    simp only [U2, List.mem_cons, List.not_mem_nil, or_false] at hd
    rcases hd with rfl | rfl | rfl | rfl
    · exact okv_sum (hbig (by omega)) pc
    · exact okv_sum (pt_small (by decide)) pc
    · exact okv_sum (hbig (inc_bd ht)) pc
    · exact okv_apart pc
  have o3 : ∀ d ∈ U3 t cs, Okv d := fun d hd => by
    simp only [U3, List.mem_cons, List.not_mem_nil, or_false] at hd
    rcases hd with rfl | rfl | rfl
    · exact okv_sum pt (pt_lst (lf_ri (hb.mono (by decide))))
    · exact okv_sum pt (pt_tup (by simp; omega) fun z hz => (List.mem_append.mp hz).elim (lf_ri (hb.mono (by decide)) z) fun hz => by rw [List.mem_singleton.mp hz]; exact lf_small (by decide))
    · exact okv_sum (pt_bl true) pc
  have o0 := V0_ok hw (by simp) hpt
  have oA : ∀ d ∈ V0 [.str "sum", .int t, Ri cs] w ++ U2 t cs ++ U3 t cs, Okv d := fun d hd => by
    rcases List.mem_append.mp hd with hd | hd
    · rcases List.mem_append.mp hd with hd | hd
      · exact o0 d hd
      · exact o2 d hd
    · exact o3 d hd
  have lA : (V0 [.str "sum", .int t, Ri cs] w ++ U2 t cs ++ U3 t cs).length ≤ 20 := by simp [V0, U2, U3]
  have l0 : (V0 [.str "sum", .int t, Ri cs] w).length ≤ 20 := by simp [V0]
  have l2 : (V0 [.str "sum", .int t, Ri cs] w ++ U2 t cs).length ≤ 20 := by simp [V0, U2]
  have pre : ∀ g : FS, dSeq nr0 (dSeq nIf (dSeq ns1 (dSeq ns2 (dSeq ns3 g)))) (Sn n w [.str "sum", .int t, Ri cs] .no .no .no .no .no .no μ) = g (Sn n w [.str "sum", .int t, Ri cs] (.own (.lst (V0 [.str "sum", .int t, Ri cs] w ++ U2 t cs ++ U3 t cs))) .no .no (.val (.str "sum")) (.val (.int t)) (.val (Ri cs)) μ) := fun g => by
    have e0 := nr0_ok (n := n) (w := w) (es := [.str "sum", .int t, Ri cs]) (μ := μ) hw (by simp) (by simp)
    have e3 : nIf (Sn n w [.str "sum", .int t, Ri cs] (.own (.lst (V0 [.str "sum", .int t, Ri cs] w))) .no .no .no .no .no μ) = .nx (Sn n w [.str "sum", .int t, Ri cs] (.own (.lst (V0 [.str "sum", .int t, Ri cs] w))) .no .no .no .no .no μ) := by
      unfold nIf
      rw [ap_IfS]
      have hn : (("sum" : Str) == ("apart" : Str)) = false := by decide
      have : (dCmpT eqS (dOp gIx (dVar 2) (dC (.int (0)))) (dC (.str "apart"))) (Sn n w [.str "sum", .int t, Ri cs] (.own (.lst (V0 [.str "sum", .int t, Ri cs] w))) .no .no .no .no .no μ) = .ok false (Sn n w [.str "sum", .int t, Ri cs] (.own (.lst (V0 [.str "sum", .int t, Ri cs] w))) .no .no .no .no .no μ) := by simp [e1, hn]
      rw [this]
      rfl
    generalize V0 [.str "sum", .int t, Ri cs] w = W at *
    have e4 : ns1 (Sn n w [.str "sum", .int t, Ri cs] (.own (.lst W)) .no .no .no .no .no μ) = .nx (Sn n w [.str "sum", .int t, Ri cs] (.own (.lst W)) .no .no (.val (.str "sum")) (.val (.int t)) (.val (Ri cs)) μ) := by
      simp [ns1, dAsgG]
    have e5 := ns2_ok (n := n) (w := w) (es := [.str "sum", .int t, Ri cs]) (V := W) (t := t) (cs := cs) (x6 := .val (.str "sum")) (μ := μ) (by omega)
    have e6 := ns3_ok (n := n) (w := w) (es := [.str "sum", .int t, Ri cs]) (V := W ++ U2 t cs) (t := t) (cs := cs) (x6 := .val (.str "sum")) (μ := μ) (by omega) (by omega)
    rw [seq_nx e0, seq_nx e3, seq_nx e4, seq_nx e5, seq_nx e6]
  generalize V0 [.str "sum", .int t, Ri cs] w ++ U2 t cs ++ U3 t cs = W at *
  have fin : ∀ {W' : List D} {c5 : DL.Slot} {μ' : List Cell}, dRet (dFrz (dTake 3)) (Sn n w [.str "sum", .int t, Ri cs] (.own (.lst W')) .no c5 (.val (.str "sum")) (.val (.int t)) (.val (Ri cs)) μ') = .rt (.lst W') (Sn n w [.str "sum", .int t, Ri cs] .no .no c5 (.val (.str "sum")) (.val (.int t)) (.val (Ri cs)) μ') := fun {W' c5 μ'} => by
    simp [dTake, Cell.toD]
  by_cases hc : cs = []
  · refine ⟨W, μ, ?_, oA, by omega, h.mono (by omega)⟩
    have t1 : b_L_near (Sn n w [.str "sum", .int t, Ri cs] .no .no .no .no .no .no μ) = .rt (.lst W) (Sn n w [.str "sum", .int t, Ri cs] .no .no .no (.val (.str "sum")) (.val (.int t)) (.val (Ri cs)) μ) := by
      rw [near_split, pre]
      have e7 : (dIfS (dCmpT neS (dVar 8) (dTup dNil)) (dSeq ns4 (dSeq ns5 ns6)) dSkip) (Sn n w [.str "sum", .int t, Ri cs] (.own (.lst W)) .no .no (.val (.str "sum")) (.val (.int t)) (.val (Ri cs)) μ) = .nx (Sn n w [.str "sum", .int t, Ri cs] (.own (.lst W)) .no .no (.val (.str "sum")) (.val (.int t)) (.val (Ri cs)) μ) := by
        have e8 : ∀ s : S, neS s (.tup (cs.map .int)) (.tup []) = some (.bl false) := fun s => by
          have := ne_rr s cs []
          rw [hc] at this ⊢
          exact this
        simp [-List.map_map, e8]
      rw [seq_nx e7]
      exact fin
    exact runF_rt (n := 10) (ds := [.ref n, .int (w : Nat), .tup [.str "sum", .int t, Ri cs]]) t1
  · have hcl : 1 ≤ cs.length := by
      cases cs with
      | nil => exact absurd rfl hc
      | cons _ _ => simp
    obtain ⟨r, μ', e, hr, d⟩ := roll_ok (t := (cs.length : Int)) h (by omega) (by omega) (by omega)
    have hr : r < cs.length := by omega
    refine ⟨W ++ [.tup [.str "sum", .int t, .tup ((cs.map D.int).take r ++ [.int (at0 cs r + 1)] ++ (cs.map D.int).drop (r + 1))]] ++ [.tup [.str "sum", .int t, Ri (cs.map fun x => 0 - x)]], μ', ?_, fun x hx => ?_, by simp; omega, d⟩
    · have t1 : b_L_near (Sn n w [.str "sum", .int t, Ri cs] .no .no .no .no .no .no μ) = .rt (.lst (W ++ [.tup [.str "sum", .int t, .tup ((cs.map D.int).take r ++ [.int (at0 cs r + 1)] ++ (cs.map D.int).drop (r + 1))]] ++ [.tup [.str "sum", .int t, Ri (cs.map fun x => 0 - x)]])) (Sn n w [.str "sum", .int t, Ri cs] .no .no (.val (.int (r : Nat))) (.val (.str "sum")) (.val (.int t)) (.val (Ri cs)) μ') := by
        rw [near_split, pre]
        have e7 : (dCmpT neS (dVar 8) (dTup dNil)) (Sn n w [.str "sum", .int t, Ri cs] (.own (.lst W)) .no .no (.val (.str "sum")) (.val (.int t)) (.val (Ri cs)) μ) = .ok true (Sn n w [.str "sum", .int t, Ri cs] (.own (.lst W)) .no .no (.val (.str "sum")) (.val (.int t)) (.val (Ri cs)) μ) := by
          have e8 : ∀ s : S, neS s (.tup (cs.map .int)) (.tup []) = some (.bl true) := fun s => by
            have := ne_rr s cs []
            rw [decide_eq_false hc] at this
            exact this
          simp [-List.map_map, e8]
        have e9 : ns4 (Sn n w [.str "sum", .int t, Ri cs] (.own (.lst W)) .no .no (.val (.str "sum")) (.val (.int t)) (.val (Ri cs)) μ) = .nx (Sn n w [.str "sum", .int t, Ri cs] (.own (.lst W)) .no (.val (.int (r : Nat))) (.val (.str "sum")) (.val (.int t)) (.val (Ri cs)) μ') := by
          have e10 : dB gLen (dCons (dVar 8) dNil) (Sn n w [.str "sum", .int t, Ri cs] (.own (.lst W)) .no .no (.val (.str "sum")) (.val (.int t)) (.val (Ri cs)) μ) = .ok (.int (cs.length : Nat)) (Sn n w [.str "sum", .int t, Ri cs] (.own (.lst W)) .no .no (.val (.str "sum")) (.val (.int t)) (.val (Ri cs)) μ) := b_ok (cons_ok (var_ok rfl) rfl) (by rw [len_tup, List.length_map])
          exact asg_okμ (call_okμ (s1 := Sn n w [.str "sum", .int t, Ri cs] (.own (.lst W)) .no .no (.val (.str "sum")) (.val (.int t)) (.val (Ri cs)) μ) (ds := [.ref n, .int (cs.length : Nat)]) (cons_ok (var_ok rfl) (cons_ok e10 rfl)) rfl e) rfl
        have e11 := ns5_ok (n := n) (w := w) (es := [.str "sum", .int t, Ri cs]) (V := W) (t := t) (cs := cs) (x6 := .val (.str "sum")) (μ := μ') (r := r) (by omega) (by omega) hr
        have e12 := ns6_ok (n := n) (w := w) (es := [.str "sum", .int t, Ri cs]) (V := W ++ [.tup [.str "sum", .int t, .tup ((cs.map D.int).take r ++ [.int (at0 cs r + 1)] ++ (cs.map D.int).drop (r + 1))]]) (t := t) (cs := cs) (x6 := .val (.str "sum")) (μ := μ') (r := r) (by simp; omega) (by omega)
        have e13 : (dIfS (dCmpT neS (dVar 8) (dTup dNil)) (dSeq ns4 (dSeq ns5 ns6)) dSkip) (Sn n w [.str "sum", .int t, Ri cs] (.own (.lst W)) .no .no (.val (.str "sum")) (.val (.int t)) (.val (Ri cs)) μ) = .nx (Sn n w [.str "sum", .int t, Ri cs] (.own (.lst (W ++ [.tup [.str "sum", .int t, .tup ((cs.map D.int).take r ++ [.int (at0 cs r + 1)] ++ (cs.map D.int).drop (r + 1))]] ++ [.tup [.str "sum", .int t, Ri (cs.map fun x => 0 - x)]]))) .no (.val (.int (r : Nat))) (.val (.str "sum")) (.val (.int t)) (.val (Ri cs)) μ') := by
          rw [ap_IfS, e7]
          simp only []
          rw [seq_nx e9, seq_nx e11]
          exact e12
        rw [seq_nx e13]
        exact fin
      exact runF_rt (n := 10) (ds := [.ref n, .int (w : Nat), .tup [.str "sum", .int t, Ri cs]]) t1
    · rcases List.mem_append.mp hx with hx | hx
      · rcases List.mem_append.mp hx with hx | hx
        · exact oA x hx
        · rw [List.mem_singleton.mp hx]
          exact okv_sum pt (pt_mid hb9 (by omega) r (lf_int (j := 8001) (by decide) (inc_bd (bd_at hb r))))
      · rw [List.mem_singleton.mp hx]
        refine okv_sum pt (pt_ri (by simp; omega) fun z hz => ?_)
        obtain ⟨i, hi, rfl⟩ := List.mem_map.mp hz
        have := (hb.mono (show 8000 ≤ 9000 by decide)) i hi
        omega
theorem near_ok {n w k : Nat} {rows : List (List Int)} {v : List Int} {P : D} {μ : List Cell} (I : In w rows v) (hP : Paper w rows v P) (h : Dc k n μ) (hk : k ≤ 90000) : ∃ (V : List D) (μ' : List Cell), F_L_near [.ref n, .int (w : Nat), P] μ = .ok (.lst V) μ' ∧ (∀ d ∈ V, Okv d) ∧ V.length ≤ 100 ∧ Dc (k + 1) n μ' := by
  cases hP with
  | sum t cs h1 h2 h3 h4 h5 h6 => exact near_sum I.w5 h2 (by have := I.m6; omega) h4 h hk
  | apart y h1 h2 h3 h4 => exact near_apart I.w1 I.w5 h1 h2 h hk
end K12

namespace K12
open PySem PySem.Spec PyProof.Rows L2 DL
theorem paper_okv {w : Nat} {rows : List (List Int)} {v : List Int} {P : D} (I : In w rows v) (hP : Paper w rows v P) : Okv P := by
  have h5 := I.w5
  have h6 := I.m6
  cases hP with
  | sum t cs h1 h2 h3 h4 h5 h6 => exact okv_sum (pt_int (Nat.lt_of_lt_of_le h2 (Nat.pow_le_pow_right (by decide) (by decide)))) (pt_ri (by omega) (h4.mono (by decide)))
  | apart y h1 h2 h3 h4 => exact okv_apart (pt_ri (by omega) (h2.mono (by decide)))
theorem paper_true {w : Nat} {rows : List (List Int)} {v : List Int} {P : D} (I : In w rows v) (hP : Paper w rows v P) (μ : List Cell) : AskB w rows v P μ true := by
  have O := paper_okv I hP
  cases hP with
  | sum t cs h1 h2 h3 h4 h5 h6 =>
    have := ask_sum I O rfl h1 h3 (h4.mono (by decide)) (Nat.lt_of_lt_of_le h2 (Nat.pow_le_pow_right (by decide) (by decide))) μ
    rw [decide_eq_true (sm_eq (fun o ho => (I.ro o ho).1) I.vl h5)] at this
    exact this
  | apart y h1 h2 h3 h4 =>
    have := ask_apart I O rfl h1 (h2.mono (by decide)) μ
    have e1 : (rows.all fun r => dt r y == 0) = true := by
      rw [List.all_eq_true]
      intro r hr
      rw [dt_comm, h3 r hr]; rfl
    have e2 : (dt v y == 0) = false := by
      rw [dt_comm]; simpa using h4
    rw [e1, e2] at this
    exact this
theorem paper_word {w n : Nat} {rows lot : List (List Int)} {v : List Int} {P : D} (I : In w rows v) (hP : Paper w rows v P) (L : Lt w n lot) (hp : ∀ x, Perp x lot ↔ Perp x rows) : ∃ a xs, P = .tup (.str a :: xs) ∧ decide (lead (rest lot v) = none) = (a == ("sum" : Str)) := by
  cases hP with
  | sum t cs h1 h2 h3 h4 h5 h6 =>
    refine ⟨_, _, rfl, ?_⟩
    have : lead (rest lot v) = none := Classical.byContradiction fun hc => by
      obtain ⟨x, x1, x2⟩ := lines_full L I.vl hc
      obtain ⟨x3, x4⟩ := perp_lines L x1
      exact x2 (h6 x x3 ((hp x).mp x4))
    rw [decide_eq_true this]
    rfl
  | apart y h1 h2 h3 h4 =>
    refine ⟨_, _, rfl, ?_⟩
    have : lead (rest lot v) ≠ none := fun hc => by
      obtain ⟨a, ha, e⟩ := rest_dt (fun o ho => ⟨L.len o ho, L.ld o ho⟩) I.vl
      have := e y ((hp y).mpr h3)
      rw [dt_zero (lead_none_at hc)] at this
      rcases Int.mul_eq_zero.mp this.symm with z | z
      · exact ha z
      · exact h4 z
    rw [decide_eq_false this]
    exact apart_ne.symm
theorem callF_ok {F : FF} {fa : FA} {s s1 : S} {ds : List D} {c : Cell} {μ' : List Cell} (h : fa s = .ok ds s1) (hn : ds.all noOwn = true) (e : F ds s1.μ = .okc c μ') : dCallF F fa s = .ok c { s1 with μ := μ' } := by
  rw [ap_CallF, h, bind_ok]
  simp only [hn, e, if_true]
theorem add_ll2 (s : S) (a b : List D) (h : a.length + b.length ≤ 16777216) : gAdd s (.lst a) (.lst b) = some (.lst (a ++ b)) := add_ll s a b h
abbrev Sx (n w : Nat) (c2 c3 c4 c5 c6 : DL.Slot) (μ : List Cell) : S := ⟨[.val (.ref n), .val (.int (w : Nat)), c2, c3, c4, c5, c6, .no], μ⟩
theorem rt1 {n w k : Nat} {μ : List Cell} (h1 : 1 ≤ w) (hw : w ≤ 5) (h : Dc k n μ) (hk : k ≤ 40000) : ∃ (m : Nat) (fs : List (List Int)) (μ' : List Cell), m ≤ 6 ∧ Dr w m fs ∧ Dc (k + 80) n μ' ∧
    (dAsg 2 (dFrz (dCallF F_L_rw_drawn (dCons (dVar 0) (dCons (dVar 1) (dCons (dCall F_L_roll (dCons (dVar 0) (dCons (dOp gAdd (dVar 1) (dC (.int (2)))) dNil))) dNil)))))) (Sx n w .no .no .no .no .no μ) = .nx (Sx n w (.val (.lst (fs.map Ri))) .no .no .no .no μ') := by
  obtain ⟨m, μ1, e, hr, d⟩ := roll_ok (t := (w : Int) + 2) h (by omega) (by omega) (by omega)
  obtain ⟨fs, μ2, e2, D2, d2⟩ := rw_drawn_ok (m := m) hw (by omega) d (by omega)
  refine ⟨m, fs, μ2, by omega, D2, d2.mono (by omega), ?_⟩
  have e3 : dCall F_L_roll (dCons (dVar 0) (dCons (dOp gAdd (dVar 1) (dC (.int (2)))) dNil)) (Sx n w .no .no .no .no .no μ) = .ok (.int (m : Nat)) (Sx n w .no .no .no .no .no μ1) :=
    call_okμ (s1 := Sx n w .no .no .no .no .no μ) (ds := [.ref n, .int ((w : Int) + 2)]) (cons_ok (var_ok rfl) (cons_ok (op_ok (var_ok rfl) c_ok (add_ii _ _ _)) rfl)) rfl e
  exact asg_okμ (s1 := Sx n w .no .no .no .no .no μ2) (frzE_ok (callF_ok (s1 := Sx n w .no .no .no .no .no μ1) (ds := [.ref n, .int (w : Nat), .int (m : Nat)]) (cons_ok (var_ok rfl) (cons_ok (var_ok rfl) (cons_ok e3 rfl))) rfl e2)) rfl
theorem tt6 : ∀ m ≤ 6, 2 * TT m < 2 ^ 14 := by decide
theorem rt2 {n w m k : Nat} {fs : List (List Int)} {μ : List Cell} (hw : w ≤ 5) (hm : m ≤ 6) (D0 : Dr w m fs) (h : Dc k n μ) (hk : k ≤ 40000) : ∃ (v : List Int) (μ' : List Cell), v.length = w ∧ Bd 14 v ∧ Dc (k + 90) n μ' ∧
    (dAsg 3 (dCall F_L_pick (dCons (dVar 0) (dCons (dOp gAdd (dFrz (dCallF F_L_rw_drawn (dCons (dVar 0) (dCons (dVar 1) (dCons (dC (.int (3))) dNil))))) (dFrz (dLst (dCons (dCall F_L_summed (dCons (dVar 1) (dCons (dVar 2) (dCons (dFrz (dLc [7] (dIter (dVar 2)) (gNm 7) dYes (dOp gSub (dCall F_L_roll (dCons (dVar 0) (dCons (dC (.int (5))) dNil))) (dC (.int (2)))))) dNil)))) dNil)))) dNil)))) (Sx n w (.val (.lst (fs.map Ri))) .no .no .no .no μ) = .nx (Sx n w (.val (.lst (fs.map Ri))) (.val (Ri v)) .no .no .no μ') := by
  obtain ⟨gs, μ1, e1, D1, d1⟩ := rw_drawn_ok (m := 3) hw (by decide) h (by omega)
  obtain ⟨cs, μ2, l1, l2, d2, e2⟩ := rolls_gen (v := 7) (n := n) (by decide) (fs.map Ri) (Sx n w (.val (.lst (fs.map Ri))) .no .no .no .no μ1) (k + 72) rfl (by simp) d1 (by simp [D0.len]; omega)
  have hfl : fs.length = m := D0.len
  rw [List.length_map] at l1 d2
  have hcb : Bd 2 cs := fun c hc => by have := l2 c hc; omega
  have e3 := L_summed_ok (w := w) (cs := cs) (rows := fs) (by omega) (by decide : 0 < 2) (by decide : 0 < 11) (by decide) hcb D0.ro (dr := .lst (fs.map Ri)) (dc := .lst (cs.map .int)) (.inr rfl) (.inr rfl) μ2
  have hvs : ∀ u ∈ gs ++ [sm w cs fs], u.length = w ∧ Bd 14 u := fun u hu => by
    rcases List.mem_append.mp hu with hu | hu
    · exact ⟨(D1.ro u hu).1, (D1.ro u hu).2.mono (by decide)⟩
    · rw [List.mem_singleton.mp hu]
      refine ⟨sm_len (fun o ho => (D0.ro o ho).1), fun x hx => ?_⟩
      obtain ⟨i, hi, rfl⟩ := List.getElem_of_mem hx
      rw [← at0_lt hi]
      unfold sm
      rw [(smF_at (w := w) i (fun o ho => (D0.ro o ho).1) (by simp)).1, at0_rep]
      have h1 := dt_tot i cs fs l2
      have h2 := D0.tt i
      have h3 := tt6 m hm
      omega
  have hgl : gs.length = 3 := D1.len
  obtain ⟨x, hx, μ3, e4, d3⟩ := pick_okD (xs := (gs ++ [sm w cs fs]).map Ri) d2 (by omega) (by simp) (by simp [hgl]) (fun x hx => by obtain ⟨u, _, rfl⟩ := List.mem_map.mp hx; rfl)
  obtain ⟨v, hv, rfl⟩ := List.mem_map.mp hx
  obtain ⟨v1, v2⟩ := hvs v hv
  refine ⟨v, μ3, v1, v2, d3.mono (by omega), ?_⟩
  have e5 : dFrz (dCallF F_L_rw_drawn (dCons (dVar 0) (dCons (dVar 1) (dCons (dC (.int (3))) dNil)))) (Sx n w (.val (.lst (fs.map Ri))) .no .no .no .no μ) = .ok (.lst (gs.map Ri)) (Sx n w (.val (.lst (fs.map Ri))) .no .no .no .no μ1) :=
    frzE_ok (callF_ok (s1 := Sx n w (.val (.lst (fs.map Ri))) .no .no .no .no μ) (ds := [.ref n, .int (w : Nat), .int 3]) (cons_ok (var_ok rfl) (cons_ok (var_ok rfl) (cons_ok c_ok rfl))) rfl e1)
  have e6 : dFrz (dLc [7] (dIter (dVar 2)) (gNm 7) dYes (dOp gSub (dCall F_L_roll (dCons (dVar 0) (dCons (dC (.int (5))) dNil))) (dC (.int (2))))) (Sx n w (.val (.lst (fs.map Ri))) .no .no .no .no μ1) = .ok (.lst (cs.map .int)) (Sx n w (.val (.lst (fs.map Ri))) .no .no .no .no μ2) :=
    frzE_ok (lc_okμ (iter_ok (d := .lst (fs.map Ri)) (var_ok rfl) rfl) (by simp [hfl]; omega) rfl e2)
  have e7 : dFrz (dLst (dCons (dCall F_L_summed (dCons (dVar 1) (dCons (dVar 2) (dCons (dFrz (dLc [7] (dIter (dVar 2)) (gNm 7) dYes (dOp gSub (dCall F_L_roll (dCons (dVar 0) (dCons (dC (.int (5))) dNil))) (dC (.int (2)))))) dNil)))) dNil)) (Sx n w (.val (.lst (fs.map Ri))) .no .no .no .no μ1) = .ok (.lst [Ri (sm w cs fs)]) (Sx n w (.val (.lst (fs.map Ri))) .no .no .no .no μ2) :=
    frzE_ok (lst_ok (cons_ok (call_okμ (s1 := Sx n w (.val (.lst (fs.map Ri))) .no .no .no .no μ2) (ds := [.int (w : Nat), .lst (fs.map Ri), .lst (cs.map .int)]) (cons_ok (var_ok rfl) (cons_ok (var_ok rfl) (cons_ok e6 rfl))) rfl e3) rfl) rfl (by simp))
  have e8 : gAdd (Sx n w (.val (.lst (fs.map Ri))) .no .no .no .no μ2) (.lst (gs.map Ri)) (.lst [Ri (sm w cs fs)]) = some (.lst ((gs ++ [sm w cs fs]).map Ri)) := by
    rw [add_ll2 _ _ _ (by simp [hgl]), List.map_append]; rfl
  exact asg_okμ (s1 := Sx n w (.val (.lst (fs.map Ri))) .no .no .no .no μ3) (call_okμ (s1 := Sx n w (.val (.lst (fs.map Ri))) .no .no .no .no μ2) (ds := [.ref n, .lst ((gs ++ [sm w cs fs]).map Ri)]) (cons_ok (var_ok rfl) (cons_ok (op_ok e5 e7 e8) rfl)) rfl e4) rfl
theorem In.mk' {w m : Nat} {fs : List (List Int)} {v : List Int} (h1 : 1 ≤ w) (hw : w ≤ 5) (hm : m ≤ 6) (D0 : Dr w m fs) (v1 : v.length = w) (v2 : Bd 14 v) : In w fs v := ⟨h1, hw, by rw [D0.len]; exact hm, D0.ro, v1, v2⟩
theorem truth_ok {fa : FE} {s s1 : S} {b : Bool} (h : fa s = .ok (.bl b) s1) : dTruth fa s = .ok b s1 := by
  rw [ap_Truth, h]; rfl
theorem rt5 {n w : Nat} {fs : List (List Int)} {v : List Int} {P : D} {μ : List Cell} (I : In w fs v) (hP : Paper w fs v P) :
    (dIfS (dOrT (dNotT (dTruth (dCall F_L_is_paper (dCons (dVar 1) (dCons (dVar 4) (dCons (dVar 3) (dCons (dVar 5) dNil))))))) (dCmpT neS (dOp eqS (dOp gIx (dVar 5) (dC (.int (0)))) (dC (.str "sum"))) (dCall F_L_holds (dCons (dCall F_L_lot (dCons (dVar 2) dNil)) (dCons (dVar 3) dNil))))) (dRet (dC (.bl false))) dSkip) (Sx n w (.val (.lst (fs.map Ri))) (.val (Ri v)) (.val (.tup (fs.map Ri))) (.val P) .no μ) = .nx (Sx n w (.val (.lst (fs.map Ri))) (.val (Ri v)) (.val (.tup (fs.map Ri))) (.val P) .no μ) := by
  obtain ⟨_, e1⟩ := paper_true I hP μ
  obtain ⟨lot, l1, l2, l3⟩ := I.lotL (d := .lst (fs.map Ri)) (.inr rfl) μ
  obtain ⟨a, xs, hPe, hw⟩ := paper_word I hP l2 l3
  have h5 := I.w5
  have e2 := L_holds_ok (w := w) (n := BB 11 lot.length) (r := 14) (lot := lot) (row := v) (by omega) (BB_pos _ _) (by decide) l2 I.vl I.vb (by
    have h1 := BB_mono 11 l2.le
    have h2 : (lot.length + 1) * (BB 11 lot.length + 1) ≤ (w + 1) * (BB 11 w + 1) := Nat.mul_le_mul (by have := l2.le; omega) (by omega)
    have h3 := (bb_all w h5).2.2.2
    omega) μ
  have nP : noOwn P = true := by rw [hPe]; rfl
  have e3 : ∀ s : S, gIx s P (.int 0) = some (.str a) := fun s => by rw [hPe]; exact ix_0 s _ _
  rw [hw] at e2
  have e4 : ∀ s : S, neS s (.bl (a == ("sum" : Str))) (.bl (a == ("sum" : Str))) = some (.bl false) := fun s => by
    cases (a == ("sum" : Str)) <;> rfl
  have q1 : (dTruth (dCall F_L_is_paper (dCons (dVar 1) (dCons (dVar 4) (dCons (dVar 3) (dCons (dVar 5) dNil)))))) (Sx n w (.val (.lst (fs.map Ri))) (.val (Ri v)) (.val (.tup (fs.map Ri))) (.val P) .no μ) = .ok true (Sx n w (.val (.lst (fs.map Ri))) (.val (Ri v)) (.val (.tup (fs.map Ri))) (.val P) .no μ) := by
    exact truth_ok (call_ok (ds := [.int (w : Nat), .tup (fs.map Ri), Ri v, P]) (cons_ok (var_ok rfl) (cons_ok (var_ok rfl) (cons_ok (var_ok rfl) (cons_ok (var_ok rfl) rfl)))) (by simp [nP]) e1)
  have q2 : (dCmpT neS (dOp eqS (dOp gIx (dVar 5) (dC (.int (0)))) (dC (.str "sum"))) (dCall F_L_holds (dCons (dCall F_L_lot (dCons (dVar 2) dNil)) (dCons (dVar 3) dNil)))) (Sx n w (.val (.lst (fs.map Ri))) (.val (Ri v)) (.val (.tup (fs.map Ri))) (.val P) .no μ) = .ok false (Sx n w (.val (.lst (fs.map Ri))) (.val (Ri v)) (.val (.tup (fs.map Ri))) (.val P) .no μ) := by
    have q3 : (dOp eqS (dOp gIx (dVar 5) (dC (.int (0)))) (dC (.str "sum"))) (Sx n w (.val (.lst (fs.map Ri))) (.val (Ri v)) (.val (.tup (fs.map Ri))) (.val P) .no μ) = .ok (.bl (a == ("sum" : Str))) (Sx n w (.val (.lst (fs.map Ri))) (.val (Ri v)) (.val (.tup (fs.map Ri))) (.val P) .no μ) := op_ok (op_ok (var_ok rfl) c_ok (e3 _)) c_ok (eq_ss _ _ _)
    have q4 : dCall F_L_lot (dCons (dVar 2) dNil) (Sx n w (.val (.lst (fs.map Ri))) (.val (Ri v)) (.val (.tup (fs.map Ri))) (.val P) .no μ) = .ok (.tup (lot.map Ri)) (Sx n w (.val (.lst (fs.map Ri))) (.val (Ri v)) (.val (.tup (fs.map Ri))) (.val P) .no μ) := call_ok (ds := [.lst (fs.map Ri)]) (cons_ok (var_ok rfl) rfl) rfl l1
    have q5 : (dCall F_L_holds (dCons (dCall F_L_lot (dCons (dVar 2) dNil)) (dCons (dVar 3) dNil))) (Sx n w (.val (.lst (fs.map Ri))) (.val (Ri v)) (.val (.tup (fs.map Ri))) (.val P) .no μ) = .ok (.bl (a == ("sum" : Str))) (Sx n w (.val (.lst (fs.map Ri))) (.val (Ri v)) (.val (.tup (fs.map Ri))) (.val P) .no μ) := call_ok (ds := [.tup (lot.map Ri), Ri v]) (cons_ok q4 (cons_ok (var_ok rfl) rfl)) rfl e2
    rw [ap_CmpT, q3, bind_ok, q5, bind_ok, e4]
  rw [ap_IfS, ap_OrT, ap_NotT, q1, bind_ok, bind_ok]
  simp only [Bool.not_true, Bool.false_eq_true, if_false, q2]
  rfl
end K12

namespace K12
open PySem PySem.Spec PyProof.Rows L2 DL
theorem repr_bl (b : Bool) : ∃ x, ∀ s : S, gRepr s [.bl b] = some (.str x) := by
  refine ⟨(PyData.bool b).shown, fun s => ?_⟩
  cases b <;> rfl
def cmpB : FS := (dIfS (dCmpT neS (dB gRepr (dCons (dCall F_is_span_paper (dCons (dVar 1) (dCons (dVar 4) (dCons (dVar 3) (dCons (dVar 6) dNil))))) dNil)) (dB gRepr (dCons (dCall F_L_is_paper (dCons (dVar 1) (dCons (dVar 4) (dCons (dVar 3) (dCons (dVar 6) dNil))))) dNil))) (dRet (dC (.bl false))) dSkip)
theorem rt6 {n w : Nat} {fs : List (List Int)} {v : List Int} {P : D} {μ : List Cell} (I : In w fs v) : ∀ (V : List D) (c6 : DL.Slot), (∀ d ∈ V, Okv d) → ∃ c6', dFor (gNm 6) cmpB V (Sx n w (.val (.lst (fs.map Ri))) (.val (Ri v)) (.val (.tup (fs.map Ri))) (.val P) c6 μ) = .nx (Sx n w (.val (.lst (fs.map Ri))) (.val (Ri v)) (.val (.tup (fs.map Ri))) (.val P) c6' μ)
  | [], c6, _ => ⟨c6, rfl⟩
  | d :: V, c6, h => by
    have O := h d (by simp)
    obtain ⟨b, e1, e2⟩ := ask_ok I O μ
    obtain ⟨x, ex⟩ := repr_bl b
    obtain ⟨c6', e⟩ := rt6 (n := n) (P := P) (μ := μ) I V (.val d) fun u hu => h u (by simp [hu])
    refine ⟨c6', ?_⟩
    have nd := O.fine.no
    have q1 : (dB gRepr (dCons (dCall F_is_span_paper (dCons (dVar 1) (dCons (dVar 4) (dCons (dVar 3) (dCons (dVar 6) dNil))))) dNil)) (Sx n w (.val (.lst (fs.map Ri))) (.val (Ri v)) (.val (.tup (fs.map Ri))) (.val P) (.val d) μ) = .ok (.str x) (Sx n w (.val (.lst (fs.map Ri))) (.val (Ri v)) (.val (.tup (fs.map Ri))) (.val P) (.val d) μ) :=
      b_ok (cons_ok (call_ok (ds := [.int (w : Nat), .tup (fs.map Ri), Ri v, d]) (cons_ok (var_ok rfl) (cons_ok (var_ok rfl) (cons_ok (var_ok rfl) (cons_ok (var_ok rfl) rfl)))) (by simp [nd]) e1) rfl) (ex _)
    have q2 : (dB gRepr (dCons (dCall F_L_is_paper (dCons (dVar 1) (dCons (dVar 4) (dCons (dVar 3) (dCons (dVar 6) dNil))))) dNil)) (Sx n w (.val (.lst (fs.map Ri))) (.val (Ri v)) (.val (.tup (fs.map Ri))) (.val P) (.val d) μ) = .ok (.str x) (Sx n w (.val (.lst (fs.map Ri))) (.val (Ri v)) (.val (.tup (fs.map Ri))) (.val P) (.val d) μ) :=
      b_ok (cons_ok (call_ok (ds := [.int (w : Nat), .tup (fs.map Ri), Ri v, d]) (cons_ok (var_ok rfl) (cons_ok (var_ok rfl) (cons_ok (var_ok rfl) (cons_ok (var_ok rfl) rfl)))) (by simp [nd]) e2) rfl) (ex _)
    have q3 : cmpB (Sx n w (.val (.lst (fs.map Ri))) (.val (Ri v)) (.val (.tup (fs.map Ri))) (.val P) (.val d) μ) = .nx (Sx n w (.val (.lst (fs.map Ri))) (.val (Ri v)) (.val (.tup (fs.map Ri))) (.val P) (.val d) μ) := by
      have q4 : ∀ s : S, neS s (.str x) (.str x) = some (.bl false) := fun s => by rw [ne_ss]; simp
      unfold cmpB
      rw [ap_IfS, ap_CmpT, q1, bind_ok, q2, bind_ok, q4]
      rfl
    rw [dFor]
    simp only [ap_gNm, List.set_cons_succ, List.set_cons_zero]
    rw [q3]
    exact e
theorem right_ok {n w k : Nat} {μ : List Cell} (h : Dc k n μ) (hk : k ≤ 5000) (h1 : 1 ≤ w) (hw : w ≤ 5) : ∃ μ', F_L_right [.ref n, .int (w : Nat)] μ = .ok (.bl true) μ' ∧ Dc (k + 200) n μ' := by
  obtain ⟨m, fs, μ1, hm, D0, d1, e1⟩ := rt1 h1 hw h (by omega)
  obtain ⟨v, μ2, v1, v2, d2, e2⟩ := rt2 hw hm D0 d1 (by omega)
  have I := In.mk' h1 hw hm D0 v1 v2
  obtain ⟨P, e4, hP⟩ := span_paper_ok I d2.2
  have O := paper_okv I hP
  have nP := O.fine.no
  have e5 := rt5 (n := n) (μ := μ2) I hP
  obtain ⟨V1, μ3, e6, o1, l1, d3⟩ := own_ok I d2 (by omega)
  obtain ⟨V2, μ4, e7, o2, l2, d4⟩ := near_ok I hP d3 (by omega)
  obtain ⟨c6, e8⟩ := rt6 (n := n) (P := P) (μ := μ4) I ([P] ++ V1 ++ V2) .no (fun d hd => by
    rcases List.mem_append.mp hd with hd | hd
    · rcases List.mem_append.mp hd with hd | hd
      · rw [List.mem_singleton.mp hd]; exact O
      · exact o1 d hd
    · exact o2 d hd)
  refine ⟨μ4, ?_, d4.mono (by omega)⟩
  have e3 : (dAsg 4 (dB gTuple (dCons (dVar 2) dNil))) (Sx n w (.val (.lst (fs.map Ri))) (.val (Ri v)) .no .no .no μ2) = .nx (Sx n w (.val (.lst (fs.map Ri))) (.val (Ri v)) (.val (.tup (fs.map Ri))) .no .no μ2) := asg_ok (b_ok (cons_ok (var_ok rfl) rfl) rfl) rfl
  have e4' : (dAsg 5 (dCall F_span_paper (dCons (dVar 1) (dCons (dVar 4) (dCons (dVar 3) dNil))))) (Sx n w (.val (.lst (fs.map Ri))) (.val (Ri v)) (.val (.tup (fs.map Ri))) .no .no μ2) = .nx (Sx n w (.val (.lst (fs.map Ri))) (.val (Ri v)) (.val (.tup (fs.map Ri))) (.val P) .no μ2) :=
    asg_ok (call_ok (ds := [.int (w : Nat), .tup (fs.map Ri), Ri v]) (cons_ok (var_ok rfl) (cons_ok (var_ok rfl) (cons_ok (var_ok rfl) rfl))) rfl e4) nP
  have q1 : dFrz (dLst (dCons (dVar 5) dNil)) (Sx n w (.val (.lst (fs.map Ri))) (.val (Ri v)) (.val (.tup (fs.map Ri))) (.val P) .no μ2) = .ok (.lst [P]) (Sx n w (.val (.lst (fs.map Ri))) (.val (Ri v)) (.val (.tup (fs.map Ri))) (.val P) .no μ2) := frzE_ok (lst_ok (cons_ok (var_ok rfl) rfl) (by simp [nP]) (by simp))
  have q2 : dFrz (dCallF F_L_own (dCons (dVar 0) (dCons (dVar 1) (dCons (dVar 4) (dCons (dVar 3) dNil))))) (Sx n w (.val (.lst (fs.map Ri))) (.val (Ri v)) (.val (.tup (fs.map Ri))) (.val P) .no μ2) = .ok (.lst V1) (Sx n w (.val (.lst (fs.map Ri))) (.val (Ri v)) (.val (.tup (fs.map Ri))) (.val P) .no μ3) :=
    frzE_ok (callF_ok (s1 := Sx n w (.val (.lst (fs.map Ri))) (.val (Ri v)) (.val (.tup (fs.map Ri))) (.val P) .no μ2) (ds := [.ref n, .int (w : Nat), .tup (fs.map Ri), Ri v]) (cons_ok (var_ok rfl) (cons_ok (var_ok rfl) (cons_ok (var_ok rfl) (cons_ok (var_ok rfl) rfl)))) rfl e6)
  have q3 : dCall F_L_near (dCons (dVar 0) (dCons (dVar 1) (dCons (dVar 5) dNil))) (Sx n w (.val (.lst (fs.map Ri))) (.val (Ri v)) (.val (.tup (fs.map Ri))) (.val P) .no μ3) = .ok (.lst V2) (Sx n w (.val (.lst (fs.map Ri))) (.val (Ri v)) (.val (.tup (fs.map Ri))) (.val P) .no μ4) :=
    call_okμ (s1 := Sx n w (.val (.lst (fs.map Ri))) (.val (Ri v)) (.val (.tup (fs.map Ri))) (.val P) .no μ3) (ds := [.ref n, .int (w : Nat), P]) (cons_ok (var_ok rfl) (cons_ok (var_ok rfl) (cons_ok (var_ok rfl) rfl))) (by simp [nP]) e7
  have q4 : dIter (dOp gAdd (dOp gAdd (dFrz (dLst (dCons (dVar 5) dNil))) (dFrz (dCallF F_L_own (dCons (dVar 0) (dCons (dVar 1) (dCons (dVar 4) (dCons (dVar 3) dNil))))))) (dCall F_L_near (dCons (dVar 0) (dCons (dVar 1) (dCons (dVar 5) dNil))))) (Sx n w (.val (.lst (fs.map Ri))) (.val (Ri v)) (.val (.tup (fs.map Ri))) (.val P) .no μ2) = .ok ([P] ++ V1 ++ V2) (Sx n w (.val (.lst (fs.map Ri))) (.val (Ri v)) (.val (.tup (fs.map Ri))) (.val P) .no μ4) := by
    have q5 := op_ok (op_ok q1 q2 (add_ll2 _ [P] V1 (by simp; omega))) q3 (add_ll2 _ ([P] ++ V1) V2 (by simp; omega))
    rw [ap_Iter, q5]
    rfl
  have t : b_L_right (Sx n w .no .no .no .no .no μ) = .rt (.bl true) (Sx n w (.val (.lst (fs.map Ri))) (.val (Ri v)) (.val (.tup (fs.map Ri))) (.val P) c6 μ4) := by
    have sp : b_L_right = dSeq (dAsg 2 (dFrz (dCallF F_L_rw_drawn (dCons (dVar 0) (dCons (dVar 1) (dCons (dCall F_L_roll (dCons (dVar 0) (dCons (dOp gAdd (dVar 1) (dC (.int (2)))) dNil))) dNil))))))
      (dSeq (dAsg 3 (dCall F_L_pick (dCons (dVar 0) (dCons (dOp gAdd (dFrz (dCallF F_L_rw_drawn (dCons (dVar 0) (dCons (dVar 1) (dCons (dC (.int (3))) dNil))))) (dFrz (dLst (dCons (dCall F_L_summed (dCons (dVar 1) (dCons (dVar 2) (dCons (dFrz (dLc [7] (dIter (dVar 2)) (gNm 7) dYes (dOp gSub (dCall F_L_roll (dCons (dVar 0) (dCons (dC (.int (5))) dNil))) (dC (.int (2)))))) dNil)))) dNil)))) dNil))))
      (dSeq (dAsg 4 (dB gTuple (dCons (dVar 2) dNil)))
      (dSeq (dAsg 5 (dCall F_span_paper (dCons (dVar 1) (dCons (dVar 4) (dCons (dVar 3) dNil)))))
      (dSeq (dIfS (dOrT (dNotT (dTruth (dCall F_L_is_paper (dCons (dVar 1) (dCons (dVar 4) (dCons (dVar 3) (dCons (dVar 5) dNil))))))) (dCmpT neS (dOp eqS (dOp gIx (dVar 5) (dC (.int (0)))) (dC (.str "sum"))) (dCall F_L_holds (dCons (dCall F_L_lot (dCons (dVar 2) dNil)) (dCons (dVar 3) dNil))))) (dRet (dC (.bl false))) dSkip)
      (dSeq (dForI (dIter (dOp gAdd (dOp gAdd (dFrz (dLst (dCons (dVar 5) dNil))) (dFrz (dCallF F_L_own (dCons (dVar 0) (dCons (dVar 1) (dCons (dVar 4) (dCons (dVar 3) dNil))))))) (dCall F_L_near (dCons (dVar 0) (dCons (dVar 1) (dCons (dVar 5) dNil)))))) (gNm 6) cmpB)
      (dRet (dC (.bl true)))))))) := rfl
    rw [sp, seq_nx e1, seq_nx e2, seq_nx e3, seq_nx e4', seq_nx e5]
    refine (seq_nx (s1 := Sx n w (.val (.lst (fs.map Ri))) (.val (Ri v)) (.val (.tup (fs.map Ri))) (.val P) c6 μ4) ?_).trans ?_
    · unfold dForI
      rw [q4]
      exact e8
    · rfl
  exact runF_rt (n := 8) (ds := [.ref n, .int (w : Nat)]) t
end K12

namespace K12
open PySem PySem.Spec PyProof.Rows L2 DL
theorem pow53 (s : S) : gPow s (.int 10) (.int 53) = some (.int (10 ^ 53)) := pow_ok' (by decide) s
theorem pow16 (s : S) : gPow s (.int 10) (.int 16) = some (.int (10 ^ 16)) := pow_ok' (by decide) s
theorem pow53_6 (s : S) : gPow s (.int (10 ^ 53)) (.int 6) = some (.int ((10 ^ 53) ^ 6)) := pow_ok' (by decide) s
theorem mulOk_s {a b : Int} (ha : a.natAbs < 2 ^ 64) (hb : b.natAbs < 2 ^ 64) : mulOk a b = true := mulOk_of ha hb (by decide) (by decide) (by decide)
theorem dice_gen {T U V : Int} {i : Nat} {xs : List Int} {μ : List Cell} (hl : xs.length ≤ 63) (hi : i ≤ 6) (hU : U ≠ 0) (h1 : ∀ s : S, gPow s (.int 10) (.int 53) = some (.int T)) (h2 : ∀ s : S, gPow s (.int T) (.int 6) = some (.int U)) (h3 : ∀ s : S, gPow s (.int 10) (.int 16) = some (.int V)) :
    ∃ p q : Int, F_L_dice [.lst (xs.map .int), .int i] μ = .okc (.lst [.int p, .int q, .int 0]) μ := by
  have hl2 : xs.length ≤ 16777216 := by omega
  have m1 : ∀ x : Int, mulOk (x.fmod 2305843009213693907) 73 = true := fun x => mulOk_s (Nat.lt_of_lt_of_le (small_of (n := 62) (by decide) (by decide)) (by decide)) (by decide)
  have m2 : mulOk 619 (i : Int) = true := mulOk_s (by decide) (by omega)
  have m3 : mulOk 131 (i : Int) = true := mulOk_s (by decide) (by omega)
  have m4 : mulOk 41 1 = true := by decide
  have m5 : mulOk 41 0 = true := by decide
  by_cases h : i < xs.length
  · have ei : ∀ s : S, gIx s (.lst (xs.map .int)) (.int (i : Int)) = some (.int xs[i]) := fun s => ix_row s xs i h
    generalize xs[i] = x at ei
    by_cases hx : x < 0
    · simp [F_L_dice, b_L_dice, runF, gLen, hl2, h, ei, gInt, gAbs, h1, h2, h3, mod_ii hU, mul_ii m2, mul_ii (m1 _), mod_ii, gMax2, hx, mul_ii m4]
    · simp [F_L_dice, b_L_dice, runF, gLen, hl2, h, ei, gInt, gAbs, h1, h2, h3, mod_ii hU, mul_ii m2, mul_ii (m1 _), mod_ii, gMax2, hx, mul_ii m5]
  · have hx : ¬ (131 * (i : Int) + 37 < 0) := by omega
    simp [F_L_dice, b_L_dice, runF, gLen, hl2, h, mul_ii m3, gInt, gAbs, h1, h2, h3, mod_ii hU, mul_ii m2, mul_ii (m1 _), mod_ii, gMax2, hx, mul_ii m5]
theorem dice_ok {i : Nat} {xs : List Int} {μ : List Cell} (hl : xs.length ≤ 63) (hi : i ≤ 6) : ∃ p q : Int, F_L_dice [.lst (xs.map .int), .int i] μ = .okc (.lst [.int p, .int q, .int 0]) μ :=
  dice_gen hl hi (by decide) pow53 pow53_6 pow16
theorem law_in {F G : FF} {n : Nat} (hG : ∀ (c : Nat) (μ : List Cell), Dc c n μ → c ≤ 5000 → ∃ (r : Nat) (μ' : List Cell), G [.ref n, .int 5] μ = .ok (.int r) μ' ∧ (r : Int) < 5 ∧ Dc (c + 1) n μ')
    (hF : ∀ (c w : Nat) (μ : List Cell), Dc c n μ → c ≤ 5000 → 1 ≤ w → w ≤ 5 → ∃ μ', F [.ref n, .int (w : Nat)] μ = .ok (.bl true) μ' ∧ Dc (c + 200) n μ') {a0 a1 a4 : DL.Slot} :
    ∀ (ds : List D) (c : Nat) (μ : List Cell) (a3 : DL.Slot), Dc c n μ → c + 201 * ds.length ≤ 4000 → ∃ (a3' : DL.Slot) (μ' : List Cell), μ'.all nLc = true ∧
      dFor (gNm 3) (dIfS (dNotT (dTruth (dCall F (dCons (dVar 2) (dCons (dOp gAdd (dC (.int (1))) (dCall G (dCons (dVar 2) (dCons (dC (.int (5))) dNil)))) dNil))))) (dRet (dC (.bl false))) dSkip) ds ⟨[a0, a1, .val (.ref n), a3, a4], μ⟩ = .nx ⟨[a0, a1, .val (.ref n), a3', a4], μ'⟩
  | [], c, μ, a3, hd, _ => ⟨a3, μ, hd.2, rfl⟩
  | d :: ds, c, μ, a3, hd, hc => by
    have hc : c + 201 * (ds.length + 1) ≤ 4000 := hc
    obtain ⟨r, μ1, e1, hr, d1⟩ := hG c μ hd (by omega)
    obtain ⟨μ2, e2, d2⟩ := hF (c + 1) (1 + r) μ1 d1 (by omega) (by omega) (by omega)
    obtain ⟨a3', μ', hn', e⟩ := law_in hG hF (a0 := a0) (a1 := a1) (a4 := a4) ds (c + 201) μ2 (.val d) (d2.mono (by omega)) (by omega)
    refine ⟨a3', μ', hn', ?_⟩
    have e3 : F [.ref n, .int (1 + (r : Int))] μ1 = .ok (.bl true) μ2 := by
      rw [← e2]
      congr 3
    simp [dFor, e1, e3, e]
def lawIn (F G : FF) : FS := dForI (dRng1 (dCons (dC (.int (4))) dNil)) (gNm 3) (dIfS (dNotT (dTruth (dCall F (dCons (dVar 2) (dCons (dOp gAdd (dC (.int (1))) (dCall G (dCons (dVar 2) (dCons (dC (.int (5))) dNil)))) dNil))))) (dRet (dC (.bl false))) dSkip)
theorem law_out {F G H : FF} {xs : List D} (hH : ∀ (i : Nat) (μ : List Cell), i ≤ 6 → ∃ p q : Int, H [.lst xs, .int i] μ = .okc (.lst [.int p, .int q, .int 0]) μ)
    (hG : ∀ (n c : Nat) (μ : List Cell), Dc c n μ → c ≤ 5000 → ∃ (r : Nat) (μ' : List Cell), G [.ref n, .int 5] μ = .ok (.int r) μ' ∧ (r : Int) < 5 ∧ Dc (c + 1) n μ')
    (hF : ∀ (n c w : Nat) (μ : List Cell), Dc c n μ → c ≤ 5000 → 1 ≤ w → w ≤ 5 → ∃ μ', F [.ref n, .int (w : Nat)] μ = .ok (.bl true) μ' ∧ Dc (c + 200) n μ') {a4 : DL.Slot} :
    ∀ (ds : List D) (μ : List Cell) (a1 a2 a3 : DL.Slot), μ.all nLc = true → (∀ d ∈ ds, ∃ i : Nat, d = .int i ∧ i ≤ 6) → (∀ c, a2 ≠ .own c) → ∃ (a1' a2' a3' : DL.Slot) (μ' : List Cell), μ'.all nLc = true ∧
      dFor (gNm 1) (dSeq (dAsgR 2 (dCallF H (dCons (dVar 0) (dCons (dVar 1) dNil)))) (lawIn F G)) ds ⟨[.val (.lst xs), a1, a2, a3, a4], μ⟩ = .nx ⟨[.val (.lst xs), a1', a2', a3', a4], μ'⟩
  | [], μ, a1, a2, a3, hn, _, _ => ⟨a1, a2, a3, μ, hn, rfl⟩
  | d :: ds, μ, a1, a2, a3, hn, h, h2 => by
    obtain ⟨i, rfl, hi⟩ := h d (by simp)
    obtain ⟨p, q, e1⟩ := hH i μ hi
    have hd : Dc 0 μ.length (μ ++ [.lst [.int p, .int q, .int 0]]) := ⟨⟨p, q, 0, by simp, by omega, by omega⟩, by rw [List.all_append, hn]; rfl⟩
    obtain ⟨a3', μ1, hn1, e2⟩ := law_in (hG μ.length) (hF μ.length) (a0 := .val (.lst xs)) (a1 := .val (.int i)) (a4 := a4) (rngD 0 4) 0 _ a3 hd (by decide)
    obtain ⟨b1, b2, b3, μ', hn2, e3⟩ := law_out hH hG hF (a4 := a4) ds μ1 (.val (.int i)) (.val (.ref μ.length)) a3' hn1 (fun x hx => h x (by simp [hx])) (fun c z => by cases z)
    refine ⟨b1, b2, b3, μ', hn2, ?_⟩
    have er : ∀ s : S, dRng1 (dCons (dC (.int (4))) dNil) s = .ok (rngD 0 4) s := fun s => rfl
    have ein : lawIn F G ⟨[.val (.lst xs), .val (.int i), .val (.ref μ.length), a3, a4], μ ++ [.lst [.int p, .int q, .int 0]]⟩ = .nx ⟨[.val (.lst xs), .val (.int i), .val (.ref μ.length), a3', a4], μ1⟩ := by
      unfold lawIn dForI
      rw [er]
      exact e2
    simp [dFor, dAsgR, e1, ein, e3]
def lawTold (F : FF) : FS := (dSeq (dAsg 4 (dFrz (dLst (dCons (dSl (dCall F (dCons (dC (.int (2))) (dCons (dTup dNil) (dCons (dTup (dCons (dC (.int (0))) (dCons (dC (.int (0))) dNil))) dNil)))) dNo (dPart (dC (.int (1))))) (dCons (dOp gIx (dCall F (dCons (dC (.int (2))) (dCons (dTup dNil) (dCons (dTup (dCons (dC (.int (0))) (dCons (dC (.int (1))) dNil))) dNil)))) (dC (.int (0)))) (dCons (dOp gIx (dCall F (dCons (dC (.int (2))) (dCons (dTup (dCons (dTup (dCons (dC (.int (2))) (dCons (dC (.int (4))) dNil))) dNil)) (dCons (dTup (dCons (dC (.int (3))) (dCons (dC (.int (6))) dNil))) dNil)))) (dC (.int (0)))) dNil))))))
    (dRet (dOp eqS (dVar 4) (dFrz (dLst (dCons (dTup (dCons (dC (.str "sum")) dNil)) (dCons (dC (.str "apart")) (dCons (dC (.str "sum")) dNil))))))))
theorem told_ok {F : FF} {a0 a1 a2 a3 : DL.Slot} {μ : List Cell} {x1 x2 x3 : List D} (e1 : F [.int 2, .tup [], Ri [0, 0]] μ = .ok (.tup (.str "sum" :: x1)) μ) (e2 : F [.int 2, .tup [], Ri [0, 1]] μ = .ok (.tup (.str "apart" :: x2)) μ) (e3 : F [.int 2, .tup [Ri [2, 4]], Ri [3, 6]] μ = .ok (.tup (.str "sum" :: x3)) μ) : ∃ s, lawTold F ⟨[a0, a1, a2, a3, .no], μ⟩ = .rt (.bl true) s := by
  have t0 : ∀ (i j : Int) (s : S), dTup (dCons (dC (.int i)) (dCons (dC (.int j)) dNil)) s = .ok (Ri [i, j]) s := fun i j s => tup2 c_ok c_ok rfl rfl
  have tn : ∀ s : S, dTup dNil s = .ok (.tup []) s := fun s => tup_ok rfl rfl (by simp)
  have q1 : dCall F (dCons (dC (.int (2))) (dCons (dTup dNil) (dCons (dTup (dCons (dC (.int (0))) (dCons (dC (.int (0))) dNil))) dNil))) ⟨[a0, a1, a2, a3, .no], μ⟩ = .ok (.tup (.str "sum" :: x1)) ⟨[a0, a1, a2, a3, .no], μ⟩ := call_ok (ds := [.int 2, .tup [], Ri [0, 0]]) (cons_ok c_ok (cons_ok (tn _) (cons_ok (t0 0 0 _) rfl))) rfl e1
  have q2 : dCall F (dCons (dC (.int (2))) (dCons (dTup dNil) (dCons (dTup (dCons (dC (.int (0))) (dCons (dC (.int (1))) dNil))) dNil))) ⟨[a0, a1, a2, a3, .no], μ⟩ = .ok (.tup (.str "apart" :: x2)) ⟨[a0, a1, a2, a3, .no], μ⟩ := call_ok (ds := [.int 2, .tup [], Ri [0, 1]]) (cons_ok c_ok (cons_ok (tn _) (cons_ok (t0 0 1 _) rfl))) rfl e2
  have q3 : dCall F (dCons (dC (.int (2))) (dCons (dTup (dCons (dTup (dCons (dC (.int (2))) (dCons (dC (.int (4))) dNil))) dNil)) (dCons (dTup (dCons (dC (.int (3))) (dCons (dC (.int (6))) dNil))) dNil))) ⟨[a0, a1, a2, a3, .no], μ⟩ = .ok (.tup (.str "sum" :: x3)) ⟨[a0, a1, a2, a3, .no], μ⟩ := call_ok (ds := [.int 2, .tup [Ri [2, 4]], Ri [3, 6]]) (cons_ok c_ok (cons_ok (tup_ok (cons_ok (t0 2 4 _) rfl) rfl (by simp)) (cons_ok (t0 3 6 _) rfl))) rfl e3
  have q4 : dSl (dCall F (dCons (dC (.int (2))) (dCons (dTup dNil) (dCons (dTup (dCons (dC (.int (0))) (dCons (dC (.int (0))) dNil))) dNil)))) dNo (dPart (dC (.int (1)))) ⟨[a0, a1, a2, a3, .no], μ⟩ = .ok (.tup [.str "sum"]) ⟨[a0, a1, a2, a3, .no], μ⟩ := by
    have := cut_to (xs := (.str "sum" : D) :: x1) (w := 1) (by simp)
    refine (sl_ok (xs := (.str "sum" : D) :: x1) (l := none) (h := some ((1 : Nat) : Int)) q1 no_ok (part_ok c_ok)).trans ?_
    rw [this]; rfl
  have q5 : dFrz (dLst (dCons (dSl (dCall F (dCons (dC (.int (2))) (dCons (dTup dNil) (dCons (dTup (dCons (dC (.int (0))) (dCons (dC (.int (0))) dNil))) dNil)))) dNo (dPart (dC (.int (1))))) (dCons (dOp gIx (dCall F (dCons (dC (.int (2))) (dCons (dTup dNil) (dCons (dTup (dCons (dC (.int (0))) (dCons (dC (.int (1))) dNil))) dNil)))) (dC (.int (0)))) (dCons (dOp gIx (dCall F (dCons (dC (.int (2))) (dCons (dTup (dCons (dTup (dCons (dC (.int (2))) (dCons (dC (.int (4))) dNil))) dNil)) (dCons (dTup (dCons (dC (.int (3))) (dCons (dC (.int (6))) dNil))) dNil)))) (dC (.int (0)))) dNil)))) ⟨[a0, a1, a2, a3, .no], μ⟩ = .ok (.lst [.tup [.str "sum"], .str "apart", .str "sum"]) ⟨[a0, a1, a2, a3, .no], μ⟩ :=
    frzE_ok (lst_ok (cons_ok q4 (cons_ok (op_ok q2 c_ok (ix_0 _ _ _)) (cons_ok (op_ok q3 c_ok (ix_0 _ _ _)) rfl))) rfl (by simp))
  have q6 : dFrz (dLst (dCons (dTup (dCons (dC (.str "sum")) dNil)) (dCons (dC (.str "apart")) (dCons (dC (.str "sum")) dNil)))) ⟨[a0, a1, a2, a3, .val (.lst [.tup [.str "sum"], .str "apart", .str "sum"])], μ⟩ = .ok (.lst [.tup [.str "sum"], .str "apart", .str "sum"]) ⟨[a0, a1, a2, a3, .val (.lst [.tup [.str "sum"], .str "apart", .str "sum"])], μ⟩ :=
    frzE_ok (lst_ok (cons_ok (tup_ok (cons_ok c_ok rfl) rfl (by simp)) (cons_ok c_ok (cons_ok c_ok rfl))) rfl (by simp))
  have q7 : ∀ s : S, eqS s (.lst [.tup [.str "sum"], .str "apart", .str "sum"]) (.lst [.tup [.str "sum"], .str "apart", .str "sum"]) = some (.bl true) := fun s => by
    have h : eqG (.list [.tuple [.str "sum"], .str "apart", .str "sum"]) (.list [.tuple [.str "sum"], .str "apart", .str "sum"]) = some true := by decide +kernel
    show (eqG (.list [.tuple [.str "sum"], .str "apart", .str "sum"]) (.list [.tuple [.str "sum"], .str "apart", .str "sum"])).map D.bl = _
    rw [h]; rfl
  refine ⟨⟨[a0, a1, a2, a3, .val (.lst [.tup [.str "sum"], .str "apart", .str "sum"])], μ⟩, ?_⟩
  unfold lawTold
  have q8 : (dAsg 4 (dFrz (dLst (dCons (dSl (dCall F (dCons (dC (.int (2))) (dCons (dTup dNil) (dCons (dTup (dCons (dC (.int (0))) (dCons (dC (.int (0))) dNil))) dNil)))) dNo (dPart (dC (.int (1))))) (dCons (dOp gIx (dCall F (dCons (dC (.int (2))) (dCons (dTup dNil) (dCons (dTup (dCons (dC (.int (0))) (dCons (dC (.int (1))) dNil))) dNil)))) (dC (.int (0)))) (dCons (dOp gIx (dCall F (dCons (dC (.int (2))) (dCons (dTup (dCons (dTup (dCons (dC (.int (2))) (dCons (dC (.int (4))) dNil))) dNil)) (dCons (dTup (dCons (dC (.int (3))) (dCons (dC (.int (6))) dNil))) dNil)))) (dC (.int (0)))) dNil)))))) ⟨[a0, a1, a2, a3, .no], μ⟩ = .nx ⟨[a0, a1, a2, a3, .val (.lst [.tup [.str "sum"], .str "apart", .str "sum"])], μ⟩ := asg_ok q5 rfl
  rw [seq_nx q8]
  exact ret_eq (var_ok rfl) q6 (q7 _)
theorem in00 : In 2 [] [0, 0] := ⟨by decide, by decide, by decide, by simp, rfl, fun x hx => by simp at hx; subst hx; exact Nat.two_pow_pos _⟩
theorem in01 : In 2 [] [0, 1] := ⟨by decide, by decide, by decide, by simp, rfl, fun x hx => by simp at hx; rcases hx with rfl | rfl <;> decide⟩
theorem in36 : In 2 [[2, 4]] [3, 6] := ⟨by decide, by decide, by decide, fun o ho => by
  simp at ho; subst ho
  exact ⟨rfl, fun x hx => by simp at hx; rcases hx with rfl | rfl <;> decide⟩, rfl, fun x hx => by simp at hx; rcases hx with rfl | rfl <;> decide⟩
theorem p1 {μ : List Cell} (h : μ.all nLc = true) : ∃ xs, F_span_paper [.int 2, .tup [], Ri [0, 0]] μ = .ok (.tup (.str "sum" :: xs)) μ := by
  obtain ⟨P, e, hP⟩ := span_paper_ok in00 h
  cases hP with
  | sum t cs h1 h2 h3 h4 h5 h6 => exact ⟨_, e⟩
  | apart y h1 h2 h3 h4 =>
    refine absurd (dt_zero fun j => ?_) h4
    match j with
    | 0 => rfl
    | 1 => rfl
    | j + 2 => simp
theorem p2 {μ : List Cell} (h : μ.all nLc = true) : ∃ xs, F_span_paper [.int 2, .tup [], Ri [0, 1]] μ = .ok (.tup (.str "apart" :: xs)) μ := by
  obtain ⟨P, e, hP⟩ := span_paper_ok in01 h
  cases hP with
  | sum t cs h1 h2 h3 h4 h5 h6 => exact absurd (h6 [0, 1] rfl (perp_nil _)) (by decide)
  | apart y h1 h2 h3 h4 => exact ⟨_, e⟩
theorem p3 {μ : List Cell} (h : μ.all nLc = true) : ∃ xs, F_span_paper [.int 2, .tup [Ri [2, 4]], Ri [3, 6]] μ = .ok (.tup (.str "sum" :: xs)) μ := by
  obtain ⟨P, e, hP⟩ := span_paper_ok in36 h
  cases hP with
  | sum t cs h1 h2 h3 h4 h5 h6 => exact ⟨_, e⟩
  | apart y h1 h2 h3 h4 =>
    obtain ⟨a, b, rfl⟩ := len2 h1
    have h5 := h3 [2, 4] (by simp)
    simp only [dt_cons, dt_nil] at h5 h4
    exact absurd (by omega) h4
theorem law_gen {F G H L : FF} {xs : List D} {j : Int} (hj : 0 ≤ j) (hj2 : j ≤ 6) (hs : smallI j = true) {μ : List Cell} (hn : μ.all nLc = true) (fr : FA) (efr : fr ⟨[.val (.lst xs), .no, .no, .no, .no], μ⟩ = .ok [.int j] ⟨[.val (.lst xs), .no, .no, .no, .no], μ⟩)
    (hH : ∀ (i : Nat) (μ : List Cell), i ≤ 6 → ∃ p q : Int, H [.lst xs, .int i] μ = .okc (.lst [.int p, .int q, .int 0]) μ)
    (hG : ∀ (n c : Nat) (μ : List Cell), Dc c n μ → c ≤ 5000 → ∃ (r : Nat) (μ' : List Cell), G [.ref n, .int 5] μ = .ok (.int r) μ' ∧ (r : Int) < 5 ∧ Dc (c + 1) n μ')
    (hF : ∀ (n c w : Nat) (μ : List Cell), Dc c n μ → c ≤ 5000 → 1 ≤ w → w ≤ 5 → ∃ μ', F [.ref n, .int (w : Nat)] μ = .ok (.bl true) μ' ∧ Dc (c + 200) n μ')
    (hT : ∀ (a0 a1 a2 a3 : DL.Slot) (μ : List Cell), μ.all nLc = true → ∃ s, lawTold L ⟨[a0, a1, a2, a3, .no], μ⟩ = .rt (.bl true) s) :
    ∃ s, dSeq (dForI (dRng1 fr) (gNm 1) (dSeq (dAsgR 2 (dCallF H (dCons (dVar 0) (dCons (dVar 1) dNil)))) (lawIn F G))) (lawTold L) ⟨[.val (.lst xs), .no, .no, .no, .no], μ⟩ = .rt (.bl true) s := by
  have er := rng_gen efr hs
  obtain ⟨b1, b2, b3, μ', hn', e⟩ := law_out hH hG hF (a4 := .no) (rngD 0 j.toNat) μ .no .no .no hn (fun d hd => by
    unfold rngD at hd
    obtain ⟨i, hi, rfl⟩ := List.mem_map.mp hd
    have := List.mem_range.mp hi
    exact ⟨i, by simp, by omega⟩) (fun c z => by cases z)
  obtain ⟨s, e2⟩ := hT (.val (.lst xs)) b1 b2 b3 μ' hn'
  refine ⟨s, ?_⟩
  rw [ap_Seq]
  unfold dForI
  rw [er]
  show (match dFor (gNm 1) (dSeq (dAsgR 2 (dCallF H (dCons (dVar 0) (dCons (dVar 1) dNil)))) (lawIn F G)) (rngD 0 j.toNat) ⟨[.val (.lst xs), .no, .no, .no, .no], μ⟩ with | .nx s1 => lawTold L s1 | r => r) = _
  rw [e]
  exact e2
theorem law_run {b : FS} {d0 v : D} {s : S} {μ : List Cell} (h : b ⟨[.val d0, .no, .no, .no, .no], μ⟩ = .rt v s) : ∃ μ', runF b 5 [d0] μ = .ok v μ' := by
  refine ⟨s.μ, ?_⟩
  show (match b ⟨[.val d0, .no, .no, .no, .no], μ⟩ with
    | .nx s => CR.ok .non s.μ
    | .rt d s => .ok d s.μ
    | .rtc c s => .okc c s.μ
    | .exc e s => .exc e s.μ
    | _ => .bad) = _
  rw [h]
theorem law_holds : ∀ ns : List Int, ns.length ≤ 63 → ∃ μ, F_law [.lst (ns.map .int)] [] = .ok (.bl true) μ := by
  intro ns hl
  have hl2 : ns.length ≤ 16777216 := by omega
  have efr : ∃ j : Int, 0 ≤ j ∧ j ≤ 6 ∧ (dCons (dB gMax2 (dCons (dC (.int (1))) (dCons (dB gMin2 (dCons (dC (.int (6))) (dCons (dB gLen (dCons (dVar 0) dNil)) dNil))) dNil))) dNil) ⟨[.val (.lst (ns.map .int)), .no, .no, .no, .no], []⟩ = .ok [.int j] ⟨[.val (.lst (ns.map .int)), .no, .no, .no, .no], []⟩ := by
    refine ⟨if (if (ns.length : Int) < 6 then (ns.length : Int) else 6) > 1 then (if (ns.length : Int) < 6 then (ns.length : Int) else 6) else 1, by split <;> (try split) <;> omega, by split <;> (try split) <;> omega, ?_⟩
    simp [gMax2, gMin2, gLen, hl2]
  obtain ⟨j, h0, h6, e⟩ := efr
  obtain ⟨s, es⟩ := law_gen (F := F_L_right) (G := F_L_roll) (H := F_L_dice) (L := F_span_paper) h0 h6 (by simp [smallI]; omega) rfl _ e (fun i μ hi => dice_ok hl hi)
    (fun n c μ hd hc => by
      obtain ⟨r, μ', e, h, d⟩ := roll_ok (t := 5) hd (by omega) (by decide) (by decide)
      exact ⟨r, μ', e, h, d⟩)
    (fun n c w μ hd hc h1 h2 => right_ok hd hc h1 h2) (fun a0 a1 a2 a3 μ hn => by
      obtain ⟨x1, e1⟩ := p1 hn
      obtain ⟨x2, e2⟩ := p2 hn
      obtain ⟨x3, e3⟩ := p3 hn
      exact told_ok e1 e2 e3)
  exact law_run es
end K12

open PySem PySem.W PyProof.Rows in
set_option maxRecDepth 100000 in
set_option maxHeartbeats 0 in
theorem PySem.Challenge.cw_anywaybuilt_k12_whole_span_papers_holds : PySem.Challenge.rw_anywaybuilt_k12_whole_span_papers.Holds := by
  w_on; o_law; k_head; (case hw => w_witness2)
  k_fill
  refine DL.walkG (l := PySem.Challenge.rw_anywaybuilt_k12_whole_span_papers) (k := 9) rfl (by decide) rfl ⟨rfl, by decide, by decide⟩ (fun w h Y => PySem.W.kIn_of Y) ?F K12.law_holds
  case F =>
    intro w mg fa h KX G hmg base _ _
    refine' K12.all_mk KX G ?a0 ?l0 ?c0 ?k0 ?a1 ?l1 ?c1 ?k1 ?a2 ?l2 ?c2 ?k2 ?a3 ?l3 ?c3 ?k3 ?a4 ?l4 ?c4 ?k4 ?a5 ?l5 ?c5 ?k5 ?a6 ?l6 ?c6 ?k6 ?a7 ?l7 ?c7 ?k7 ?a8 ?l8 ?c8 ?k8 ?a9 ?l9 ?c9 ?k9 ?a10 ?l10 ?c10 ?k10 ?a11 ?l11 ?c11 ?k11 ?a12 ?l12 ?c12 ?k12 ?a13 ?l13 ?c13 ?k13 ?a14 ?l14 ?c14 ?k14 ?a15 ?l15 ?c15 ?k15 ?a16 ?l16 ?c16 ?k16 ?a17 ?l17 ?c17 ?k17 ?a18 ?l18 ?c18 ?k18 ?a19 ?l19 ?c19 ?k19 ?a20 ?l20 ?c20 ?k20 ?a21 ?l21 ?c21 ?k21 ?a22 ?l22 ?c22 ?k22 ?a23 ?l23 ?c23 ?k23 ?a24 ?l24 ?c24 ?k24 ?a25 ?l25 ?c25 ?k25 ?a26 ?l26 ?c26 ?k26 ?a27 ?l27 ?c27 ?k27 ?a28 ?l28 ?c28 ?k28 ?a29 ?l29 ?c29 ?k29 ?a30 ?l30 ?c30 ?k30 ?a31 ?l31 ?c31 ?k31 ?a32 ?l32 ?c32 ?k32 ?a33 ?l33 ?c33 ?k33 ?a34 ?l34 ?c34 ?k34 ?a35 ?l35 ?c35 ?k35 ?a36 ?l36 ?c36 ?k36 ?a37 ?l37 ?c37 ?k37 ?a38 ?l38 ?c38 ?k38 ?a39 ?l39 ?c39 ?k39 ?z_abs ?z_all ?z_bool ?z_enumerate ?z_int ?z_isinstance ?z_len ?z_list ?z_max ?z_min ?z_range ?z_repr ?z_sorted ?z_str ?z_sum ?z_tuple ?z_zip ?e_APART ?e_MAX_WIDTH ?e_SUM
    (case a0 => k_is)
    (case l0 => k_is)
    (case c0 => k_is)
    (case k0 => k_is)
    (case a1 => k_is)
    (case l1 => k_is)
    (case c1 => k_is)
    (case k1 => k_is)
    (case a2 => k_is)
    (case l2 => k_is)
    (case c2 => k_is)
    (case k2 => k_is)
    (case a3 => k_is)
    (case l3 => k_is)
    (case c3 => k_is)
    (case k3 => k_is)
    (case a4 => k_is)
    (case l4 => k_is)
    (case c4 => k_is)
    (case k4 => k_is)
    (case a5 => k_is)
    (case l5 => k_is)
    (case c5 => k_is)
    (case k5 => k_is)
    (case a6 => k_is)
    (case l6 => k_is)
    (case c6 => k_is)
    (case k6 => k_is)
    (case a7 => k_is)
    (case l7 => k_is)
    (case c7 => k_is)
    (case k7 => k_is)
    (case a8 => k_is)
    (case l8 => k_is)
    (case c8 => k_is)
    (case k8 => k_is)
    (case a9 => k_is)
    (case l9 => k_is)
    (case c9 => k_is)
    (case k9 => k_is)
    (case a10 => k_is)
    (case l10 => k_is)
    (case c10 => k_is)
    (case k10 => k_is)
    (case a11 => k_is)
    (case l11 => k_is)
    (case c11 => k_is)
    (case k11 => k_is)
    (case a12 => k_is)
    (case l12 => k_is)
    (case c12 => k_is)
    (case k12 => k_is)
    (case a13 => k_is)
    (case l13 => k_is)
    (case c13 => k_is)
    (case k13 => k_is)
    (case a14 => k_is)
    (case l14 => k_is)
    (case c14 => k_is)
    (case k14 => k_is)
    (case a15 => k_is)
    (case l15 => k_is)
    (case c15 => k_is)
    (case k15 => k_is)
    (case a16 => k_is)
    (case l16 => k_is)
    (case c16 => k_is)
    (case k16 => k_is)
    (case a17 => k_is)
    (case l17 => k_is)
    (case c17 => k_is)
    (case k17 => k_is)
    (case a18 => k_is)
    (case l18 => k_is)
    (case c18 => k_is)
    (case k18 => k_is)
    (case a19 => k_is)
    (case l19 => k_is)
    (case c19 => k_is)
    (case k19 => k_is)
    (case a20 => k_is)
    (case l20 => k_is)
    (case c20 => k_is)
    (case k20 => k_is)
    (case a21 => k_is)
    (case l21 => k_is)
    (case c21 => k_is)
    (case k21 => k_is)
    (case a22 => k_is)
    (case l22 => k_is)
    (case c22 => k_is)
    (case k22 => k_is)
    (case a23 => k_is)
    (case l23 => k_is)
    (case c23 => k_is)
    (case k23 => k_is)
    (case a24 => k_is)
    (case l24 => k_is)
    (case c24 => k_is)
    (case k24 => k_is)
    (case a25 => k_is)
    (case l25 => k_is)
    (case c25 => k_is)
    (case k25 => k_is)
    (case a26 => k_is)
    (case l26 => k_is)
    (case c26 => k_is)
    (case k26 => k_is)
    (case a27 => k_is)
    (case l27 => k_is)
    (case c27 => k_is)
    (case k27 => k_is)
    (case a28 => k_is)
    (case l28 => k_is)
    (case c28 => k_is)
    (case k28 => k_is)
    (case a29 => k_is)
    (case l29 => k_is)
    (case c29 => k_is)
    (case k29 => k_is)
    (case a30 => k_is)
    (case l30 => k_is)
    (case c30 => k_is)
    (case k30 => k_is)
    (case a31 => k_is)
    (case l31 => k_is)
    (case c31 => k_is)
    (case k31 => k_is)
    (case a32 => k_is)
    (case l32 => k_is)
    (case c32 => k_is)
    (case k32 => k_is)
    (case a33 => k_is)
    (case l33 => k_is)
    (case c33 => k_is)
    (case k33 => k_is)
    (case a34 => k_is)
    (case l34 => k_is)
    (case c34 => k_is)
    (case k34 => k_is)
    (case a35 => k_is)
    (case l35 => k_is)
    (case c35 => k_is)
    (case k35 => k_is)
    (case a36 => k_is)
    (case l36 => k_is)
    (case c36 => k_is)
    (case k36 => k_is)
    (case a37 => k_is)
    (case l37 => k_is)
    (case c37 => k_is)
    (case k37 => k_is)
    (case a38 => k_is)
    (case l38 => k_is)
    (case c38 => k_is)
    (case k38 => k_is)
    (case a39 => k_is)
    (case l39 => k_is)
    (case c39 => k_is)
    (case k39 => k_is)
    (case z_abs => k_is)
    (case z_all => k_is)
    (case z_bool => k_is)
    (case z_enumerate => k_is)
    (case z_int => k_is)
    (case z_isinstance => k_is)
    (case z_len => k_is)
    (case z_list => k_is)
    (case z_max => k_is)
    (case z_min => k_is)
    (case z_range => k_is)
    (case z_repr => k_is)
    (case z_sorted => k_is)
    (case z_str => k_is)
    (case z_sum => k_is)
    (case z_tuple => k_is)
    (case z_zip => k_is)
    (case e_APART => k_is)
    (case e_MAX_WIDTH => k_is)
    (case e_SUM => k_is)

