import PyProof.Rows.All
import Wide.All
import OpenK.AllK
import Wide.FinOn
import PySem.Challenge.RW_anywaybuilt_k11_whole_lots
import HandS.ForMost
import HandS.ForExc
import HandS.TryMany
import HandS.Flow
import HandS.Wide
import HandS.WideBits
import HandS.ExcSuper
import HandS.CallSlots
import HandS.Lambda
import HandS.Walk
import HandS.TupAny
import HandS.TupMul
import HandS.Style
import HandS.Conv
import HandS.Deep
import HandS.IsInst
import HandS.RaiseMore
import HandS.Small
import KE.DataAny
import KE.SortData
import KE.DataMinMax
import PyProof.ReprRoads
import HandS.Zip
import KE.GoesNew
import HandS.SetFor
import HandS.Strs
import HandS.SortKw
import KE.SortKeyHeap
import HandS.Ends
import HandS.Dict
import HandS.DictComp
import HandS.Iter
import HandS.ListItems
import HandS.Star
set_option Elab.async false
set_option linter.all false
set_option maxRecDepth 100000
set_option maxHeartbeats 4000000
namespace DL
open PySem PySem.Spec PyProof.Rows L2
abbrev Sg := L2.St
/-- what one run of a law knows: the tables of code objects that grow, each with the name of the one lambda made there; the module's names -/
class DLX where
  T : List (Addr × Str)
  mg : Str → Option Value
variable [DLX]
/-! ### 1. Data, states, results -/
/-- a value as plain data: trees; ref n: the n-th shared cell; own i: the thing that slot i owns; adr a: a written thing -/
inductive D where
  | non | bl (b : Bool) | int (i : Int) | str (x : Str) | adr (a : Addr) | fn (x : Str) | ty (n : String) | ref (n : Nat) | own (i : Nat)
  | tup (xs : List D) | lst (xs : List D) | dct (kvs : List (D × D)) | obj (C : Addr) (fs : List (Str × D))
/-- a thing that may change -/
inductive Cell where
  | lst (xs : List D) | dct (kvs : List (D × D)) | ins (C : Addr) (fs : List (Str × D)) | tab (n : Nat) | dead
inductive Slot where
  | no | val (d : D) | own (c : Cell)
structure S where
  δ : List Slot
  μ : List Cell
/-- an exception: its class, its fields (where it has a dict of its own) -/
structure EX where
  cls : Value
  fs : Option (List (Str × D))
inductive Res (α : Type) where
  | ok (a : α) (s : S) | exc (e : EX) (s : S) | bad
inductive SR where
  | nx (s : S) | rt (d : D) (s : S) | rtc (c : Cell) (s : S) | bk (s : S) | ct (s : S) | exc (e : EX) (s : S) | bad
inductive CR where
  | ok (d : D) (μ : List Cell) | okc (c : Cell) (μ : List Cell) | exc (e : EX) (μ : List Cell) | bad
@[inline] def Res.bind {α β : Type} (r : Res α) (f : α → S → Res β) : Res β := match r with
  | .ok a s => f a s
  | .exc e s => .exc e s
  | .bad => .bad
abbrev FE := S → Res D
abbrev FT := S → Res Bool
abbrev FC := S → Res Cell
abbrev FA := S → Res (List D)
abbrev FS := S → SR
abbrev FF := List D → List Cell → CR
def Cell.toD : Cell → D
  | .lst xs => .lst xs
  | .dct kvs => .dct kvs
  | .ins C fs => .obj C fs
  | .tab _ => .non
  | .dead => .non
def keyD : D → Option Key
  | .int i => some (.inl i)
  | .str x => some (.inr x)
  | _ => none
def keyT : D → Option (List Key)
  | .tup ds => ds.mapM keyD
  | _ => none

/-! ### 2. Data in the abstract heap -/
def Fixed : HO → Prop
  | .tup _ => True
  | .frz _ _ => True
  | .ext _ => True
  | _ => False
/-- a list that stands still -/
def SqF (K : PySem.W.Frag) (H : Hp) (a : Addr) (xs : List V) : Prop :=
  (∃ o, H a = some (.frz o (.lst xs))) ∨
    ∃ (o : Obj) (its : Array Value) (n : Nat), K.lookup a = some o ∧ o.cls = .type "list" ∧ o.dict = none ∧ o.data = .seq its n ∧ its.size ≤ sizeLine ∧ Vals xs its.toList
theorem SqF.sq {K : PySem.W.Frag} {H : Hp} {a : Addr} {xs : List V} (h : SqF K H a xs) : SqL K H a xs := h.elim (fun ⟨o, q⟩ => .inl (.inr ⟨o, q⟩)) .inr
section
variable (K : PySem.W.Frag) (H : Hp) (α : List Addr)
mutual
def Rv : D → V → Prop
  | .non, v => v = .non
  | .bl b, v => v = .bl b
  | .int i, v => v = .int i
  | .str x, v => v = .str x
  | .adr a, v => v = .ref a
  | .fn x, v => ∃ a, DLX.mg x = some (.ref a) ∧ v = .ref a
  | .ty n, v => v = .ty n
  | .ref n, v => ∃ a, α[n]? = some a ∧ v = .ref a
  | .own _, _ => False
  | .tup ds, v => ∃ a vs, v = .ref a ∧ SqT K H a vs ∧ Rvs ds vs
  | .lst ds, v => ∃ a vs, v = .ref a ∧ SqF K H a vs ∧ Rvs ds vs
  | .dct kvs, v => ∃ a o, v = .ref a ∧ ((∃ kv, H a = some (.frz o (.dK kv)) ∧ Rkv kvs kv) ∨ ∃ kv, kvs ≠ [] ∧ H a = some (.frz o (.dT kv)) ∧ RkT kvs kv)
  | .obj C fs, v => ∃ a o dx vs, v = .ref a ∧ H a = some (.frz o (.ins C dx vs)) ∧ Rfs fs vs
def Rvs : List D → List V → Prop
  | [], l => l = []
  | d :: ds, l => ∃ v r, l = v :: r ∧ Rv d v ∧ Rvs ds r
def Rkv : List (D × D) → List (Key × V) → Prop
  | [], l => l = []
  | (k, d) :: ds, l => ∃ q v r, l = (q, v) :: r ∧ keyD k = some q ∧ Rv d v ∧ Rkv ds r
def RkT : List (D × D) → List (List Key × V) → Prop
  | [], l => l = []
  | (k, d) :: ds, l => ∃ q v r, l = (q, v) :: r ∧ keyT k = some q ∧ Rv d v ∧ RkT ds r
def Rfs : List (Str × D) → List (Str × V) → Prop
  | [], l => l = []
  | (k, d) :: ds, l => ∃ v r, l = (k, v) :: r ∧ Rv d v ∧ Rfs ds r
end
def CellOk (a : Addr) : Cell → Prop
  | .lst xs => ∃ vs, H a = some (.lst vs) ∧ Rvs K H α xs vs
  | .dct kvs => (∃ kv, H a = some (.dK kv) ∧ Rkv K H α kvs kv) ∨ ∃ kv, kvs ≠ [] ∧ H a = some (.dT kv) ∧ RkT K H α kvs kv
  | .ins C fs => ∃ dx vs, H a = some (.ins C dx vs) ∧ Rfs K H α fs vs
  | .tab n => ∃ q, DLX.T[n]? = some (a, q) ∧ LamX.TabS H a q
  | .dead => ∃ o, H a = some o
/-- the shared cells -/
structure RelC (μ : List Cell) : Prop where
  len : α.length = μ.length
  nd : α.Nodup
  at_ : ∀ (n : Nat) (a : Addr) (c : Cell), α[n]? = some a → μ[n]? = some c → CellOk K H α a c
/-- the slots; H0: the heap at the def's entry -/
structure RelS (H0 : Hp) (σ : Sg) (δ : List Slot) : Prop where
  len : σ.length = δ.length
  val : ∀ (i : Nat) (d : D), δ[i]? = some (.val d) → ∃ v, σ[i]? = some (some v) ∧ Rv K H α d v
  own : ∀ (i : Nat) (c : Cell), δ[i]? = some (.own c) → ∃ a, σ[i]? = some (some (.ref a)) ∧ a ∉ α ∧ H0 a = none ∧ CellOk K H α a c
  inj : ∀ (i j : Nat) (c c' : Cell) (a : Addr), δ[i]? = some (.own c) → δ[j]? = some (.own c') → σ[i]? = some (some (.ref a)) → σ[j]? = some (some (.ref a)) → i = j
end
structure Stay (H : Hp) (α : List Addr) (H' : Hp) (α' : List Addr) : Prop where
  im : ∀ a o, H a = some o → Fixed o → H' a = some o
  pre : α <+: α'
  dom : ∀ a, H' a = none → H a = none
theorem Stay.refl (H : Hp) (α : List Addr) : Stay H α H α := ⟨fun _ _ h _ => h, List.prefix_rfl, fun _ h => h⟩
theorem Stay.trans {H H1 H2 : Hp} {α α1 α2 : List Addr} (a : Stay H α H1 α1) (b : Stay H1 α1 H2 α2) : Stay H α H2 α2 :=
  ⟨fun c o h f => b.im c o (a.im c o h f) f, a.pre.trans b.pre, fun c h => a.dom c (b.dom c h)⟩
theorem pre_get {α α' : List Addr} (p : α <+: α') {n : Nat} {a : Addr} (h : α[n]? = some a) : α'[n]? = some a := by
  obtain ⟨t, rfl⟩ := p
  rw [List.getElem?_append_left (List.getElem?_eq_some_iff.mp h).1]
  exact h
section
variable {K : PySem.W.Frag} {H H' : Hp} {α α' : List Addr}
theorem Stay.rd {a : Addr} {u : HO} (s : Stay H α H' α') (hu : Fixed u) (h : Rd H a u) : Rd H' a u := by
  rcases h with h | ⟨o, h⟩
  · exact .inl (s.im _ _ h hu)
  · exact .inr ⟨o, s.im _ _ h trivial⟩
theorem Stay.sqT {a : Addr} {xs : List V} (s : Stay H α H' α') (h : SqT K H a xs) : SqT K H' a xs := h.elim (fun q => .inl (s.rd trivial q)) .inr
theorem Stay.sqF {a : Addr} {xs : List V} (s : Stay H α H' α') (h : SqF K H a xs) : SqF K H' a xs := h.elim (fun ⟨o, q⟩ => .inl ⟨o, s.im _ _ q trivial⟩) .inr
mutual
theorem Rv.stay (s : Stay H α H' α') : ∀ (d : D) (v : V), Rv K H α d v → Rv K H' α' d v
  | .non, _, h => by simpa only [Rv] using h
  | .bl _, _, h => by simpa only [Rv] using h
  | .int _, _, h => by simpa only [Rv] using h
  | .str _, _, h => by simpa only [Rv] using h
  | .adr _, _, h => by simpa only [Rv] using h
  | .fn _, _, h => by simpa only [Rv] using h
  | .ty _, _, h => by simpa only [Rv] using h
  | .own _, _, h => by simp only [Rv] at h
  | .ref n, v, h => by
    simp only [Rv] at h ⊢
    obtain ⟨a, e, q⟩ := h
    exact ⟨a, pre_get s.pre e, q⟩
  | .tup ds, v, h => by
    simp only [Rv] at h ⊢
    obtain ⟨a, vs, e, q, r⟩ := h
    exact ⟨a, vs, e, s.sqT q, Rvs.stay s ds vs r⟩
  | .lst ds, v, h => by
    simp only [Rv] at h ⊢
    obtain ⟨a, vs, e, q, r⟩ := h
    exact ⟨a, vs, e, s.sqF q, Rvs.stay s ds vs r⟩
  | .dct kvs, v, h => by
    simp only [Rv] at h ⊢
    obtain ⟨a, o, e, ⟨kv, q, r⟩ | ⟨kv, n, q, r⟩⟩ := h
    · exact ⟨a, o, e, .inl ⟨kv, s.im _ _ q trivial, Rkv.stay s kvs kv r⟩⟩
    · exact ⟨a, o, e, .inr ⟨kv, n, s.im _ _ q trivial, RkT.stay s kvs kv r⟩⟩
  | .obj C fs, v, h => by
    simp only [Rv] at h ⊢
    obtain ⟨a, o, dx, vs, e, q, r⟩ := h
    exact ⟨a, o, dx, vs, e, s.im _ _ q trivial, Rfs.stay s fs vs r⟩
theorem Rvs.stay (s : Stay H α H' α') : ∀ (ds : List D) (vs : List V), Rvs K H α ds vs → Rvs K H' α' ds vs
  | [], _, h => by simpa only [Rvs] using h
  | d :: ds, l, h => by
    simp only [Rvs] at h ⊢
    obtain ⟨v, r, e, h1, h2⟩ := h
    exact ⟨v, r, e, Rv.stay s d v h1, Rvs.stay s ds r h2⟩
theorem Rkv.stay (s : Stay H α H' α') : ∀ (ds : List (D × D)) (vs : List (Key × V)), Rkv K H α ds vs → Rkv K H' α' ds vs
  | [], _, h => by simpa only [Rkv] using h
  | (k, d) :: ds, l, h => by
    simp only [Rkv] at h ⊢
    obtain ⟨q, v, r, e, h0, h1, h2⟩ := h
    exact ⟨q, v, r, e, h0, Rv.stay s d v h1, Rkv.stay s ds r h2⟩
theorem RkT.stay (s : Stay H α H' α') : ∀ (ds : List (D × D)) (vs : List (List Key × V)), RkT K H α ds vs → RkT K H' α' ds vs
  | [], _, h => by simpa only [RkT] using h
  | (k, d) :: ds, l, h => by
    simp only [RkT] at h ⊢
    obtain ⟨q, v, r, e, h0, h1, h2⟩ := h
    exact ⟨q, v, r, e, h0, Rv.stay s d v h1, RkT.stay s ds r h2⟩
theorem Rfs.stay (s : Stay H α H' α') : ∀ (ds : List (Str × D)) (vs : List (Str × V)), Rfs K H α ds vs → Rfs K H' α' ds vs
  | [], _, h => by simpa only [Rfs] using h
  | (k, d) :: ds, l, h => by
    simp only [Rfs] at h ⊢
    obtain ⟨v, r, e, h1, h2⟩ := h
    exact ⟨v, r, e, Rv.stay s d v h1, Rfs.stay s ds r h2⟩
end
/-- a cell whose object stands as it was -/
theorem CellOk.stay {a : Addr} (s : Stay H α H' α') (e : ∀ o, H a = some o → ¬ Fixed o → H' a = some o) : ∀ c : Cell, CellOk K H α a c → CellOk K H' α' a c
  | .lst xs, ⟨vs, h, r⟩ => ⟨vs, e _ h (fun z => z), Rvs.stay s xs vs r⟩
  | .dct kvs, h => by
    rcases h with ⟨kv, h, r⟩ | ⟨kv, n, h, r⟩
    · exact .inl ⟨kv, e _ h (fun z => z), Rkv.stay s kvs kv r⟩
    · exact .inr ⟨kv, n, e _ h (fun z => z), RkT.stay s kvs kv r⟩
  | .ins C fs, ⟨dx, vs, h, r⟩ => ⟨dx, vs, e _ h (fun z => z), Rfs.stay s fs vs r⟩
  | .tab n, ⟨q, t, ps, h, k, z⟩ => ⟨q, t, ps, e _ h (fun z => z), k, fun pos cv hc => by
    obtain ⟨c, e1, e2⟩ := z pos cv hc
    exact ⟨c, e1, s.im _ _ e2 trivial⟩⟩
  | .dead, ⟨o, h⟩ => by
    cases q : H' a with
    | none => rw [s.dom a q] at h; cases h
    | some u => exact ⟨u, q⟩
theorem Rvs.length : ∀ {ds : List D} {vs : List V}, Rvs K H α ds vs → vs.length = ds.length
  | [], _, h => by simp only [Rvs] at h; rw [h]; rfl
  | d :: ds, l, h => by
    simp only [Rvs] at h
    obtain ⟨v, r, rfl, h1, h2⟩ := h
    simp only [List.length_cons, Rvs.length h2]
theorem Rvs.at_ : ∀ {ds : List D} {vs : List V} {i : Nat} {d : D}, Rvs K H α ds vs → ds[i]? = some d → ∃ v, vs[i]? = some v ∧ Rv K H α d v
  | [], _, _, _, _, e => by simp at e
  | d :: ds, l, i, x, h, e => by
    simp only [Rvs] at h
    obtain ⟨v, r, rfl, h1, h2⟩ := h
    cases i with
    | zero => simp at e; subst e; exact ⟨v, rfl, h1⟩
    | succ i =>
      obtain ⟨w, q, z⟩ := Rvs.at_ (i := i) (d := x) h2 (by simpa using e)
      exact ⟨w, by simpa using q, z⟩
theorem Rvs.at' : ∀ {ds : List D} {vs : List V} {i : Nat} {v : V}, Rvs K H α ds vs → vs[i]? = some v → ∃ d, ds[i]? = some d ∧ Rv K H α d v
  | [], _, _, _, h, e => by simp only [Rvs] at h; subst h; simp at e
  | d :: ds, l, i, x, h, e => by
    simp only [Rvs] at h
    obtain ⟨v, r, rfl, h1, h2⟩ := h
    cases i with
    | zero => simp at e; subst e; exact ⟨d, rfl, h1⟩
    | succ i =>
      obtain ⟨w, q, z⟩ := Rvs.at' (i := i) (v := x) h2 (by simpa using e)
      exact ⟨w, by simpa using q, z⟩
theorem Rvs.append : ∀ {ds es : List D} {vs us : List V}, Rvs K H α ds vs → Rvs K H α es us → Rvs K H α (ds ++ es) (vs ++ us)
  | [], es, _, us, h, q => by simp only [Rvs] at h; subst h; exact q
  | d :: ds, es, l, us, h, q => by
    simp only [Rvs] at h
    obtain ⟨v, r, rfl, h1, h2⟩ := h
    simp only [List.cons_append, Rvs]
    exact ⟨v, r ++ us, rfl, h1, Rvs.append h2 q⟩
theorem Rvs.single {d : D} {v : V} (h : Rv K H α d v) : Rvs K H α [d] [v] := by
  simp only [Rvs]
  exact ⟨v, [], rfl, h, rfl⟩
theorem Rvs.cons {d : D} {v : V} {ds : List D} {vs : List V} (h : Rv K H α d v) (q : Rvs K H α ds vs) : Rvs K H α (d :: ds) (v :: vs) := by
  simp only [Rvs]
  exact ⟨v, vs, rfl, h, q⟩
theorem Rvs.nil : Rvs K H α [] [] := by simp only [Rvs]
theorem Rvs.set {d : D} {v : V} (h : Rv K H α d v) : ∀ {ds : List D} {vs : List V} (i : Nat), Rvs K H α ds vs → Rvs K H α (ds.set i d) (vs.set i v)
  | [], _, _, q => by simp only [Rvs] at q; subst q; exact Rvs.nil
  | e :: ds, l, i, q => by
    simp only [Rvs] at q
    obtain ⟨w, r, rfl, h1, h2⟩ := q
    cases i with
    | zero => exact Rvs.cons h h2
    | succ i => exact Rvs.cons h1 (Rvs.set h i h2)
theorem Rvs.take : ∀ {ds : List D} {vs : List V} (n : Nat), Rvs K H α ds vs → Rvs K H α (ds.take n) (vs.take n)
  | [], _, _, q => by simp only [Rvs] at q; subst q; simp [Rvs]
  | e :: ds, l, n, q => by
    simp only [Rvs] at q
    obtain ⟨w, r, rfl, h1, h2⟩ := q
    cases n with
    | zero => exact Rvs.nil
    | succ n => exact Rvs.cons h1 (Rvs.take n h2)
theorem Rvs.drop : ∀ {ds : List D} {vs : List V} (n : Nat), Rvs K H α ds vs → Rvs K H α (ds.drop n) (vs.drop n)
  | [], _, _, q => by simp only [Rvs] at q; subst q; simp [Rvs]
  | e :: ds, l, n, q => by
    simp only [Rvs] at q
    obtain ⟨w, r, rfl, h1, h2⟩ := q
    cases n with
    | zero => exact Rvs.cons h1 h2
    | succ n => exact Rvs.drop n h2
end
end DL

namespace DL
open PySem PySem.Spec PyProof.Rows L2
variable [DLX]
/-! ### 3. The relation of a state to the machine -/
structure Rel (K : PySem.W.Frag) (H0 : Hp) (α0 : List Addr) (H : Hp) (α : List Addr) (σ : Sg) (s : S) : Prop where
  cells : RelC K H α s.μ
  slots : RelS K H α H0 σ s.δ
  ot : ∀ a o, H0 a = some o → a ∉ α0 → H a = some o
  nw : ∀ a ∈ α, a ∈ α0 ∨ H0 a = none
  st : Stay H0 α0 H α
def ExR (K : PySem.W.Frag) (H : Hp) (α : List Addr) (e : EX) (cls : Value) (dd : Option Addr) : Prop :=
  cls = e.cls ∧ ∀ fs, e.fs = some fs → ∃ a vs, dd = some a ∧ H a = some (.xd vs) ∧ Rfs K H α fs vs
/-- a value on the way: data, or the thing of a slot -/
def Rx (K : PySem.W.Frag) (H : Hp) (α : List Addr) (σ : Sg) (d : D) (v : V) : Prop :=
  match d with
  | .own i => σ[i]? = some (some v)
  | d => Rv K H α d v
def Rxs (K : PySem.W.Frag) (H : Hp) (α : List Addr) (σ : Sg) (ds : List D) (vs : List V) : Prop := Paired (Rx K H α σ) ds vs
section
variable {K : PySem.W.Frag} {H0 H H' : Hp} {α0 α α' : List Addr} {σ : Sg} {s s' : S}
theorem Rv.x {d : D} {v : V} (h : Rv K H α d v) : Rx K H α σ d v := by
  cases d <;> first | exact h | (simp only [Rv] at h)
theorem Rx.stay (t : Stay H α H' α') {d : D} {v : V} (h : Rx K H α σ d v) : Rx K H' α' σ d v := by
  cases d <;> first | exact h | exact Rv.stay t _ _ h
theorem Rx.rv {d : D} {v : V} (h : Rx K H α σ d v) (n : ∀ i, d ≠ .own i) : Rv K H α d v := by
  cases d <;> first | exact h | exact absurd rfl (n _)
end
/-! ### 4. What is wanted of a result -/
def PostE (K : PySem.W.Frag) (H0 : Hp) (α0 : List Addr) (σ : Sg) (W : WX) (H : Hp) (α : List Addr) (Q : VK) : Res D → Prop
  | .ok d s' => ∀ v H' α', Rel K H0 α0 H' α' σ s' → Stay H α H' α' → Rx K H' α' σ d v → Q v H'
  | .exc e s' => ∀ cls dd H' α', Rel K H0 α0 H' α' σ s' → ExR K H' α' e cls dd → W cls dd σ H'
  | .bad => False
def PostT (K : PySem.W.Frag) (H0 : Hp) (α0 : List Addr) (σ : Sg) (W : WX) (H : Hp) (α : List Addr) (Q : Bool → Hp → Prop) : Res Bool → Prop
  | .ok b s' => ∀ H' α', Rel K H0 α0 H' α' σ s' → Stay H α H' α' → Q b H'
  | .exc e s' => ∀ cls dd H' α', Rel K H0 α0 H' α' σ s' → ExR K H' α' e cls dd → W cls dd σ H'
  | .bad => False
def PostA (K : PySem.W.Frag) (H0 : Hp) (α0 : List Addr) (σ : Sg) (W : WX) (H : Hp) (α : List Addr) (Q : List V → Hp → Prop) : Res (List D) → Prop
  | .ok ds s' => ∀ vs H' α', Rel K H0 α0 H' α' σ s' → Stay H α H' α' → Rxs K H' α' σ ds vs → Q vs H'
  | .exc e s' => ∀ cls dd H' α', Rel K H0 α0 H' α' σ s' → ExR K H' α' e cls dd → W cls dd σ H'
  | .bad => False
/-- a fresh thing at a: nobody else knows it -/
def RF (K : PySem.W.Frag) (H0 : Hp) (H : Hp) (α : List Addr) (σ : Sg) (s : S) (a : Addr) (c : Cell) : Prop :=
  CellOk K H α a c ∧ a ∉ α ∧ H0 a = none ∧ ∀ (i : Nat) (c' : Cell), s.δ[i]? = some (.own c') → σ[i]? ≠ some (some (.ref a))
def PostF (K : PySem.W.Frag) (H0 : Hp) (α0 : List Addr) (σ : Sg) (W : WX) (H : Hp) (α : List Addr) (Q : VK) : Res Cell → Prop
  | .ok c s' => ∀ a H' α', Rel K H0 α0 H' α' σ s' → Stay H α H' α' → RF K H0 H' α' σ s' a c → Q (.ref a) H'
  | .exc e s' => ∀ cls dd H' α', Rel K H0 α0 H' α' σ s' → ExR K H' α' e cls dd → W cls dd σ H'
  | .bad => False
def PostS (K : PySem.W.Frag) (H0 : Hp) (α0 : List Addr) (W : WX) (H : Hp) (α : List Addr) (D : Ends) : SR → Prop
  | .nx s' => ∀ σ' H' α', Rel K H0 α0 H' α' σ' s' → Stay H α H' α' → D.nx σ' H'
  | .bk s' => ∀ σ' H' α', Rel K H0 α0 H' α' σ' s' → Stay H α H' α' → D.bk σ' H'
  | .ct s' => ∀ σ' H' α', Rel K H0 α0 H' α' σ' s' → Stay H α H' α' → D.ct σ' H'
  | .rt d s' => ∀ v σ' H' α', Rel K H0 α0 H' α' σ' s' → Rv K H' α' d v → D.rt v H'
  | .rtc c s' => ∀ a σ' H' α', Rel K H0 α0 H' α' σ' s' → RF K H0 H' α' σ' s' a c → D.rt (.ref a) H'
  | .exc e s' => ∀ cls dd σ' H' α', Rel K H0 α0 H' α' σ' s' → ExR K H' α' e cls dd → W cls dd σ' H'
  | .bad => False
/-! ### 5. The judgements -/
structure PED (X : Cx) (e : Expr) (f : FE) : Prop where
  run : ∀ W, Takes X W → ∃ t, PE X e t ∧ ∀ H0 α0 σ H α s Q, Rel X.K H0 α0 H α σ s → PostE X.K H0 α0 σ W H α Q (f s) → t σ H Q
structure PTD (X : Cx) (e : Expr) (f : FT) : Prop where
  run : ∀ W, Takes X W → ∃ t, PT X e t ∧ ∀ H0 α0 σ H α s Q, Rel X.K H0 α0 H α σ s → PostT X.K H0 α0 σ W H α Q (f s) → t σ H Q
structure PAD (X : Cx) (es : List Expr) (f : FA) : Prop where
  run : ∀ W, Takes X W → ∃ t, PA X es t ∧ ∀ H0 α0 σ H α s Q, Rel X.K H0 α0 H α σ s → PostA X.K H0 α0 σ W H α Q (f s) → t σ H Q
structure PFD (X : Cx) (e : Expr) (f : FC) : Prop where
  run : ∀ W, Takes X W → ∃ t, PE X e t ∧ ∀ H0 α0 σ H α s Q, Rel X.K H0 α0 H α σ s → PostF X.K H0 α0 σ W H α Q (f s) → t σ H Q
structure PSD (X : Cx) (st : Stmt) (f : FS) : Prop where
  run : ∀ W, Takes X W → ∃ t, PS X st t ∧ ∀ H0 α0 σ H α s D, Rel X.K H0 α0 H α σ s → PostS X.K H0 α0 W H α D (f s) → t D σ H
structure PSsD (X : Cx) (st : List Stmt) (f : FS) : Prop where
  run : ∀ W, Takes X W → ∃ t, PSs X st t ∧ ∀ H0 α0 σ H α s D, Rel X.K H0 α0 H α σ s → PostS X.K H0 α0 W H α D (f s) → t D σ H

/-! ### 6. Steps of the heap -/
section
variable {K : PySem.W.Frag} {H0 H H' : Hp} {α0 α α' : List Addr} {σ : Sg} {s : S}
theorem CellOk.some {a : Addr} : ∀ {c : Cell}, CellOk K H α a c → ∃ o, H a = some o
  | .lst _, ⟨_, h, _⟩ => ⟨_, h⟩
  | .dct _, h => h.elim (fun ⟨_, q, _⟩ => ⟨_, q⟩) (fun ⟨_, _, q, _⟩ => ⟨_, q⟩)
  | .tab _, ⟨_, _, _, q, _⟩ => ⟨_, q⟩
  | .ins _ _, ⟨_, _, h, _⟩ => ⟨_, h⟩
  | .dead, h => h
theorem RelC.some {μ : List Cell} (r : RelC K H α μ) {a : Addr} (h : a ∈ α) : ∃ o, H a = some o := by
  obtain ⟨n, e⟩ := List.mem_iff_getElem?.mp h
  have hn := (List.getElem?_eq_some_iff.mp e).1
  rw [r.len] at hn
  exact (r.at_ n a _ e (List.getElem?_eq_getElem hn)).some
theorem Stay.upd_new {p : Addr} {o : HO} (h : H p = none) : Stay H α (upd H p o) α :=
  ⟨fun a u e _ => by rw [upd_ne (ne_of_none e h)]; exact e, List.prefix_rfl, fun a e => by
    by_cases q : a = p
    · subst q; exact h
    · rw [upd_ne q] at e; exact e⟩
/-- an untracked place is fresh to all -/
theorem Rel.free0 (r : Rel K H0 α0 H α σ s) {p : Addr} (h : H p = none) : H0 p = none := r.st.dom p h
theorem Rel.nota (r : Rel K H0 α0 H α σ s) {p : Addr} (h : H p = none) : p ∉ α := fun z => by
  obtain ⟨o, e⟩ := r.cells.some z
  rw [h] at e; cases e
/-- any step that leaves what is shared, what is owned and the callers' things as they were -/
theorem Rel.step (r : Rel K H0 α0 H α σ s) (t : Stay H α H' α)
    (k : ∀ a o, H a = some o → ¬ Fixed o → (a ∈ α ∨ ∃ (i : Nat) (c : Cell), s.δ[i]? = some (.own c) ∧ σ[i]? = some (some (.ref a))) → H' a = some o) (k0 : ∀ a o, H0 a = some o → a ∉ α0 → H a = some o → H' a = some o) : Rel K H0 α0 H' α σ s := by
  refine ⟨⟨r.cells.len, r.cells.nd, fun n a c h1 h2 => ?_⟩, ⟨r.slots.len, fun i d h => ?_, fun i c h => ?_, r.slots.inj⟩, fun a o h1 h2 => k0 a o h1 h2 (r.ot a o h1 h2), r.nw, r.st.trans t⟩
  · exact (r.cells.at_ n a c h1 h2).stay t (fun o e nf => k a o e nf (.inl (List.mem_of_getElem? h1)))
  · obtain ⟨v, e, q⟩ := r.slots.val i d h
    exact ⟨v, e, Rv.stay t d v q⟩
  · obtain ⟨a, e, na, n0, q⟩ := r.slots.own i c h
    exact ⟨a, e, na, n0, q.stay t (fun o e' nf => k a o e' nf (.inr ⟨i, c, h, e⟩))⟩
/-- a new thing -/
theorem Rel.new (r : Rel K H0 α0 H α σ s) {p : Addr} {o : HO} (h : H p = none) : Rel K H0 α0 (upd H p o) α σ s :=
  r.step (Stay.upd_new h) (fun a u e _ _ => by rw [upd_ne (ne_of_none e h)]; exact e) (fun a u _ _ e => by rw [upd_ne (ne_of_none e h)]; exact e)
end
theorem Takes.none {X : Cx} : Takes X (fun _ _ _ _ => False) := takes0
end DL

namespace DL
open PySem PySem.Spec PyProof.Rows L2
variable [DLX]
/-! ### 7. The ghost step: a thing is locked for good -/
def Gh (H : Hp) (Q : Hp → Prop) : Prop := Q H ∨ ∃ a u, H a = some u ∧ Mut (some u) ∧ ∀ o, Q (upd H a (.frz o u))
theorem Inv.gh {X : Cx} {pins : List (Addr × Obj)} {σ : Sg} {H : Hp} {s : Shared} {Q : Hp → Prop} (I : Inv X pins σ H s) (g : Gh H Q) : ∃ H', Inv X pins σ H' s ∧ Q H' := by
  rcases g with q | ⟨a, u, h, m, q⟩
  · exact ⟨H, I, q⟩
  · obtain ⟨o, J⟩ := I.lock h m
    exact ⟨_, J, q o⟩
theorem EP.gh {X : Cx} {pins : List (Addr × Obj)} {σ : Sg} {Q : VK} {u : Value} {s : Shared} (h : EP X pins σ (fun v H1 => Gh H1 (Q v)) u s) : EP X pins σ Q u s := by
  obtain ⟨v, H, I, r, g⟩ := h
  obtain ⟨H', J, q⟩ := DL.Inv.gh I g
  exact ⟨v, H', J, r, q⟩
theorem opGh {X : Cx} {f : Value → Value → Sem Value} {r : R2} (h : OpR X f r) : OpR X f (fun x y H Q => r x y H fun v H1 => Gh H1 (Q v)) :=
  fun pins s σ H x y v u Q I rx ry q => thn (h pins s σ H x y v u _ I rx ry q) fun _ _ e => EP.gh e
theorem peGh {X : Cx} {e : Expr} {t : TE} (h : PE X e t) : PE X e (fun σ H Q => t σ H fun v H1 => Gh H1 (Q v)) :=
  ⟨fun pins s σ H Q I q => thn (h.run pins s σ H _ I q) fun _ _ e => EP.gh e⟩
theorem callGh {X : Cx} {f : Value} {r : List V → Hp → VK → Prop} (h : CallR X f r) : CallR X f (fun xs H Q => r xs H fun v H1 => Gh H1 (Q v)) :=
  fun pins s σ H xs us Q I rx q => thn (h pins s σ H xs us _ I rx q) fun _ _ e => EP.gh e

/-! ### 8. Reading things -/
def cellAt (s : S) (d : D) : Option Cell := match d with
  | .own i => (match s.δ[i]? with | some (.own c) => some c | _ => none)
  | .ref n => s.μ[n]?
  | .lst xs => some (.lst xs)
  | .dct kvs => some (.dct kvs)
  | .obj C fs => some (.ins C fs)
  | _ => none
def asL (s : S) (d : D) : Option (List D) := match cellAt s d with | some (.lst xs) => some xs | _ => none
def asSeq (s : S) (d : D) : Option (List D) := match d with | .tup xs => some xs | d => asL s d
section
variable {K : PySem.W.Frag} {H0 H H' : Hp} {α0 α α' : List Addr} {σ : Sg} {s : S}
theorem asL_ok {d : D} {v : V} {xs : List D} (r : Rel K H0 α0 H α σ s) (h : Rx K H α σ d v) (e : asL s d = some xs) : ∃ a vs, v = .ref a ∧ SqL K H a vs ∧ Rvs K H α xs vs := by
  unfold asL cellAt at e
  cases d <;> simp only [reduceCtorEq] at e
  case ref n =>
    cases hc : s.μ[n]? with
    | none => rw [hc] at e; cases e
    | some c =>
      rw [hc] at e
      cases c <;> simp only [reduceCtorEq, Option.some.injEq] at e
      subst e
      have h' : Rv K H α (.ref n) v := h
      simp only [Rv] at h'
      obtain ⟨a, ha, rfl⟩ := h'
      obtain ⟨vs, q, rr⟩ := r.cells.at_ n a _ ha hc
      exact ⟨a, vs, rfl, .of q, rr⟩
  case own i =>
    cases hc : s.δ[i]? with
    | none => rw [hc] at e; simp at e
    | some c =>
      rw [hc] at e
      cases c with
      | no => simp at e
      | val _ => simp at e
      | own c =>
        cases c <;> simp only [reduceCtorEq, Option.some.injEq] at e
        subst e
        have h' : σ[i]? = some (some v) := h
        obtain ⟨a, ha, _, _, vs, q, rr⟩ := r.slots.own i _ hc
        rw [h'] at ha
        cases ha
        exact ⟨a, vs, rfl, .of q, rr⟩
  case lst ys =>
    simp only [Option.some.injEq] at e
    subst e
    have h' : Rv K H α (.lst ys) v := h
    simp only [Rv] at h'
    obtain ⟨a, vs, rfl, q, rr⟩ := h'
    exact ⟨a, vs, rfl, q.sq, rr⟩
theorem asT_ok {v : V} {xs : List D} (h : Rx K H α σ (.tup xs) v) : ∃ a vs, v = .ref a ∧ SqT K H a vs ∧ Rvs K H α xs vs := by
  have h' : Rv K H α (.tup xs) v := h
  simpa only [Rv] using h'
theorem asSeq_ok {d : D} {v : V} {xs : List D} (r : Rel K H0 α0 H α σ s) (h : Rx K H α σ d v) (e : asSeq s d = some xs) : ∃ a vs, v = .ref a ∧ (SqL K H a vs ∨ SqT K H a vs) ∧ Rvs K H α xs vs := by
  unfold asSeq at e
  split at e
  · cases e
    obtain ⟨a, vs, e1, q, rr⟩ := asT_ok h
    exact ⟨a, vs, e1, .inr q, rr⟩
  · obtain ⟨a, vs, e1, q, rr⟩ := asL_ok r h e
    exact ⟨a, vs, e1, .inl q, rr⟩
/-- a new list is locked at once -/
theorem gh_list {p : Addr} {xs : List D} {vs : List V} {Q : VK} (r : Rel K H0 α0 H α σ s) (h : H p = none) (rr : Rvs K H α xs vs)
    (q : ∀ v H' α', Rel K H0 α0 H' α' σ s → Stay H α H' α' → Rx K H' α' σ (.lst xs) v → Q v H') : Gh (upd H p (.lst vs)) (Q (.ref p)) := by
  refine .inr ⟨p, .lst vs, upd_same, trivial, fun o => ?_⟩
  rw [upd_upd]
  have t : Stay H α (upd H p (.frz o (.lst vs))) α := Stay.upd_new h
  refine q _ _ α (r.new h) t (Rv.x ?_)
  simp only [Rv]
  exact ⟨p, vs, rfl, .inl ⟨o, upd_same⟩, Rvs.stay t _ _ rr⟩
theorem new_tup {p : Addr} {xs : List D} {vs : List V} {Q : VK} (r : Rel K H0 α0 H α σ s) (h : H p = none) (rr : Rvs K H α xs vs)
    (q : ∀ v H' α', Rel K H0 α0 H' α' σ s → Stay H α H' α' → Rx K H' α' σ (.tup xs) v → Q v H') : Q (.ref p) (upd H p (.tup vs)) := by
  have t : Stay H α (upd H p (.tup vs)) α := Stay.upd_new h
  refine q _ _ α (r.new h) t (Rv.x ?_)
  simp only [Rv]
  exact ⟨p, vs, rfl, .inl (.inl upd_same), Rvs.stay t _ _ rr⟩
end

/-! ### 9. Names, constants -/
def dVar (i : Nat) : FE := fun s => match s.δ[i]? with
  | some (.val d) => .ok d s
  | some (.own _) => .ok (.own i) s
  | _ => .bad
def dC (d : D) : FE := fun s => .ok d s
section
variable {X : Cx}
theorem pd_var (i : Nat) {e : Expr} (h : PE X e (tVar i)) : PED X e (dVar i) := ⟨fun W _ => ⟨_, h, fun H0 α0 σ H α s Q r q => by
  unfold dVar at q
  cases e : s.δ[i]? with
  | none => rw [e] at q; exact q.elim
  | some sl =>
    rw [e] at q
    cases sl with
    | no => exact q.elim
    | val d =>
      obtain ⟨v, h1, h2⟩ := r.slots.val i d e
      exact ⟨v, h1, q v H α r (Stay.refl _ _) (Rv.x h2)⟩
    | own c =>
      obtain ⟨a, h1, _⟩ := r.slots.own i c e
      exact ⟨_, h1, q _ H α r (Stay.refl _ _) h1⟩⟩⟩
theorem pd_c {e : Expr} {d : D} {v : V} (h : PE X e (tC v)) (hv : ∀ H α, Rv X.K H α d v) : PED X e (dC d) := ⟨fun W _ => ⟨_, h, fun H0 α0 σ H α s Q r q => q v H α r (Stay.refl _ _) (Rv.x (hv H α))⟩⟩
theorem pd_int {i j pos} : PED X (.Constant (.int i) j pos) (dC (.int i)) := pd_c pe_int fun _ _ => by simp only [Rv]
theorem pd_bl {b j pos} : PED X (.Constant (.bool b) j pos) (dC (.bl b)) := pd_c pe_bl fun _ _ => by simp only [Rv]
theorem pd_non {j pos} : PED X (.Constant .none j pos) (dC .non) := pd_c pe_non fun _ _ => by simp only [Rv]
theorem pd_str {x j pos} : PED X (.Constant (.str x) j pos) (dC (.str x)) := pd_c pe_str fun _ _ => by simp only [Rv]
/-- a global that holds a written thing, an int, a text -/
theorem pd_globA {x : Str} {a : Addr} {pos : Pos} (hg : Gl X x) (hm : X.mg x = some (.ref a)) (hd : (x == ("__debug__" : Str)) = false := by decide) : PED X (.Name x pos) (dC (.adr a)) :=
  pd_c (pe_glob (v := .ref a) hg hm rfl hd) fun _ _ => by simp only [Rv]
theorem pd_globI {x : Str} {i : Int} {t : Tok} {pos : Pos} (hg : Gl X x) (hm : X.mg x = some (.int i t)) (hd : (x == ("__debug__" : Str)) = false := by decide) : PED X (.Name x pos) (dC (.int i)) :=
  pd_c (pe_glob (v := .int i) hg hm ⟨t, rfl⟩ hd) fun _ _ => by simp only [Rv]
theorem pd_globS {x y : Str} {t : Tok} {pos : Pos} (hg : Gl X x) (hm : X.mg x = some (.str y t)) (hd : (x == ("__debug__" : Str)) = false := by decide) : PED X (.Name x pos) (dC (.str y)) :=
  pd_c (pe_glob (v := .str y) hg hm ⟨t, rfl⟩ hd) fun _ _ => by simp only [Rv]
theorem pd_bltT {x : Str} {n : String} {pos : Pos} (hg : Gl X x) (hm : X.mg x = none) (hv : bootBuiltins x = some (.type n)) (hn : x ≠ "__name__" := by decide) (hd : (x == ("__debug__" : Str)) = false := by decide) : PED X (.Name x pos) (dC (.ty n)) :=
  pd_c (pe_bltn (v := .ty n) hg hm hv rfl hn hd) fun _ _ => by simp only [Rv]
end

/-! ### 10. Operators -/
def dOp (g : S → D → D → Option D) (fa fb : FE) : FE := fun s => (fa s).bind fun a s1 => (fb s1).bind fun b s2 => match g s2 a b with | some d => .ok d s2 | none => .bad
def OpS (X : Cx) (r : R2) (g : S → D → D → Option D) : Prop :=
  ∀ (H0 : Hp) (α0 : List Addr) (σ : Sg) (H : Hp) (α : List Addr) (s : S) (x y : V) (a b d : D) (Q : VK), Rel X.K H0 α0 H α σ s → Rx X.K H α σ a x → Rx X.K H α σ b y → g s a b = some d →
    (∀ v H' α', Rel X.K H0 α0 H' α' σ s → Stay H α H' α' → Rx X.K H' α' σ d v → Q v H') → r x y H fun v H1 => Gh H1 (Q v)
section
variable {X : Cx}
/-- two expressions, then k -/
theorem two_run {a b : Expr} {fa fb : FE} {W : WX} {ta tb : TE} (ha : ∀ H0 α0 σ H α s Q, Rel X.K H0 α0 H α σ s → PostE X.K H0 α0 σ W H α Q (fa s) → ta σ H Q)
    (hb : ∀ H0 α0 σ H α s Q, Rel X.K H0 α0 H α σ s → PostE X.K H0 α0 σ W H α Q (fb s) → tb σ H Q) {H0 : Hp} {α0 : List Addr} {σ : Sg} {H : Hp} {α : List Addr} {s : S} {Q : VK} {k : D → D → S → Res D} {R : V → V → Hp → Prop} (r : Rel X.K H0 α0 H α σ s)
    (q : PostE X.K H0 α0 σ W H α Q ((fa s).bind fun a s1 => (fb s1).bind fun b s2 => k a b s2))
    (hk : ∀ a b x y s2 H2 α2, Rel X.K H0 α0 H2 α2 σ s2 → Stay H α H2 α2 → Rx X.K H2 α2 σ a x → Rx X.K H2 α2 σ b y → PostE X.K H0 α0 σ W H α Q (k a b s2) → R x y H2) : ta σ H fun x H1 => tb σ H1 fun y H2 => R x y H2 := by
  refine ha H0 α0 σ H α s _ r ?_
  cases ea : fa s with
  | bad => rw [ea] at q; exact q.elim
  | exc e s1 => rw [ea] at q; exact q
  | ok a s1 =>
    rw [ea] at q
    intro x H1 α1 r1 t1 rx
    refine hb H0 α0 σ H1 α1 s1 _ r1 ?_
    have q' : PostE X.K H0 α0 σ W H α Q ((fb s1).bind fun b s2 => k a b s2) := q
    cases eb : fb s1 with
    | bad => rw [eb] at q'; exact q'.elim
    | exc e s2 => rw [eb] at q'; exact q'
    | ok b s2 =>
      rw [eb] at q'
      intro y H2 α2 r2 t2 ry
      exact hk a b x y s2 H2 α2 r2 (t1.trans t2) (rx.stay t2) ry q'
theorem PostE.mono {K : PySem.W.Frag} {H0 : Hp} {α0 : List Addr} {σ : Sg} {W : WX} {H H1 : Hp} {α α1 : List Addr} {Q : VK} (t : Stay H α H1 α1) {x : Res D} (q : PostE K H0 α0 σ W H α Q x) : PostE K H0 α0 σ W H1 α1 Q x := by
  cases x with
  | ok d s' => exact fun v H' α' r t' rx => q v H' α' r (t.trans t') rx
  | exc e s' => exact q
  | bad => exact q
theorem pd_opG {e a b : Expr} {r : R2} {g : S → D → D → Option D} {fa fb : FE} (hp : ∀ ta tb, PE X a ta → PE X b tb → PE X e (tOp (fun x y H Q => r x y H fun v H1 => Gh H1 (Q v)) ta tb)) (hs : OpS X r g) (ha : PED X a fa) (hb : PED X b fb) : PED X e (dOp g fa fb) := by
  refine ⟨fun W tk => ?_⟩
  obtain ⟨ta, pa, qa⟩ := ha.run W tk
  obtain ⟨tb, pb, qb⟩ := hb.run W tk
  refine ⟨_, hp ta tb pa pb, fun H0 α0 σ H α s Q rl q => ?_⟩
  refine two_run (a := a) (b := b) (W := W) qa qb rl q fun u w x y s2 H2 α2 r2 t2 rx ry q2 => ?_
  cases eg : g s2 u w with
  | none => rw [eg] at q2; exact q2.elim
  | some d =>
    rw [eg] at q2
    exact hs H0 α0 σ H2 α2 s2 x y u w d Q r2 rx ry eg fun v H' α' r' t' rv => q2 v H' α' r' (t2.trans t') rv
theorem pd_op {op : Operator} {a b : Expr} {pos : Pos} {r : R2} {g : S → D → D → Option D} {fa fb : FE} (ho : OpR X (binaryOp op) r) (hs : OpS X r g) (ha : PED X a fa) (hb : PED X b fb) : PED X (.BinOp a op b pos) (dOp g fa fb) :=
  pd_opG (fun _ _ pa pb => pe_op (opGh ho) pa pb) hs ha hb
theorem pd_cmp {op : CmpOp} {a b : Expr} {pos : Pos} {r : R2} {g : S → D → D → Option D} {fa fb : FE} (ho : OpR X (compareOp op) r) (hs : OpS X r g) (ha : PED X a fa) (hb : PED X b fb) (hm : behindInMarks op b = false) : PED X (.Compare a [op] [b] pos) (dOp g fa fb) :=
  pd_opG (fun _ _ pa pb => pe_cmpR (opGh ho) pa pb hm) hs ha hb
theorem OpS.or {r r' : R2} {g g' : S → D → D → Option D} (h : OpS X r g) (h' : OpS X r' g') : OpS X (fun x y H Q => r x y H Q ∨ r' x y H Q) (fun s a b => (g s a b).or (g' s a b)) := fun H0 α0 σ H α s x y a b d Q rl rx ry e q => by
  dsimp only at e
  cases eg : g s a b with
  | some d' =>
    rw [eg] at e
    obtain rfl : d' = d := Option.some.inj e
    exact .inl (h H0 α0 σ H α s x y a b d' Q rl rx ry eg q)
  | none =>
    rw [eg] at e
    have e : g' s a b = some d := e
    exact .inr (h' H0 α0 σ H α s x y a b d Q rl rx ry e q)
end
end DL

namespace DL
open PySem PySem.Spec PyProof.Rows L2
variable [DLX]
/-! ### 11. Ints -/
def gI (c : Int → Int → Bool) (f : Int → Int → D) : S → D → D → Option D := fun _ a b => match a, b with | .int i, .int j => if c i j then some (f i j) else none | _, _ => none
section
variable {X : Cx}
theorem rx_int {K : PySem.W.Frag} {H : Hp} {α : List Addr} {σ : Sg} {i : Int} {x : V} (h : Rx K H α σ (.int i) x) : x = .int i := by
  have h' : Rv K H α (.int i) x := h
  simpa only [Rv] using h'
theorem rx_str {K : PySem.W.Frag} {H : Hp} {α : List Addr} {σ : Sg} {i : Str} {x : V} (h : Rx K H α σ (.str i) x) : x = .str i := by
  have h' : Rv K H α (.str i) x := h
  simpa only [Rv] using h'
theorem rx_bl {K : PySem.W.Frag} {H : Hp} {α : List Addr} {σ : Sg} {i : Bool} {x : V} (h : Rx K H α σ (.bl i) x) : x = .bl i := by
  have h' : Rv K H α (.bl i) x := h
  simpa only [Rv] using h'
theorem rx_non {K : PySem.W.Frag} {H : Hp} {α : List Addr} {σ : Sg} {x : V} (h : Rx K H α σ .non x) : x = .non := by
  have h' : Rv K H α .non x := h
  simpa only [Rv] using h'
theorem ox_int {K : PySem.W.Frag} {H : Hp} {α : List Addr} {σ : Sg} {i : Int} : Rx K H α σ (.int i) (.int i) := by
  show Rv K H α (.int i) _
  simp only [Rv]
theorem ox_bl {K : PySem.W.Frag} {H : Hp} {α : List Addr} {σ : Sg} {i : Bool} : Rx K H α σ (.bl i) (.bl i) := by
  show Rv K H α (.bl i) _
  simp only [Rv]
theorem ox_str {K : PySem.W.Frag} {H : Hp} {α : List Addr} {σ : Sg} {i : Str} : Rx K H α σ (.str i) (.str i) := by
  show Rv K H α (.str i) _
  simp only [Rv]
theorem ox_non {K : PySem.W.Frag} {H : Hp} {α : List Addr} {σ : Sg} : Rx K H α σ .non .non := by
  show Rv K H α .non _
  simp only [Rv]
theorem os_I {C : Int → Int → Prop} {c : Int → Int → Bool} {f : Int → Int → Int} (h : ∀ i j, c i j = true → C i j) : OpS X (rI C fun i j => .int (f i j)) (gI c fun i j => .int (f i j)) := fun H0 α0 σ H α s x y a b d Q r rx ry e q => by
  unfold gI at e
  split at e
  · rename_i i j
    split at e
    · rename_i hc
      cases e
      rw [rx_int rx, rx_int ry]
      exact ⟨i, j, rfl, rfl, h i j hc, .inl (q _ _ _ r (Stay.refl _ _) ox_int)⟩
    · cases e
  · cases e
theorem os_I0 {f : Int → Int → Int} : OpS X (rI0 fun i j => .int (f i j)) (gI (fun _ _ => true) fun i j => .int (f i j)) := fun H0 α0 σ H α s x y a b d Q r rx ry e q => by
  unfold gI at e
  split at e
  · rename_i i j
    simp only [if_true, Option.some.injEq] at e
    subst e
    rw [rx_int rx, rx_int ry]
    exact ⟨i, j, rfl, rfl, .inl (q _ _ _ r (Stay.refl _ _) ox_int)⟩
  · cases e
theorem os_B0 {f : Int → Int → Bool} : OpS X (rI0 fun i j => .bl (f i j)) (gI (fun _ _ => true) fun i j => .bl (f i j)) := fun H0 α0 σ H α s x y a b d Q r rx ry e q => by
  unfold gI at e
  split at e
  · rename_i i j
    simp only [if_true, Option.some.injEq] at e
    subst e
    rw [rx_int rx, rx_int ry]
    exact ⟨i, j, rfl, rfl, .inl (q _ _ _ r (Stay.refl _ _) ox_bl)⟩
  · cases e
/-! the sizes that the machine takes -/
def fdivOk (i j : Int) : Bool := j != 0 && !Builtin.divisionGoesByPylong i j
def powOk (i j : Int) : Bool := decide (0 ≤ j) && !Builtin.Int.intTooBig (((Builtin.Int.intBits i : Nat) : Int) * j)
def mulOk (i j : Int) : Bool := decide (i.natAbs.log2 + j.natAbs.log2 < 100000000)
theorem mulOk_ok {i j : Int} (h : mulOk i j = true) : IntMulOk i j := by
  have h := of_decide_eq_true h
  have b : ∀ x : Int, Builtin.Int.intBits x ≤ x.natAbs.log2 + 1 := fun x => by
    unfold Builtin.Int.intBits
    split <;> omega
  have h1 := b i
  have h2 := b j
  have e : bitsLine = 134217728 := by decide
  unfold IntMulOk
  intro z
  rw [Bool.and_eq_true] at z
  have z2 := z.2
  unfold Builtin.Int.intTooBig at z2
  have z3 := of_decide_eq_true z2
  rw [e] at z3
  omega
theorem op_fdivX : OpR X (binaryOp .FloorDiv) (rI (fun i j => fdivOk i j = true) fun i j => .int (i.fdiv j)) := opI fun i j _ _ _ _ _ hc q => by
  unfold fdivOk at hc
  rw [Bool.and_eq_true] at hc
  exact floordiv_int (by simpa using hc.1) q (.inl (by simpa using hc.2))
theorem op_mulY : OpR X (binaryOp .Mult) (rI (fun i j => mulOk i j = true) fun i j => .int (i * j)) := opI fun _ _ _ _ _ _ _ hc q => mul_int q (mulOk_ok hc)
theorem op_powX : OpR X (binaryOp .Pow) (rI (fun i j => powOk i j = true) fun i j => .int (i ^ j.toNat)) := opI fun i j _ _ s Q E hc q => by
  unfold powOk at hc
  rw [Bool.and_eq_true] at hc
  have h0 : 0 ≤ j := of_decide_eq_true hc.1
  have hb : Builtin.Int.intTooBig (((Builtin.Int.intBits i : Nat) : Int) * j) = false := by simpa using hc.2
  refine AutoIntOpsIf.pow ?_
  rw [if_pos h0]
  by_cases e0 : (j == 0) = true
  · rw [if_pos e0]
    have e : j = 0 := by simpa using e0
    subst e
    simpa [Made.post] using q
  · rw [if_neg e0]
    by_cases e1 : (i == 0 || i == 1) = true
    · rw [if_pos e1]
      have hj : j.toNat ≠ 0 := by
        have : j ≠ 0 := by simpa using e0
        omega
      have e : i ^ j.toNat = i := by
        rcases (by simpa using e1 : i = 0 ∨ i = 1) with rfl | rfl
        · exact Int.zero_pow hj
        · exact Int.one_pow
      rw [e] at q
      simpa [Made.post] using q
    · rw [if_neg e1]
      by_cases e2 : (i == -1) = true
      · rw [if_pos e2]
        have ei : i = -1 := by simpa using e2
        subst ei
        have e : (-1 : Int) ^ j.toNat = if (j % 2 == 0) = true then 1 else -1 := by
          have key : ∀ n : Nat, (-1 : Int) ^ n = if n % 2 = 0 then 1 else -1 := by
            intro n
            induction n with
            | zero => rfl
            | succ n ih =>
              rw [Int.pow_succ, ih]
              split <;> split <;> omega
          rw [key]
          by_cases hj : j % 2 = 0
          · rw [if_pos (by omega), if_pos (by simp [hj])]
          · rw [if_neg (by omega), if_neg (by simp [hj])]
        rw [e] at q
        simpa [Made.post] using q
      · rw [if_neg e2, if_neg (by rw [hb]; decide)]
        simpa [Made.post] using q
end
/-! ### 12. Texts, tuples, lists put together -/
def gAdd : S → D → D → Option D := fun s a b => match a, b with
  | .int i, .int j => some (.int (i + j))
  | .str x, .str y => if x.length + y.length ≤ 16777216 then some (.str (x ++ y)) else none
  | .tup x, .tup y => if x.length + y.length ≤ 16777216 then some (.tup (x ++ y)) else none
  | a, b => match asL s a, asL s b with
    | some x, some y => if x.length + y.length ≤ 16777216 then some (.lst (x ++ y)) else none
    | _, _ => none
def rCatS (K : PySem.W.Frag) : R2 := fun x y H Q => ∃ l b xs zs, x = .ref l ∧ y = .ref b ∧ SqL K H l xs ∧ SqL K H b zs ∧ xs.length + zs.length ≤ sizeLine ∧ ∀ p, H p = none → Q (.ref p) (upd H p (.lst (xs ++ zs)))
def rAddS : R2 := fun x y H Q => ∃ i j, x = .str i ∧ y = .str j ∧ i.length + j.length ≤ sizeLine ∧ Q (.str (i ++ j)) H
section
variable {X : Cx}
theorem op_catS : OpR X (binaryOp .Add) (rCatS X.K) := by
  intro pins s σ H x y v u Q I rx ry h
  obtain ⟨l, b, xs, zs, rfl, rfl, hH, hB, hz, q⟩ := h
  cases rx
  cases ry
  obtain ⟨its, r, hl, _⟩ := I.list hH
  obtain ⟨its2, r2, hl2, _⟩ := I.list hB
  obtain ⟨⟨cls, dd, data, sl⟩, ho, hc, n, hd⟩ := hl.isList
  obtain ⟨⟨cls2, dd2, data2, sl2⟩, ho2, hc2, n2, hd2⟩ := hl2.isList
  simp only at hc hd hc2 hd2
  subst hc hd hc2 hd2
  have e : its.toArray ++ its2.toArray = (its ++ its2).toArray := by simp
  have e1 := r.length
  have e2 := r2.length
  refine concat_meets ⟨_, ho, rfl⟩ ⟨_, ho2, rfl⟩ noFill_list_add seq_list_add PySem.F.slot_list_add PySem.F.entry_list_add (PySem.F.args_list_add_2 _ _) (list_addW l b its.toArray its2.toArray n n2 dd dd2 sl sl2 (by simp only [List.size_toArray]; omega)) ⟨ho, ho2, ?_⟩
  rw [e]
  exact ⟨.ref _, _, I.lnew (t' := s.toks) (r.append r2) (by rw [List.length_append]; omega), rfl, q _ I.fresh⟩
def rAdd4 (K : PySem.W.Frag) : R2 := fun x y H Q => rI0 (fun i j => .int (i + j)) x y H Q ∨ rAddS x y H Q ∨ rCatA K x y H Q ∨ rCatS K x y H Q
theorem op_add4 : OpR X (binaryOp .Add) (rAdd4 X.K) := op_add.or (OpR.or (r := rAddS) op_add_str (op_catA.or op_catS))
theorem Rvs.nil_iff {K : PySem.W.Frag} {H : Hp} {α : List Addr} {ds : List D} {vs : List V} (h : Rvs K H α ds vs) : vs = [] ↔ ds = [] := by
  have e := h.length
  constructor
  · intro q; rw [q] at e; exact List.eq_nil_of_length_eq_zero e.symm
  · intro q; rw [q] at e; exact List.eq_nil_of_length_eq_zero e
theorem os_add : OpS X (rAdd4 X.K) gAdd := fun H0 α0 σ H α s x y a b d Q r rx ry e q => by
  unfold gAdd at e
  split at e
  · cases e
    rw [rx_int rx, rx_int ry]
    exact .inl ⟨_, _, rfl, rfl, .inl (q _ _ _ r (Stay.refl _ _) ox_int)⟩
  · split at e
    · rename_i hz
      cases e
      rw [← sizeLine_eq] at hz
      rw [rx_str rx, rx_str ry]
      exact .inr (.inl ⟨_, _, rfl, rfl, hz, .inl (q _ _ _ r (Stay.refl _ _) ox_str)⟩)
    · cases e
  · split at e
    · rename_i u w hz
      cases e
      rw [← sizeLine_eq] at hz
      obtain ⟨p, vs, rfl, h1, r1⟩ := asT_ok rx
      obtain ⟨p2, vs2, rfl, h2, r2⟩ := asT_ok ry
      refine .inr (.inr (.inl ⟨p, p2, vs, vs2, rfl, rfl, h1, h2, by rw [r1.length, r2.length]; exact hz, fun e => ?_, fun _ e => ?_, fun n1 n2 l hl => ?_⟩))
      · have e' := r1.nil_iff.mp e
        subst e'
        exact .inl (q _ _ _ r (Stay.refl _ _) ry)
      · have e' := r2.nil_iff.mp e
        subst e'
        rw [List.append_nil] at q
        exact .inl (q _ _ _ r (Stay.refl _ _) rx)
      · exact .inl (new_tup r hl (r1.append r2) q)
    · cases e
  · split at e
    · rename_i u w e1 e2
      split at e
      · rename_i hz
        cases e
        rw [← sizeLine_eq] at hz
        obtain ⟨p, vs, rfl, h1, r1⟩ := asL_ok r rx e1
        obtain ⟨p2, vs2, rfl, h2, r2⟩ := asL_ok r ry e2
        exact .inr (.inr (.inr ⟨p, p2, vs, vs2, rfl, rfl, h1, h2, by rw [r1.length, r2.length]; exact hz, fun l hl => gh_list r hl (r1.append r2) q⟩))
      · cases e
    · cases e
theorem pd_add {a b : Expr} {pos : Pos} {fa fb : FE} (ha : PED X a fa) (hb : PED X b fb) : PED X (.BinOp a .Add b pos) (dOp gAdd fa fb) := pd_op op_add4 os_add ha hb
abbrev gSub := gI (fun _ _ => true) fun i j => .int (i - j)
abbrev gFdiv := gI fdivOk fun i j => .int (i.fdiv j)
abbrev gMod := gI (fun _ j => j != 0) fun i j => .int (i.fmod j)
abbrev gPow := gI powOk fun i j => .int (i ^ j.toNat)
theorem pd_sub {a b : Expr} {pos : Pos} {fa fb : FE} (ha : PED X a fa) (hb : PED X b fb) : PED X (.BinOp a .Sub b pos) (dOp gSub fa fb) := pd_op op_sub os_I0 ha hb
theorem pd_fdiv {a b : Expr} {pos : Pos} {fa fb : FE} (ha : PED X a fa) (hb : PED X b fb) : PED X (.BinOp a .FloorDiv b pos) (dOp gFdiv fa fb) := pd_op op_fdivX (os_I fun _ _ h => h) ha hb
theorem pd_mod {a b : Expr} {pos : Pos} {fa fb : FE} (ha : PED X a fa) (hb : PED X b fb) : PED X (.BinOp a .Mod b pos) (dOp gMod fa fb) := pd_op op_modN (os_I fun _ _ h => by simpa using h) ha hb
theorem pd_pow {a b : Expr} {pos : Pos} {fa fb : FE} (ha : PED X a fa) (hb : PED X b fb) : PED X (.BinOp a .Pow b pos) (dOp gPow fa fb) := pd_op op_powX (os_I fun _ _ h => h) ha hb
end
end DL

namespace DL
open PySem PySem.Spec PyProof.Rows L2
variable [DLX]
/-! ### 13. Data as the library has it -/
mutual
def toPy : D → Option PyData
  | .non => some .none
  | .bl b => some (.bool b)
  | .int i => some (.int i)
  | .str x => some (.str x)
  | .tup xs => (toPyL xs).map .tuple
  | .lst xs => (toPyL xs).map .list
  | .dct kvs => (toPyK kvs).map .dict
  | _ => none
def toPyL : List D → Option (List PyData)
  | [] => some []
  | x :: xs => match toPy x, toPyL xs with | some y, some ys => some (y :: ys) | _, _ => none
def toPyK : List (D × D) → Option (List (PyData × PyData))
  | [] => some []
  | (k, x) :: xs => match toPy k, toPy x, toPyK xs with | some q, some y, some ys => some ((q, y) :: ys) | _, _, _ => none
end
/-- through a slot or a shared cell -/
def toPyS (s : S) (d : D) : Option PyData := match d with
  | .own _ | .ref _ => (asL s d).bind fun xs => (toPyL xs).map .list
  | d => toPy d
section
variable {X : Cx} {pins : List (Addr × Obj)} {σ : Sg} {H : Hp} {α : List Addr} {s : Shared}
/-- no list within -/
def keyPy : Key → PyData | .inl i => .int i | .inr x => .str x
theorem readsAll_keys {h : Heap} : ∀ {ks : List Key} {us : List Value}, Paired (fun k u => keyIs k u = true) ks us → ReadsAll h us (ks.map keyPy) []
  | [], _, .nil => .nil
  | k :: ks, u :: us, .cons r t => by
    have q := readsAll_keys (h := h) t
    rcases keyIs_shape r with ⟨i, tk, rfl, rfl⟩ | ⟨x, tk, rfl, rfl⟩
    · exact .cons (.int i tk) q
    · exact .cons (.str x tk) q
theorem toPy_key {k : D} {q : Key} {p : PyData} (h : keyD k = some q) (e : toPy k = some p) : p = keyPy q := by
  cases k <;> simp only [keyD, Option.some.injEq, reduceCtorEq] at h
  · subst h; simp only [toPy, Option.some.injEq] at e; exact e.symm
  · subst h; simp only [toPy, Option.some.injEq] at e; exact e.symm
theorem pairs_keys {P : Program} {w : World} : ∀ {es : List DictEntry} {kvs : List (Key × Value)}, Pairs (mixKind P w) es kvs → Paired (fun k u => keyIs k u = true) (kvs.map (·.1)) (es.map (·.key)) ∧ es.map (·.val) = kvs.map (·.2)
  | [], _, .nil => ⟨.nil, rfl⟩
  | en :: es, _, .cons a b c => by
    obtain ⟨q1, q2⟩ := pairs_keys c
    refine ⟨.cons a q1, ?_⟩
    simp only [List.map_cons, q2, b]
mutual
def noL : D → Bool
  | .tup xs => noLs xs
  | .lst _ => false
  | .dct kvs => noLk kvs
  | _ => true
def noLs : List D → Bool
  | [] => true
  | x :: xs => noL x && noLs xs
def noLk : List (D × D) → Bool
  | [] => true
  | (_, x) :: xs => noL x && noLk xs
end
mutual
theorem reads_ok (I : Inv X pins σ H s) : ∀ (d : D) (v : V) (u : Value) (p : PyData), Rv X.K H α d v → RelV v u → toPy d = some p → ∃ as, Reads s.heap u p as ∧ (noL d = true → sysModules ∉ as)
  | .non, v, u, p, h, r, e => by
    simp only [Rv] at h
    subst h
    cases r
    simp only [toPy, Option.some.injEq] at e
    subst e
    exact ⟨_, .none, fun _ z => nomatch z⟩
  | .bl b, v, u, p, h, r, e => by
    simp only [Rv] at h
    subst h
    cases r
    simp only [toPy, Option.some.injEq] at e
    subst e
    exact ⟨_, .bool b, fun _ z => nomatch z⟩
  | .int i, v, u, p, h, r, e => by
    simp only [Rv] at h
    subst h
    obtain ⟨t, rfl⟩ := r
    simp only [toPy, Option.some.injEq] at e
    subst e
    exact ⟨_, .int i t, fun _ z => nomatch z⟩
  | .str i, v, u, p, h, r, e => by
    simp only [Rv] at h
    subst h
    obtain ⟨t, rfl⟩ := r
    simp only [toPy, Option.some.injEq] at e
    subst e
    exact ⟨_, .str i t, fun _ z => nomatch z⟩
  | .tup xs, v, u, p, h, r, e => by
    simp only [Rv] at h
    obtain ⟨a, vs, rfl, hs, rr⟩ := h
    cases r
    simp only [toPy, Option.map_eq_some_iff] at e
    obtain ⟨ps, e, rfl⟩ := e
    obtain ⟨its, rv, ⟨o, ho, hc, n, hd⟩, _⟩ := I.tuple hs
    obtain ⟨as, q, nl⟩ := readsL_ok I xs vs its ps rr rv e
    exact ⟨as, .tuple ho hc hd (by simpa using q), fun z => nl (by simpa only [noL] using z)⟩
  | .lst xs, v, u, p, h, r, e => by
    simp only [Rv] at h
    obtain ⟨a, vs, rfl, hs, rr⟩ := h
    cases r
    simp only [toPy, Option.map_eq_some_iff] at e
    obtain ⟨ps, e, rfl⟩ := e
    obtain ⟨its, rv, hl, _⟩ := I.list hs.sq
    obtain ⟨o, ho, hc, n, hd⟩ := hl.isList
    obtain ⟨as, q, nl⟩ := readsL_ok I xs vs its ps rr rv e
    exact ⟨_, .list ho hc hd (by simpa using q), fun z => by simp only [noL] at z; cases z⟩
  | .dct kvs, v, u, p, h, r, e => by
    simp only [Rv] at h
    obtain ⟨a, o, rfl, h⟩ := h
    cases r
    simp only [toPy, Option.map_eq_some_iff] at e
    obtain ⟨ps, e, rfl⟩ := e
    rcases h with ⟨kv, hf, rr⟩ | ⟨kv, _, hf, rr⟩
    · obtain ⟨ns, ho, hx, es, ep, vs, hdt, hsz, hkv, o2, es2, ho2, hx2, hd2, hk2, hp2, nd2⟩ := I.frzK hf
      rw [ho] at ho2
      cases ho2
      rw [hdt] at hd2
      cases hd2
      obtain ⟨pk, pe⟩ := pairs_keys hp2
      obtain ⟨bs, q1, q2, nl⟩ := readsK_ok I kvs kv vs ps rr hkv e
      refine ⟨_, .dict (as := []) (bs := bs) ho hx.1 hdt ?_ ?_, fun z hm => ?_⟩
      · rw [q1]
        exact readsAll_keys pk
      · rw [pe]
        exact q2
      · rcases List.mem_cons.mp hm with z1 | z1
        · rw [← z1] at ns
          simp at ns
        · exact nl (by simpa only [noL] using z) (by simpa using z1)
    · obtain ⟨hd, z0, ns, xs, pr, o2, es, ep, ho, hx, hdt, he, _⟩ := I.hok a _ hf
      rw [hd] at ho
      cases ho
      obtain ⟨as, bs, q1, q2, nl⟩ := readsT_ok I kvs kv xs ps rr pr e
      refine ⟨_, .dict hd hx.1 hdt (as := as) (bs := bs) ?_ ?_, fun z hm => ?_⟩
      · rw [he, List.map_map]
        exact q1
      · rw [he, List.map_map]
        exact q2
      · rcases List.mem_cons.mp hm with z1 | z1
        · rw [← z1] at ns
          simp at ns
        · exact nl (by simpa only [noL] using z) z1
  | .adr _, _, _, _, _, _, e => by simp only [toPy, reduceCtorEq] at e
  | .fn _, _, _, _, _, _, e => by simp only [toPy, reduceCtorEq] at e
  | .ty _, _, _, _, _, _, e => by simp only [toPy, reduceCtorEq] at e
  | .ref _, _, _, _, _, _, e => by simp only [toPy, reduceCtorEq] at e
  | .own _, _, _, _, _, _, e => by simp only [toPy, reduceCtorEq] at e
  | .obj _ _, _, _, _, _, _, e => by simp only [toPy, reduceCtorEq] at e
theorem readsL_ok (I : Inv X pins σ H s) : ∀ (ds : List D) (vs : List V) (us : List Value) (ps : List PyData), Rvs X.K H α ds vs → Vals vs us → toPyL ds = some ps → ∃ as, ReadsAll s.heap us ps as ∧ (noLs ds = true → sysModules ∉ as)
  | [], vs, us, ps, h, r, e => by
    simp only [Rvs] at h
    subst h
    cases r
    simp only [toPyL, Option.some.injEq] at e
    subst e
    exact ⟨_, .nil, fun _ z => nomatch z⟩
  | d :: ds, l, us, ps, h, r, e => by
    simp only [Rvs] at h
    obtain ⟨v, vs, rfl, h1, h2⟩ := h
    cases r with
    | cons r1 r2 =>
      simp only [toPyL] at e
      split at e
      · rename_i y ys e1 e2
        cases e
        obtain ⟨as, q1, n1⟩ := reads_ok I d v _ y h1 r1 e1
        obtain ⟨bs, q2, n2⟩ := readsL_ok I ds vs _ ys h2 r2 e2
        refine ⟨_, .cons q1 q2, fun z hm => ?_⟩
        simp only [noLs, Bool.and_eq_true] at z
        rcases List.mem_append.mp hm with z1 | z1
        · exact n1 z.1 z1
        · exact n2 z.2 z1
      · cases e
theorem readsK_ok (I : Inv X pins σ H s) : ∀ (ds : List (D × D)) (kv : List (Key × V)) (vs : List (Key × Value)) (ps : List (PyData × PyData)), Rkv X.K H α ds kv → KV kv vs → toPyK ds = some ps →
    ∃ bs, ps.map (·.1) = (vs.map (·.1)).map keyPy ∧ ReadsAll s.heap (vs.map (·.2)) (ps.map (·.2)) bs ∧ (noLk ds = true → sysModules ∉ bs)
  | [], kv, vs, ps, h, r, e => by
    simp only [Rkv] at h
    subst h
    cases r
    simp only [toPyK, Option.some.injEq] at e
    subst e
    exact ⟨[], rfl, .nil, fun _ z => nomatch z⟩
  | (k, d) :: ds, l, vs, ps, h, r, e => by
    simp only [Rkv] at h
    obtain ⟨q, v, kv, rfl, h0, h1, h2⟩ := h
    cases r with
    | cons r1 r2 =>
      rename_i kv2 vs2
      obtain ⟨k2, u2⟩ := kv2
      simp only [toPyK] at e
      split at e
      · rename_i y0 y ys e0 e1 e2
        cases e
        obtain ⟨as, q1, n1⟩ := reads_ok I d v _ y h1 r1.2 e1
        obtain ⟨bs, qb, q2, n2⟩ := readsK_ok I ds kv vs2 ys h2 r2 e2
        refine ⟨as ++ bs, ?_, .cons q1 q2, fun z hm => ?_⟩
        · simp only [List.map_cons, qb, toPy_key h0 e0]
          rw [show q = k2 from r1.1]
        · simp only [noLk, Bool.and_eq_true] at z
          rcases List.mem_append.mp hm with z1 | z1
          · exact n1 z.1 z1
          · exact n2 z.2 z1
      · cases e
theorem readsT_ok (I : Inv X pins σ H s) : ∀ (ds : List (D × D)) (kv : List (List Key × V)) (xs : List (List Key × Addr × Value)) (ps : List (PyData × PyData)), RkT X.K H α ds kv →
    Paired (fun (p : List Key × V) (q : List Key × Addr × Value) => p.1 = q.1 ∧ H q.2.1 = some (.tup (p.1.map kV)) ∧ RelV p.2 q.2.2) kv xs → toPyK ds = some ps →
    ∃ as bs, ReadsAll s.heap (xs.map ((·.key) ∘ entryOfKey (tupleKind (mixKind X.prog X.w)))) (ps.map (·.1)) as ∧ ReadsAll s.heap (xs.map ((·.val) ∘ entryOfKey (tupleKind (mixKind X.prog X.w)))) (ps.map (·.2)) bs ∧ (noLk ds = true → sysModules ∉ as ++ bs)
  | [], kv, vs, ps, h, r, e => by
    simp only [RkT] at h
    subst h
    cases r
    simp only [toPyK, Option.some.injEq] at e
    subst e
    exact ⟨[], [], .nil, .nil, fun _ z => nomatch z⟩
  | (k, d) :: ds, l, vs, ps, h, r, e => by
    simp only [RkT] at h
    obtain ⟨q, v, kv, rfl, h0, h1, h2⟩ := h
    cases r with
    | cons r1 r2 =>
      rename_i x xs
      obtain ⟨k2, a2, u2⟩ := x
      simp only [toPyK] at e
      split at e
      · rename_i y0 y ys e0 e1 e2
        cases e
        obtain ⟨as, q1, n1⟩ := reads_ok I d v _ y h1 r1.2.2 e1
        obtain ⟨as', bs, qa, qb, n2⟩ := readsT_ok I ds kv xs ys h2 r2 e2
        have kt : Reads s.heap (.ref a2) y0 [] := by
          have hq : H a2 = some (.tup (q.map kV)) := r1.2.1
          obtain ⟨_, its, rv, o, ho, hc, n, hd⟩ := I.hok a2 _ hq
          cases k <;> simp only [keyT, reduceCtorEq] at h0
          rename_i ks
          simp only [toPy, Option.map_eq_some_iff] at e0
          obtain ⟨ps0, e0, rfl⟩ := e0
          refine .tuple ho hc hd ?_
          simp only [List.toList_toArray]
          clear hd
          have gen : ∀ (ks : List D) (q : List Key) (its : List Value) (ps0 : List PyData), ks.mapM keyD = some q → Vals (q.map kV) its → toPyL ks = some ps0 → ReadsAll s.heap its ps0 [] := by
            intro ks
            induction ks with
            | nil =>
              intro q its ps0 h0 rv e0
              simp only [List.mapM_nil, Option.pure_def, Option.some.injEq] at h0
              subst h0
              cases rv
              simp only [toPyL, Option.some.injEq] at e0
              subst e0
              exact .nil
            | cons k ks ih =>
              intro q its ps0 h0 rv e0
              rw [List.mapM_cons] at h0
              cases hk : keyD k with
              | none => rw [hk] at h0; cases h0
              | some k1 =>
                rw [hk] at h0
                cases hks : ks.mapM keyD with
                | none => rw [hks] at h0; cases h0
                | some ks1 =>
                  rw [hks] at h0
                  cases h0
                  simp only [List.map_cons] at rv
                  cases rv with
                  | cons ra rb =>
                    simp only [toPyL] at e0
                    split at e0
                    · rename_i y ys e1 e2
                      cases e0
                      have ey := toPy_key hk e1
                      subst ey
                      have rest := ih ks1 _ ys hks rb e2
                      cases k1 with
                      | inl i =>
                        obtain ⟨t, rfl⟩ := ra
                        exact .cons (.int i t) rest
                      | inr x =>
                        obtain ⟨t, rfl⟩ := ra
                        exact .cons (.str x t) rest
                    · cases e0
          exact gen ks q its ps0 h0 rv e0
        refine ⟨_, _, .cons kt qa, .cons q1 qb, fun z hm => ?_⟩
        simp only [noLk, Bool.and_eq_true] at z
        rcases List.mem_append.mp hm with z1 | z1
        · exact n2 z.2 (List.mem_append_left _ (by simpa using z1))
        · rcases List.mem_append.mp z1 with z2 | z2
          · exact n1 z.1 z2
          · exact n2 z.2 (List.mem_append_right _ z2)
      · cases e
end
theorem rx_reads {H0 : Hp} {α0 : List Addr} {σ1 : Sg} {st : S} (I : Inv X pins σ H s) (rl : Rel X.K H0 α0 H α σ1 st) {d : D} {v : V} {u : Value} {p : PyData} (h : Rx X.K H α σ1 d v) (r : RelV v u) : toPyS st d = some p → ∃ as, Reads s.heap u p as := by
  have viaL : ∀ d, asL st d ≠ none → Rx X.K H α σ1 d v → ((asL st d).bind fun xs => (toPyL xs).map .list) = some p → ∃ as, Reads s.heap u p as := by
    intro d hn h e
    cases ea : asL st d with
    | none => exact absurd ea hn
    | some xs =>
      rw [ea] at e
      simp only [Option.bind_some, Option.map_eq_some_iff] at e
      obtain ⟨ps, e, rfl⟩ := e
      obtain ⟨a, vs, rfl, hs, rr⟩ := asL_ok rl h ea
      cases r
      obtain ⟨its, rv, hl, _⟩ := I.list hs
      obtain ⟨o, ho, hc, n, hd⟩ := hl.isList
      obtain ⟨as, q, _⟩ := readsL_ok I xs vs its ps rr rv e
      exact ⟨_, .list ho hc hd (by simpa using q)⟩
  intro e
  cases d
  case own i =>
    have e' : ((asL st (.own i)).bind fun xs => (toPyL xs).map .list) = some p := e
    exact viaL _ (fun z => by rw [z] at e'; cases e') h e'
  case ref i =>
    have e' : ((asL st (.ref i)).bind fun xs => (toPyL xs).map .list) = some p := e
    exact viaL _ (fun z => by rw [z] at e'; cases e') h e'
  all_goals
    obtain ⟨as, q, _⟩ := reads_ok I _ v u p h r e
    exact ⟨as, q⟩
end
end DL

namespace DL
open PySem PySem.Spec PyProof.Rows L2
variable [DLX]
/-! ### 14. Comparisons of data -/
def rDat (K : PySem.W.Frag) (g : PyData → PyData → Option Bool) : R2 := fun x y H Q => ∃ H0 α0 α σ st a b p q r, Rel K H0 α0 H α σ st ∧ Rx K H α σ a x ∧ Rx K H α σ b y ∧ toPyS st a = some p ∧ toPyS st b = some q ∧ g p q = some r ∧ Q (.bl r) H
def gDat (g : PyData → PyData → Option Bool) : S → D → D → Option D := fun s a b => match toPyS s a, toPyS s b with
  | some p, some q => (g p q).map .bl
  | _, _ => none
def eqG (p q : PyData) : Option Bool := if SeqAt.shaped p && SeqAt.shaped q then some (PyData.eqv p q) else none
def neG (p q : PyData) : Option Bool := if SeqAt.shaped p && SeqAt.shaped q then some (!PyData.eqv p q) else none
def inG (p q : PyData) : Option Bool := match q with
  | .list xs => if SeqAt.shaped p && SeqAt.shaped q then some (xs.any fun y => PyData.eqv y p) else none
  | .tuple xs => if SeqAt.shaped p && SeqAt.shaped q then some (xs.any fun y => PyData.eqv y p) else none
  | .str z => (match p with | .str x => some (!(Builtin.Str.occurrences z x 0 z.length 1).isEmpty) | _ => none)
  | _ => none
def niG (p q : PyData) : Option Bool := (inG p q).map not
def isN (_ : S) (a b : D) : Option D := match b with
  | .non => (match a with | .own _ => none | .non => some (.bl true) | _ => some (.bl false))
  | _ => none
def notN (_ : S) (a b : D) : Option D := match b with
  | .non => (match a with | .own _ => none | .non => some (.bl false) | _ => some (.bl true))
  | _ => none
section
variable {X : Cx}
theorem os_dat {g : PyData → PyData → Option Bool} : OpS X (rDat X.K g) (gDat g) := fun H0 α0 σ H α s x y a b d Q r rx ry e q => by
  unfold gDat at e
  split at e
  · rename_i p w e1 e2
    simp only [Option.map_eq_some_iff] at e
    obtain ⟨k, e3, rfl⟩ := e
    exact ⟨H0, α0, α, σ, s, a, b, p, w, k, r, rx, ry, e1, e2, e3, .inl (q _ _ _ r (Stay.refl _ _) ox_bl)⟩
  · cases e
theorem op_eqX (hu : X.A.units + 65 < cLine) : OpR X (compareOp .Eq) (rDat X.K eqG) := by
  intro pins s σ H x y v u Q I rx ry h
  obtain ⟨H0, α0, α, σ1, st, a, b, p, q, r, rl, ra, rb, ea, eb, eg, k⟩ := h
  obtain ⟨as, r1⟩ := rx_reads I rl ra rx ea
  obtain ⟨bs, r2⟩ := rx_reads I rl rb ry eb
  unfold eqG at eg
  split at eg
  · rename_i hs
    rw [Bool.and_eq_true] at hs
    cases eg
    exact SeqAt.compareEq_shaped r1 r2 hs.1 hs.2 (by omega) ⟨.bl _, H, I, rfl, k⟩
  · cases eg
theorem op_neX (hu : X.A.units + 65 < cLine) : OpR X (compareOp .NotEq) (rDat X.K neG) := by
  intro pins s σ H x y v u Q I rx ry h
  obtain ⟨H0, α0, α, σ1, st, a, b, p, q, r, rl, ra, rb, ea, eb, eg, k⟩ := h
  obtain ⟨as, r1⟩ := rx_reads I rl ra rx ea
  obtain ⟨bs, r2⟩ := rx_reads I rl rb ry eb
  unfold neG at eg
  split at eg
  · rename_i hs
    rw [Bool.and_eq_true] at hs
    cases eg
    exact SeqAt.compareNe_shaped r1 r2 hs.1 hs.2 (by omega) ⟨.bl _, H, I, rfl, k⟩
  · cases eg
theorem op_inX (hu : X.A.units + 65 < cLine) : OpR X (compareOp .In) (rDat X.K inG) := by
  intro pins s σ H x y v u Q I rx ry h
  obtain ⟨H0, α0, α, σ1, st, a, b, p, q, r, rl, ra, rb, ea, eb, eg, k⟩ := h
  obtain ⟨as, r1⟩ := rx_reads I rl ra rx ea
  obtain ⟨bs, r2⟩ := rx_reads I rl rb ry eb
  unfold inG at eg
  split at eg
  · split at eg
    · rename_i hs
      rw [Bool.and_eq_true] at hs
      cases eg
      exact SeqAt.in_list_reads r2 r1 (SeqAt.canLay_of_shaped hs.2) (SeqAt.canLay_of_shaped hs.1) (room_in_shaped hs.1 hu) ⟨.bl _, H, I, rfl, k⟩
    · cases eg
  · split at eg
    · rename_i hs
      rw [Bool.and_eq_true] at hs
      cases eg
      exact SeqAt.in_tuple_reads r2 r1 (SeqAt.canLay_of_shaped hs.2) (SeqAt.canLay_of_shaped hs.1) (room_in_shaped hs.1 hu) ⟨.bl _, H, I, rfl, k⟩
    · cases eg
  · split at eg
    · cases eg
      cases r1
      cases r2
      have sx : x = .str _ := RelV.inj rx ⟨_, rfl⟩
      have sy : y = .str _ := RelV.inj ry ⟨_, rfl⟩
      exact op_in_str pins s σ H x y _ _ Q I rx ry ⟨_, _, sx, sy, k⟩
    · cases eg
  · cases eg
theorem op_niX (hu : X.A.units + 65 < cLine) : OpR X (compareOp .NotIn) (rDat X.K niG) := by
  intro pins s σ H x y v u Q I rx ry h
  obtain ⟨H0, α0, α, σ1, st, a, b, p, q, r, rl, ra, rb, ea, eb, eg, k⟩ := h
  obtain ⟨as, r1⟩ := rx_reads I rl ra rx ea
  obtain ⟨bs, r2⟩ := rx_reads I rl rb ry eb
  unfold niG inG at eg
  simp only [Option.map_eq_some_iff] at eg
  obtain ⟨r', eg, rfl⟩ := eg
  split at eg
  · split at eg
    · rename_i hs
      rw [Bool.and_eq_true] at hs
      cases eg
      exact SeqAt.notIn_list_reads r2 r1 (SeqAt.canLay_of_shaped hs.2) (SeqAt.canLay_of_shaped hs.1) (room_in_shaped hs.1 hu) ⟨.bl _, H, I, rfl, k⟩
    · cases eg
  · split at eg
    · rename_i hs
      rw [Bool.and_eq_true] at hs
      cases eg
      exact SeqAt.notIn_tuple_reads r2 r1 (SeqAt.canLay_of_shaped hs.2) (SeqAt.canLay_of_shaped hs.1) (room_in_shaped hs.1 hu) ⟨.bl _, H, I, rfl, k⟩
    · cases eg
  · split at eg
    · cases eg
      cases r1
      cases r2
      have sx : x = .str _ := RelV.inj rx ⟨_, rfl⟩
      have sy : y = .str _ := RelV.inj ry ⟨_, rfl⟩
      exact op_notin_str pins s σ H x y _ _ Q I rx ry ⟨_, _, sx, sy, k⟩
    · cases eg
  · cases eg
theorem rv_ne_non {K : PySem.W.Frag} {H : Hp} {α : List Addr} {d : D} {v : V} (h : Rv K H α d v) (n : d ≠ .non) : v ≠ .non := by
  intro z
  subst z
  cases d <;> simp only [Rv, reduceCtorEq, false_and, and_false, exists_false, exists_const] at h
  exact n rfl
theorem os_isN : OpS X (fun x y H Q => y = .non ∧ Q (.bl (decide (x = .non))) H) isN := fun H0 α0 σ H α s x y a b d Q r rx ry e q => by
  unfold isN at e
  split at e
  · refine ⟨rx_non ry, .inl ?_⟩
    split at e
    · cases e
    · cases e
      rw [rx_non rx]
      exact q _ _ _ r (Stay.refl _ _) ox_bl
    · rename_i n1 n2
      cases e
      have h := rv_ne_non (rx.rv (fun i z => n1 i z)) n2
      rw [decide_eq_false h]
      exact q _ _ _ r (Stay.refl _ _) ox_bl
  · cases e
theorem os_notN : OpS X (fun x y H Q => y = .non ∧ Q (.bl (!decide (x = .non))) H) notN := fun H0 α0 σ H α s x y a b d Q r rx ry e q => by
  unfold notN at e
  split at e
  · refine ⟨rx_non ry, .inl ?_⟩
    split at e
    · cases e
    · cases e
      rw [rx_non rx]
      exact q _ _ _ r (Stay.refl _ _) ox_bl
    · rename_i n1 n2
      cases e
      have h := rv_ne_non (rx.rv (fun i z => n1 i z)) n2
      rw [decide_eq_false h]
      exact q _ _ _ r (Stay.refl _ _) ox_bl
  · cases e
end
/-- an operator's rule with what it does to data -/
structure Cmp (X : Cx) (op : CmpOp) (g : S → D → D → Option D) : Prop where
  ex : ∃ r, OpR X (compareOp op) r ∧ OpS X r g
section
variable {X : Cx} {hu : X.A.units + 65 < cLine}
abbrev gLt := gI (fun _ _ => true) fun i j => .bl (decide (i < j))
abbrev gLe := gI (fun _ _ => true) fun i j => .bl (decide (i ≤ j))
abbrev gGt := gI (fun _ _ => true) fun i j => .bl (decide (j < i))
abbrev gGe := gI (fun _ _ => true) fun i j => .bl (decide (j ≤ i))
theorem c_lt : Cmp X .Lt gLt := ⟨_, op_lt, os_B0⟩
theorem c_le : Cmp X .LtE gLe := ⟨_, op_le, os_B0⟩
theorem c_gt : Cmp X .Gt gGt := ⟨_, op_gt, os_B0⟩
theorem c_ge : Cmp X .GtE gGe := ⟨_, op_ge, os_B0⟩
theorem c_eq (hu : X.A.units + 65 < cLine) : Cmp X .Eq (gDat eqG) := ⟨_, op_eqX hu, os_dat⟩
theorem c_ne (hu : X.A.units + 65 < cLine) : Cmp X .NotEq (gDat neG) := ⟨_, op_neX hu, os_dat⟩
theorem c_in (hu : X.A.units + 65 < cLine) : Cmp X .In (gDat inG) := ⟨_, op_inX hu, os_dat⟩
theorem c_ni (hu : X.A.units + 65 < cLine) : Cmp X .NotIn (gDat niG) := ⟨_, op_niX hu, os_dat⟩
theorem c_is : Cmp X .Is isN := ⟨_, op_isN, os_isN⟩
theorem c_isnot : Cmp X .IsNot notN := ⟨_, op_notN, os_notN⟩
/-! ### 15. Tests -/
def truthD (s : S) (d : D) : Option Bool := match d with
  | .bl b => some b
  | .int i => some (i != 0)
  | .non => some false
  | .str x => if x.length ≤ 16777216 then some ((x.length : Int) != 0) else none
  | .tup xs => some (!xs.isEmpty)
  | d => (asL s d).map fun xs => !xs.isEmpty
def dTruth (fa : FE) : FT := fun s => (fa s).bind fun d s1 => match truthD s1 d with | some b => .ok b s1 | none => .bad
/-- a comparison, as a test -/
def dCmpT (g : S → D → D → Option D) (fa fb : FE) : FT := fun s => (fa s).bind fun a s1 => (fb s1).bind fun b s2 => match g s2 a b with | some (.bl k) => .ok k s2 | _ => .bad
theorem tru_of {K : PySem.W.Frag} {H0 H : Hp} {α0 α : List Addr} {σ : Sg} {s : S} {d : D} {v : V} {b : Bool} (r : Rel K H0 α0 H α σ s) (h : Rx K H α σ d v) (e : truthD s d = some b) : TruV K v H b := by
  have vl : ∀ d, (asL s d).map (fun xs => !xs.isEmpty) = some b → Rx K H α σ d v → TruV K v H b := by
    intro d e9 h9
    simp only [Option.map_eq_some_iff] at e9
    obtain ⟨xs, e8, e7⟩ := e9
    obtain ⟨a, vs, rfl, hs, rr⟩ := asL_ok r h9 e8
    subst e7
    refine .inl ⟨vs, hs, ?_⟩
    have hl := rr.length
    cases xs <;> cases vs <;> simp_all
  unfold truthD at e
  split at e
  · cases e; rw [rx_bl h]; rfl
  · cases e; rw [rx_int h]; rfl
  · cases e; rw [rx_non h]; rfl
  · split at e
    · rename_i hz
      rw [← sizeLine_eq] at hz
      cases e; rw [rx_str h]; exact ⟨hz, rfl⟩
    · cases e
  · cases e
    obtain ⟨a, vs, rfl, hs, rr⟩ := asT_ok h
    refine .inr (.inl ⟨vs, hs, ?_⟩)
    have hl := rr.length
    rename_i xs
    cases xs <;> cases vs <;> simp_all
  · exact vl _ e h
theorem PostT.mono {K : PySem.W.Frag} {H0 : Hp} {α0 : List Addr} {σ : Sg} {W : WX} {H H1 : Hp} {α α1 : List Addr} {Q : Bool → Hp → Prop} (t : Stay H α H1 α1) {x : Res Bool} (q : PostT K H0 α0 σ W H α Q x) : PostT K H0 α0 σ W H1 α1 Q x := by
  cases x with
  | ok d s' => exact fun H' α' r t' => q H' α' r (t.trans t')
  | exc e s' => exact q
  | bad => exact q
theorem pt_tr {a : Expr} {fa : FE} (ha : PED X a fa) (he : ∀ whole, isTrue a X.env whole = (do let v ← whole; standAt a.pos; holding [v] (truthy v)) := by intro _; rfl) : PTD X a (dTruth fa) := by
  refine ⟨fun W tk => ?_⟩
  obtain ⟨ta, pa, qa⟩ := ha.run W tk
  refine ⟨_, pt_truth pa he, fun H0 α0 σ H α s Q r q => qa H0 α0 σ H α s _ r ?_⟩
  unfold dTruth at q
  cases ea : fa s with
  | bad => rw [ea] at q; exact q.elim
  | exc e s1 => rw [ea] at q; exact q
  | ok d s1 =>
    rw [ea] at q
    simp only [Res.bind] at q
    intro v H1 α1 r1 t1 rv
    cases et : truthD s1 d with
    | none => rw [et] at q; exact q.elim
    | some b =>
      rw [et] at q
      exact ⟨b, tru_of r1 rv et, q H1 α1 r1 t1⟩
theorem pt_cm {op : CmpOp} {a b : Expr} {pos : Pos} {g : S → D → D → Option D} {fa fb : FE} (c : Cmp X op g) (ha : PED X a fa) (hb : PED X b fb) (hm : behindInMarks op b = false := by first | exact nomark _ | rfl) : PTD X (.Compare a [op] [b] pos) (dCmpT g fa fb) := by
  obtain ⟨r, ho, hs⟩ := c.ex
  refine ⟨fun W tk => ?_⟩
  obtain ⟨ta, pa, qa⟩ := ha.run W tk
  obtain ⟨tb, pb, qb⟩ := hb.run W tk
  refine ⟨_, pt_cmpR (opGh ho) pa pb hm, fun H0 α0 σ H α s Q rl q => ?_⟩
  unfold dCmpT at q
  refine qa H0 α0 σ H α s _ rl ?_
  cases ea : fa s with
  | bad => rw [ea] at q; exact q.elim
  | exc e s1 => rw [ea] at q; exact q
  | ok u s1 =>
    rw [ea] at q
    intro x H1 α1 r1 t1 rx
    refine qb H0 α0 σ H1 α1 s1 _ r1 ?_
    simp only [Res.bind] at q
    cases eb : fb s1 with
    | bad => rw [eb] at q; exact q.elim
    | exc e s2 => rw [eb] at q; exact q
    | ok w s2 =>
      rw [eb] at q
      intro y H2 α2 r2 t2 ry
      simp only at q
      split at q
      · rename_i k eg
        refine hs H0 α0 σ H2 α2 s2 x y u w _ _ r2 (rx.stay t2) ry eg fun v H' α' r' t' rv => ?_
        exact ⟨k, rx_bl rv, q H' α' r' ((t1.trans t2).trans t')⟩
      · exact q.elim
theorem pd_cm {op : CmpOp} {a b : Expr} {pos : Pos} {g : S → D → D → Option D} {fa fb : FE} (c : Cmp X op g) (ha : PED X a fa) (hb : PED X b fb) (hm : behindInMarks op b = false := by first | exact nomark _ | rfl) : PED X (.Compare a [op] [b] pos) (dOp g fa fb) := by
  obtain ⟨r, ho, hs⟩ := c.ex
  exact pd_cmp ho hs ha hb hm
def dNotT (fa : FT) : FT := fun s => (fa s).bind fun b s1 => .ok (!b) s1
theorem pt_nt {a : Expr} {pos : Pos} {fa : FT} (ha : PTD X a fa) : PTD X (.UnaryOp .Not a pos) (dNotT fa) := by
  refine ⟨fun W tk => ?_⟩
  obtain ⟨ta, pa, qa⟩ := ha.run W tk
  refine ⟨_, pt_not pa, fun H0 α0 σ H α s Q r q => qa H0 α0 σ H α s _ r ?_⟩
  unfold dNotT at q
  cases ea : fa s with
  | bad => rw [ea] at q; exact q.elim
  | exc e s1 => rw [ea] at q; exact q
  | ok d s1 =>
    rw [ea] at q
    exact fun H1 α1 r1 t1 => q H1 α1 r1 t1
/-- and, or: as a test; the rest is a test whatever its whole is -/
structure PWD (X : Cx) (e : Expr) (f : FT) : Prop where
  run : ∀ W, Takes X W → ∃ t, PW X e t ∧ ∀ H0 α0 σ H α s Q, Rel X.K H0 α0 H α σ s → PostT X.K H0 α0 σ W H α Q (f s) → t σ H Q
theorem PWD.pt {e : Expr} {f : FT} (h : PWD X e f) : PTD X e f := ⟨fun W tk => let ⟨t, p, q⟩ := h.run W tk; ⟨t, p.pt, q⟩⟩
def dAndT (fa fb : FT) : FT := fun s => (fa s).bind fun b s1 => if b then fb s1 else .ok false s1
def dOrT (fa fb : FT) : FT := fun s => (fa s).bind fun b s1 => if b then .ok true s1 else fb s1
variable {a b : Expr} {rest : List Expr} {pos : Pos}
theorem pw_a1 {fa : FT} (ha : PTD X a fa) : PWD X (.BoolOp .And [a] pos) fa := ⟨fun W tk => let ⟨t, p, q⟩ := ha.run W tk; ⟨t, pw_and1 p, q⟩⟩
theorem pw_o1 {fa : FT} (ha : PTD X a fa) : PWD X (.BoolOp .Or [a] pos) fa := ⟨fun W tk => let ⟨t, p, q⟩ := ha.run W tk; ⟨t, pw_or1 p, q⟩⟩
theorem pw_a {fa fb : FT} (ha : PTD X a fa) (hb : PWD X (.BoolOp .And (b :: rest) pos) fb) : PWD X (.BoolOp .And (a :: b :: rest) pos) (dAndT fa fb) := by
  refine ⟨fun W tk => ?_⟩
  obtain ⟨ta, pa, qa⟩ := ha.run W tk
  obtain ⟨tb, pb, qb⟩ := hb.run W tk
  refine ⟨_, pw_and pa pb, fun H0 α0 σ H α s Q r q => qa H0 α0 σ H α s _ r ?_⟩
  unfold dAndT at q
  cases ea : fa s with
  | bad => rw [ea] at q; exact q.elim
  | exc e s1 => rw [ea] at q; exact q
  | ok d s1 =>
    rw [ea] at q
    intro H1 α1 r1 t1
    simp only [Res.bind] at q
    cases d with
    | true => exact qb H0 α0 σ H1 α1 s1 Q r1 (PostT.mono t1 q)
    | false => exact q H1 α1 r1 t1
theorem pw_o {fa fb : FT} (ha : PTD X a fa) (hb : PWD X (.BoolOp .Or (b :: rest) pos) fb) : PWD X (.BoolOp .Or (a :: b :: rest) pos) (dOrT fa fb) := by
  refine ⟨fun W tk => ?_⟩
  obtain ⟨ta, pa, qa⟩ := ha.run W tk
  obtain ⟨tb, pb, qb⟩ := hb.run W tk
  refine ⟨_, pw_or pa pb, fun H0 α0 σ H α s Q r q => qa H0 α0 σ H α s _ r ?_⟩
  unfold dOrT at q
  cases ea : fa s with
  | bad => rw [ea] at q; exact q.elim
  | exc e s1 => rw [ea] at q; exact q
  | ok d s1 =>
    rw [ea] at q
    intro H1 α1 r1 t1
    simp only [Res.bind] at q
    cases d with
    | false => exact qb H0 α0 σ H1 α1 s1 Q r1 (PostT.mono t1 q)
    | true => exact q H1 α1 r1 t1
/-! as values -/
def dAndV (fa fb : FE) : FE := fun s => (fa s).bind fun d s1 => match truthD s1 d with | some true => fb s1 | some false => .ok d s1 | none => .bad
def dOrV (fa fb : FE) : FE := fun s => (fa s).bind fun d s1 => match truthD s1 d with | some true => .ok d s1 | some false => fb s1 | none => .bad
def dNotV (fa : FE) : FE := fun s => (fa s).bind fun d s1 => match truthD s1 d with | some b => .ok (.bl (!b)) s1 | none => .bad
theorem pd_one {op} {fa : FE} (h : PED X a fa) : PED X (.BoolOp op [a] pos) fa := ⟨fun W tk => let ⟨t, p, q⟩ := h.run W tk; ⟨t, pe_one p, q⟩⟩
theorem pd_and {fa fb : FE} (ha : PED X a fa) (hb : PED X (.BoolOp .And (b :: rest) pos) fb) : PED X (.BoolOp .And (a :: b :: rest) pos) (dAndV fa fb) := by
  refine ⟨fun W tk => ?_⟩
  obtain ⟨ta, pa, qa⟩ := ha.run W tk
  obtain ⟨tb, pb, qb⟩ := hb.run W tk
  refine ⟨_, pe_andT pa pb, fun H0 α0 σ H α s Q r q => qa H0 α0 σ H α s _ r ?_⟩
  unfold dAndV at q
  cases ea : fa s with
  | bad => rw [ea] at q; exact q.elim
  | exc e s1 => rw [ea] at q; exact q
  | ok d s1 =>
    rw [ea] at q
    intro v H1 α1 r1 t1 rv
    simp only [Res.bind] at q
    cases et : truthD s1 d with
    | none => rw [et] at q; exact q.elim
    | some k =>
      rw [et] at q
      refine ⟨k, tru_of r1 rv et, ?_⟩
      cases k with
      | true => rw [if_pos rfl]; exact qb H0 α0 σ H1 α1 s1 Q r1 (PostE.mono t1 q)
      | false => rw [if_neg (by decide)]; exact q v H1 α1 r1 t1 rv
theorem pd_or {fa fb : FE} (ha : PED X a fa) (hb : PED X (.BoolOp .Or (b :: rest) pos) fb) : PED X (.BoolOp .Or (a :: b :: rest) pos) (dOrV fa fb) := by
  refine ⟨fun W tk => ?_⟩
  obtain ⟨ta, pa, qa⟩ := ha.run W tk
  obtain ⟨tb, pb, qb⟩ := hb.run W tk
  refine ⟨_, pe_orT pa pb, fun H0 α0 σ H α s Q r q => qa H0 α0 σ H α s _ r ?_⟩
  unfold dOrV at q
  cases ea : fa s with
  | bad => rw [ea] at q; exact q.elim
  | exc e s1 => rw [ea] at q; exact q
  | ok d s1 =>
    rw [ea] at q
    intro v H1 α1 r1 t1 rv
    simp only [Res.bind] at q
    cases et : truthD s1 d with
    | none => rw [et] at q; exact q.elim
    | some k =>
      rw [et] at q
      refine ⟨k, tru_of r1 rv et, ?_⟩
      cases k with
      | true => rw [if_pos rfl]; exact q v H1 α1 r1 t1 rv
      | false => rw [if_neg (by decide)]; exact qb H0 α0 σ H1 α1 s1 Q r1 (PostE.mono t1 q)
theorem pd_not {fa : FE} (ha : PED X a fa) : PED X (.UnaryOp .Not a pos) (dNotV fa) := by
  refine ⟨fun W tk => ?_⟩
  obtain ⟨ta, pa, qa⟩ := ha.run W tk
  refine ⟨_, pe_notT pa, fun H0 α0 σ H α s Q r q => qa H0 α0 σ H α s _ r ?_⟩
  unfold dNotV at q
  cases ea : fa s with
  | bad => rw [ea] at q; exact q.elim
  | exc e s1 => rw [ea] at q; exact q
  | ok d s1 =>
    rw [ea] at q
    intro v H1 α1 r1 t1 rv
    simp only [Res.bind] at q
    cases et : truthD s1 d with
    | none => rw [et] at q; exact q.elim
    | some k =>
      rw [et] at q
      exact ⟨k, tru_of r1 rv et, q _ H1 α1 r1 t1 ox_bl⟩
/-- a if t else b -/
def dIf (ft : FT) (fa fb : FE) : FE := fun s => (ft s).bind fun b s1 => if b then fa s1 else fb s1
theorem pd_if {c : Expr} {ft : FT} {fa fb : FE} (hc : PTD X c ft) (ha : PED X a fa) (hb : PED X b fb) : PED X (.IfExp c a b pos) (dIf ft fa fb) := by
  refine ⟨fun W tk => ?_⟩
  obtain ⟨tc, pc, qc⟩ := hc.run W tk
  obtain ⟨ta, pa, qa⟩ := ha.run W tk
  obtain ⟨tb, pb, qb⟩ := hb.run W tk
  refine ⟨_, pe_ifExp pc pa pb, fun H0 α0 σ H α s Q r q => qc H0 α0 σ H α s _ r ?_⟩
  unfold dIf at q
  cases ec : ft s with
  | bad => rw [ec] at q; exact q.elim
  | exc e s1 => rw [ec] at q; exact q
  | ok k s1 =>
    rw [ec] at q
    intro H1 α1 r1 t1
    simp only [Res.bind] at q
    cases k with
    | true => rw [if_pos rfl]; exact qa H0 α0 σ H1 α1 s1 Q r1 (PostE.mono t1 q)
    | false => rw [if_neg (by decide)]; exact qb H0 α0 σ H1 α1 s1 Q r1 (PostE.mono t1 q)
end
end DL

namespace DL
open PySem PySem.Spec PyProof.Rows L2
variable [DLX]
/-! ### 16. Arguments, displays -/
def noOwn : D → Bool | .own _ => false | _ => true
def dNil : FA := fun s => .ok [] s
def dCons (fa : FE) (fr : FA) : FA := fun s => (fa s).bind fun d s1 => (fr s1).bind fun ds s2 => .ok (d :: ds) s2
section
variable {X : Cx}
theorem PostA.mono {K : PySem.W.Frag} {H0 : Hp} {α0 : List Addr} {σ : Sg} {W : WX} {H H1 : Hp} {α α1 : List Addr} {Q : List V → Hp → Prop} (t : Stay H α H1 α1) {x : Res (List D)} (q : PostA K H0 α0 σ W H α Q x) : PostA K H0 α0 σ W H1 α1 Q x := by
  cases x with
  | ok d s' => exact fun v H' α' r t' rx => q v H' α' r (t.trans t') rx
  | exc e s' => exact q
  | bad => exact q
theorem Rxs.stay {K : PySem.W.Frag} {H H' : Hp} {α α' : List Addr} {σ : Sg} (t : Stay H α H' α') {ds : List D} {vs : List V} (h : Rxs K H α σ ds vs) : Rxs K H' α' σ ds vs := Paired.mapP h fun _ _ q => q.stay t
theorem Rxs.rvs {K : PySem.W.Frag} {H : Hp} {α : List Addr} {σ : Sg} : ∀ {ds : List D} {vs : List V}, Rxs K H α σ ds vs → ds.all noOwn = true → Rvs K H α ds vs
  | [], _, .nil, _ => Rvs.nil
  | d :: ds, _, .cons a b, n => by
    rw [List.all_cons, Bool.and_eq_true] at n
    exact Rvs.cons (a.rv fun i z => by rw [z] at n; simp [noOwn] at n) (Rxs.rvs b n.2)
theorem Rxs.of {K : PySem.W.Frag} {H : Hp} {α : List Addr} {σ : Sg} : ∀ {ds : List D} {vs : List V}, Rvs K H α ds vs → Rxs K H α σ ds vs
  | [], _, h => by simp only [Rvs] at h; subst h; exact .nil
  | d :: ds, _, h => by
    simp only [Rvs] at h
    obtain ⟨v, r, rfl, h1, h2⟩ := h
    exact .cons (Rv.x h1) (Rxs.of h2)
theorem pa_n : PAD X [] dNil := ⟨fun W _ => ⟨_, pa_nil, fun H0 α0 σ H α s Q r q => q [] H α r (Stay.refl _ _) .nil⟩⟩
theorem pa_c {e : Expr} {es : List Expr} {fa : FE} {fr : FA} (ha : PED X e fa) (hr : PAD X es fr) (hs : starEach (e :: es) X.env = (false, eval e X.env) :: starEach es X.env := by rfl) : PAD X (e :: es) (dCons fa fr) := by
  refine ⟨fun W tk => ?_⟩
  obtain ⟨ta, pa, qa⟩ := ha.run W tk
  obtain ⟨tr, pr, qr⟩ := hr.run W tk
  refine ⟨_, pa_cons pa pr hs, fun H0 α0 σ H α s Q r q => qa H0 α0 σ H α s _ r ?_⟩
  unfold dCons at q
  cases ea : fa s with
  | bad => rw [ea] at q; exact q.elim
  | exc e s1 => rw [ea] at q; exact q
  | ok d s1 =>
    rw [ea] at q
    intro x H1 α1 r1 t1 rx
    simp only [Res.bind] at q
    refine qr H0 α0 σ H1 α1 s1 _ r1 ?_
    cases er : fr s1 with
    | bad => rw [er] at q; exact q.elim
    | exc e s2 => rw [er] at q; exact q
    | ok ds s2 =>
      rw [er] at q
      exact fun xs H2 α2 r2 t2 rxs => q (x :: xs) H2 α2 r2 (t1.trans t2) (.cons (rx.stay t2) rxs)
def dTup (fa : FA) : FE := fun s => (fa s).bind fun ds s1 => if ds.all noOwn && decide (ds.length ≤ 16777216) then .ok (.tup ds) s1 else .bad
theorem pd_tup {es : List Expr} {x1} {pos : Pos} {fa : FA} (ha : PAD X es fa) : PED X (.Tuple es x1 pos) (dTup fa) := by
  refine ⟨fun W tk => ?_⟩
  obtain ⟨ta, pa, qa⟩ := ha.run W tk
  refine ⟨_, pe_tup pa, fun H0 α0 σ H α s Q r q => qa H0 α0 σ H α s _ r ?_⟩
  unfold dTup at q
  cases ea : fa s with
  | bad => rw [ea] at q; exact q.elim
  | exc e s1 => rw [ea] at q; exact q
  | ok ds s1 =>
    rw [ea] at q
    intro xs H1 α1 r1 t1 rx
    simp only [Res.bind] at q
    split at q
    · rename_i hc
      rw [Bool.and_eq_true] at hc
      have rr := rx.rvs hc.1
      refine ⟨by rw [rr.length, sizeLine_eq]; exact of_decide_eq_true hc.2, fun p hp => ?_⟩
      exact new_tup r1 hp rr fun v H' α' r' t' rv => q v H' α' r' (t1.trans t') rv
    · exact q.elim
/-- a display of a list: a fresh one -/
def dLst (fa : FA) : FC := fun s => (fa s).bind fun ds s1 => if ds.all noOwn && decide (ds.length ≤ 16777216) then .ok (.lst ds) s1 else .bad
theorem new_lst {K : PySem.W.Frag} {H0 H : Hp} {α0 α : List Addr} {σ : Sg} {s : S} {p : Addr} {xs : List D} {vs : List V} {Q : VK} (r : Rel K H0 α0 H α σ s) (h : H p = none) (rr : Rvs K H α xs vs)
    (q : ∀ a H' α', Rel K H0 α0 H' α' σ s → Stay H α H' α' → RF K H0 H' α' σ s a (.lst xs) → Q (.ref a) H') : Q (.ref p) (upd H p (.lst vs)) := by
  have t : Stay H α (upd H p (.lst vs)) α := Stay.upd_new h
  refine q p _ α (r.new h) t ⟨⟨vs, upd_same, Rvs.stay t _ _ rr⟩, r.nota h, r.free0 h, fun i c' h1 h2 => ?_⟩
  obtain ⟨a, e1, _, _, e2⟩ := r.slots.own i c' h1
  rw [h2] at e1
  cases e1
  obtain ⟨o, e3⟩ := e2.some
  rw [h] at e3
  cases e3
theorem pf_lst {es : List Expr} {pos : Pos} {fa : FA} (ha : PAD X es fa) : PFD X (.List es pos) (dLst fa) := by
  refine ⟨fun W tk => ?_⟩
  obtain ⟨ta, pa, qa⟩ := ha.run W tk
  refine ⟨_, pe_lst pa, fun H0 α0 σ H α s Q r q => qa H0 α0 σ H α s _ r ?_⟩
  unfold dLst at q
  cases ea : fa s with
  | bad => rw [ea] at q; exact q.elim
  | exc e s1 => rw [ea] at q; exact q
  | ok ds s1 =>
    rw [ea] at q
    intro xs H1 α1 r1 t1 rx
    simp only [Res.bind] at q
    split at q
    · rename_i hc
      rw [Bool.and_eq_true] at hc
      have rr := rx.rvs hc.1
      refine ⟨by rw [rr.length, sizeLine_eq]; exact of_decide_eq_true hc.2, fun p hp => ?_⟩
      exact new_lst r1 hp rr fun v H' α' r' t' rv => q v H' α' r' (t1.trans t') rv
    · exact q.elim
/-- a fresh thing that is locked at once -/
def dFrz (f : FC) : FE := fun s => (f s).bind fun c s1 => match c with | .dead => .bad | .tab _ => .bad | c => .ok c.toD s1
theorem pd_f {e : Expr} {f : FC} (h : PFD X e f) : PED X e (dFrz f) := by
  refine ⟨fun W tk => ?_⟩
  obtain ⟨t, pe, qe⟩ := h.run W tk
  refine ⟨_, peGh pe, fun H0 α0 σ H α s Q r q => qe H0 α0 σ H α s _ r ?_⟩
  unfold dFrz at q
  cases ea : f s with
  | bad => rw [ea] at q; exact q.elim
  | exc e s1 => rw [ea] at q; exact q
  | ok c s1 =>
    rw [ea] at q
    intro a H1 α1 r1 t1 ⟨hc, na, n0, no⟩
    -- the step: H1 with a locked
    have stp : ∀ u o, H1 a = some u → ¬ Fixed u → Stay H1 α1 (upd H1 a (.frz o u)) α1 ∧ Rel X.K H0 α0 (upd H1 a (.frz o u)) α1 σ s1 := fun u o hu nf => by
      have t : Stay H1 α1 (upd H1 a (.frz o u)) α1 := ⟨fun b w hb fb => by
        by_cases e : b = a
        · subst e; rw [hu] at hb; cases hb; exact absurd fb nf
        · rw [upd_ne e]; exact hb, List.prefix_rfl, fun b hb => by
        by_cases e : b = a
        · subst e; rw [upd_same] at hb; cases hb
        · rw [upd_ne e] at hb; exact hb⟩
      refine ⟨t, r1.step t (fun b w hb _ hw => ?_) (fun b w hb _ hb1 => ?_)⟩
      · have e : b ≠ a := fun z => by
          subst z
          rcases hw with z | ⟨i, c', z1, z2⟩
          · exact na z
          · exact no i c' z1 z2
        rw [upd_ne e]; exact hb
      · have e : b ≠ a := fun z => by subst z; rw [n0] at hb; cases hb
        rw [upd_ne e]; exact hb1
    cases c with
    | dead => exact q.elim
    | tab n => exact q.elim
    | lst xs =>
      obtain ⟨vs, hv, rr⟩ := hc
      refine .inr ⟨a, .lst vs, hv, trivial, fun o => ?_⟩
      obtain ⟨t, rl⟩ := stp _ o hv (fun z => z)
      refine q _ _ α1 rl (t1.trans t) (Rv.x (d := .lst xs) ?_)
      simp only [Rv]
      exact ⟨a, vs, rfl, .inl ⟨o, upd_same⟩, Rvs.stay t _ _ rr⟩
    | dct kvs =>
      rcases hc with ⟨kv, hv, rr⟩ | ⟨kv, nn, hv, rr⟩
      · refine .inr ⟨a, .dK kv, hv, trivial, fun o => ?_⟩
        obtain ⟨t, rl⟩ := stp _ o hv (fun z => z)
        refine q _ _ α1 rl (t1.trans t) (Rv.x (d := .dct kvs) ?_)
        simp only [Rv]
        exact ⟨a, o, rfl, .inl ⟨kv, upd_same, Rkv.stay t _ _ rr⟩⟩
      · refine .inr ⟨a, .dT kv, hv, trivial, fun o => ?_⟩
        obtain ⟨t, rl⟩ := stp _ o hv (fun z => z)
        refine q _ _ α1 rl (t1.trans t) (Rv.x (d := .dct kvs) ?_)
        simp only [Rv]
        exact ⟨a, o, rfl, .inr ⟨kv, nn, upd_same, RkT.stay t _ _ rr⟩⟩
    | ins C fs =>
      obtain ⟨dx, vs, hv, rr⟩ := hc
      refine .inr ⟨a, .ins C dx vs, hv, trivial, fun o => ?_⟩
      obtain ⟨t, rl⟩ := stp _ o hv (fun z => z)
      refine q _ _ α1 rl (t1.trans t) (Rv.x (d := .obj C fs) ?_)
      simp only [Rv]
      exact ⟨a, o, dx, vs, rfl, upd_same, Rfs.stay t _ _ rr⟩
end
/-! ### 17. Subscripts, slices -/
def strI (z : Str) (i : Int) : Option D := if z.length ≤ 16777216 then (atI z.cps.toList i).map fun c => .str ⟨#[c]⟩ else none
def gIx : S → D → D → Option D := fun s a b => match b with
  | .int i => (match a with
    | .tup xs => atI xs i
    | .str z => strI z i
    | a => (asL s a).bind fun xs => atI xs i)
  | _ => none
section
variable {X : Cx}
theorem ixGh {r : R2} (h : IxR X r) : IxR X (fun x y H Q => r x y H fun v H1 => Gh H1 (Q v)) :=
  fun value slice pins s σ H x y v u Q I rx ry q hs => thn (h value slice pins s σ H x y v u _ I rx ry q hs) fun _ _ e => EP.gh e
theorem Rvs.atI {K : PySem.W.Frag} {H : Hp} {α : List Addr} {ds : List D} {vs : List V} {i : Int} {d : D} (h : Rvs K H α ds vs) (e : atI ds i = some d) : ∃ v, L2.atI vs i = some v ∧ Rv K H α d v := by
  unfold L2.atI at e ⊢
  rw [h.length]
  cases ej : ixN ds.length i with
  | none => rw [ej] at e; cases e
  | some j =>
    rw [ej] at e
    simp only [Option.bind_some] at e ⊢
    exact h.at_ e
theorem os_ix : OpS X (rIx X.K) gIx := fun H0 α0 σ H α s x y a b d Q r rx ry e q => by
  unfold gIx at e
  split at e
  · rename_i i
    rw [rx_int ry]
    split at e
    · obtain ⟨p, vs, rfl, h1, r1⟩ := asT_ok rx
      obtain ⟨v, ev, rv⟩ := r1.atI e
      exact .inr (.inl ⟨p, vs, i, v, rfl, rfl, h1, ev, .inl (q _ _ _ r (Stay.refl _ _) (Rv.x rv))⟩)
    · unfold strI at e
      split at e
      · rename_i hz
        rw [← sizeLine_eq] at hz
        simp only [Option.map_eq_some_iff] at e
        obtain ⟨c, ec, rfl⟩ := e
        rw [rx_str rx]
        exact .inr (.inr ⟨_, i, c, rfl, rfl, hz, ec, .inl (q _ _ _ r (Stay.refl _ _) ox_str)⟩)
      · cases e
    · cases ea : asL s a with
      | none => rw [ea] at e; cases e
      | some xs =>
        rw [ea] at e
        simp only [Option.bind_some] at e
        obtain ⟨p, vs, rfl, h1, r1⟩ := asL_ok r rx ea
        obtain ⟨v, ev, rv⟩ := r1.atI e
        exact .inl ⟨p, vs, i, v, rfl, rfl, h1, ev, .inl (q _ _ _ r (Stay.refl _ _) (Rv.x rv))⟩
  · cases e
theorem pd_ix {a b : Expr} {pos : Pos} {fa fb : FE} (ha : PED X a fa) (hb : PED X b fb) (hs : PlainIx b := by exact fun _ _ => rfl) : PED X (.Subscript a b pos) (dOp gIx fa fb) :=
  pd_opG (fun _ _ pa pb => pe_ix (ixGh ix_seq) pa pb hs) os_ix ha hb
/-- a part of a slice -/
abbrev FO := S → Res (Option Int)
def dNo : FO := fun s => .ok none s
def dPart (f : FE) : FO := fun s => (f s).bind fun d s1 => match d with | .int i => .ok (some i) s1 | _ => .bad
structure POD (X : Cx) (e : Option Expr) (f : FO) : Prop where
  run : ∀ W, Takes X W → ∃ t, PO X e t ∧ ∀ H0 α0 σ H α s (Q : Option Int → Hp → Prop), Rel X.K H0 α0 H α σ s → (match f s with
    | .ok o s' => ∀ H' α', Rel X.K H0 α0 H' α' σ s' → Stay H α H' α' → Q o H'
    | .exc e s' => ∀ cls dd H' α', Rel X.K H0 α0 H' α' σ s' → ExR X.K H' α' e cls dd → W cls dd σ H'
    | .bad => False) → t σ H Q
theorem po_n : POD X none dNo := ⟨fun W _ => ⟨_, po_none, fun H0 α0 σ H α s Q r q => q H α r (Stay.refl _ _)⟩⟩
theorem po_s {e : Expr} {f : FE} (h : PED X e f) : POD X (some e) (dPart f) := by
  refine ⟨fun W tk => ?_⟩
  obtain ⟨t, pe, qe⟩ := h.run W tk
  refine ⟨_, po_some pe, fun H0 α0 σ H α s Q r q => qe H0 α0 σ H α s _ r ?_⟩
  unfold dPart at q
  cases ea : f s with
  | bad => rw [ea] at q; exact q.elim
  | exc e s1 => rw [ea] at q; exact q
  | ok d s1 =>
    rw [ea] at q
    intro v H1 α1 r1 t1 rv
    cases d <;> simp only [Res.bind] at q <;> try exact q.elim
    exact ⟨_, rx_int rv, q H1 α1 r1 t1⟩
def cutD (xs : List D) (lo hi : Option Int) : List D := (xs.drop (HT.sIx xs.length 0 lo)).take (HT.sIx xs.length xs.length hi - HT.sIx xs.length 0 lo)
theorem Rvs.cut {K : PySem.W.Frag} {H : Hp} {α : List Addr} {ds : List D} {vs : List V} (h : Rvs K H α ds vs) (lo hi : Option Int) : Rvs K H α (cutD ds lo hi) (cutV vs lo hi) := by
  unfold cutD cutV
  rw [h.length]
  exact (h.drop _).take _
/-- a[lo:hi] of a tuple or a list -/
def dSl (fa : FE) (fl fh : FO) : FE := fun s => (fa s).bind fun a s1 => (fl s1).bind fun l s2 => (fh s2).bind fun h s3 => match a with
  | .tup xs => .ok (.tup (cutD xs l h)) s3
  | a => (match asL s3 a with | some xs => .ok (.lst (cutD xs l h)) s3 | none => .bad)
theorem slGh {r : V → Option Int → Option Int → Hp → VK → Prop} (h : SlR X r) : SlR X (fun x lo hi H Q => r x lo hi H fun v H1 => Gh H1 (Q v)) :=
  fun pins s σ H x v vl vu lo hi sl Q I rx hs pl pu q => by
    obtain ⟨T, id, e, ty, g⟩ := h pins s σ H x v vl vu lo hi sl _ I rx hs pl pu q
    exact ⟨T, id, e, ty, thn g fun _ _ e => EP.gh e⟩
theorem cutD_whole {xs : List D} {lo hi : Option Int} (h : HT.sIx xs.length 0 lo = 0 ∧ HT.sIx xs.length xs.length hi = xs.length) : cutD xs lo hi = xs := by
  unfold cutD
  rw [h.1, h.2, List.drop_zero, Nat.sub_zero, List.take_length]
theorem pd_sl {e : Expr} {lo hi : Option Expr} {p2 pos : Pos} {fa : FE} {fl fh : FO} (ha : PED X e fa) (hl : POD X lo fl) (hh : POD X hi fh) : PED X (.Subscript e (.Slice lo hi none p2) pos) (dSl fa fl fh) := by
  refine ⟨fun W tk => ?_⟩
  obtain ⟨ta, pa, qa⟩ := ha.run W tk
  obtain ⟨tl, pl, ql⟩ := hl.run W tk
  obtain ⟨th, ph, qh⟩ := hh.run W tk
  refine ⟨_, pe_slice (slGh (sl_tupA.or sl_list)) pa pl ph, fun H0 α0 σ H α s Q r q => qa H0 α0 σ H α s _ r ?_⟩
  unfold dSl at q
  cases ea : fa s with
  | bad => rw [ea] at q; exact q.elim
  | exc e s1 => rw [ea] at q; exact q
  | ok d s1 =>
    rw [ea] at q
    intro x H1 α1 r1 t1 rx
    refine ql H0 α0 σ H1 α1 s1 _ r1 ?_
    simp only [Res.bind] at q
    cases el : fl s1 with
    | bad => rw [el] at q; exact q.elim
    | exc e s2 => rw [el] at q; exact q
    | ok l s2 =>
      rw [el] at q
      intro H2 α2 r2 t2
      refine qh H0 α0 σ H2 α2 s2 _ r2 ?_
      simp only at q
      cases eh : fh s2 with
      | bad => rw [eh] at q; exact q.elim
      | exc e s3 => rw [eh] at q; exact q
      | ok h s3 =>
        rw [eh] at q
        intro H3 α3 r3 t3
        have rx3 := rx.stay (t2.trans t3)
        have t13 := t1.trans (t2.trans t3)
        simp only at q
        split at q
        · obtain ⟨p, vs, rfl, h1, rr⟩ := asT_ok rx3
          refine .inl ⟨p, vs, rfl, h1, fun hw => ?_, fun _ p2 hp => ?_⟩
          · rw [rr.length] at hw
            rw [cutD_whole hw] at q
            exact .inl (q _ H3 α3 r3 t13 rx3)
          · exact .inl (new_tup r3 hp (rr.cut l h) fun v H' α' r' t' rv => q v H' α' r' (t13.trans t') rv)
        · split at q
          · rename_i xs eL
            obtain ⟨p, vs, rfl, h1, rr⟩ := asL_ok r3 rx3 eL
            exact .inr ⟨p, vs, rfl, h1, fun p2 hp => gh_list r3 hp (rr.cut l h) fun v H' α' r' t' rv => q v H' α' r' (t13.trans t') rv⟩
          · exact q.elim
end
end DL

namespace DL
open PySem PySem.Spec PyProof.Rows L2
variable [DLX]
/-! ### 18. Statements -/
section
variable {X : Cx}
theorem PostS.mono {K : PySem.W.Frag} {H0 : Hp} {α0 : List Addr} {W : WX} {H H1 : Hp} {α α1 : List Addr} {D : Ends} (t : Stay H α H1 α1) {x : SR} (q : PostS K H0 α0 W H α D x) : PostS K H0 α0 W H1 α1 D x := by
  cases x with
  | nx s' => exact fun σ' H' α' r t' => q σ' H' α' r (t.trans t')
  | bk s' => exact fun σ' H' α' r t' => q σ' H' α' r (t.trans t')
  | ct s' => exact fun σ' H' α' r t' => q σ' H' α' r (t.trans t')
  | rt d s' => exact q
  | rtc d s' => exact q
  | exc e s' => exact q
  | bad => exact q
def dSkip : FS := fun s => .nx s
def dSeq (f g : FS) : FS := fun s => match f s with
  | .nx s1 => g s1
  | .rt d s1 => .rt d s1
  | .rtc c s1 => .rtc c s1
  | .bk s1 => .bk s1
  | .ct s1 => .ct s1
  | .exc e s1 => .exc e s1
  | .bad => .bad
theorem sd_pass {pos : Pos} : PSD X (.Pass pos) dSkip := ⟨fun W _ => ⟨_, ps_pass, fun H0 α0 σ H α s D r q => q σ H α r (Stay.refl _ _)⟩⟩
theorem sd_nil : PSsD X [] dSkip := ⟨fun W _ => ⟨_, pss_nil, fun H0 α0 σ H α s D r q => q σ H α r (Stay.refl _ _)⟩⟩
theorem sd_one {st : Stmt} {f : FS} (h : PSD X st f) : PSsD X [st] f := ⟨fun W tk => let ⟨t, p, q⟩ := h.run W tk; ⟨t, pss_one p, q⟩⟩
theorem sd_cons {st : Stmt} {rest : List Stmt} {f g : FS} (h : PSD X st f) (hr : PSsD X rest g) : PSsD X (st :: rest) (dSeq f g) := by
  refine ⟨fun W tk => ?_⟩
  obtain ⟨t, p, q⟩ := h.run W tk
  obtain ⟨u, pu, qu⟩ := hr.run W tk
  refine ⟨_, pss_cons p pu, fun H0 α0 σ H α s D r k => q H0 α0 σ H α s { D with nx := u D } r ?_⟩
  unfold dSeq at k
  cases e : f s <;> rw [e] at k <;> try exact k
  exact fun σ' H' α' r' t' => qu H0 α0 σ' H' α' _ D r' (PostS.mono t' k)
def dBreak : FS := fun s => .bk s
def dCont : FS := fun s => .ct s
theorem sd_break {pos : Pos} : PSD X (.Break pos) dBreak := ⟨fun W _ => ⟨_, ps_break, fun H0 α0 σ H α s D r q => q σ H α r (Stay.refl _ _)⟩⟩
theorem sd_cont {pos : Pos} : PSD X (.Continue pos) dCont := ⟨fun W _ => ⟨_, ps_continue, fun H0 α0 σ H α s D r q => q σ H α r (Stay.refl _ _)⟩⟩
/-! stores to a slot -/
theorem get_set {α : Type} {l : List α} {i j : Nat} {x y : α} (h : (l.set i x)[j]? = some y) : (i = j ∧ y = x ∧ i < l.length) ∨ (i ≠ j ∧ l[j]? = some y) := by
  by_cases e : i = j
  · subst e
    by_cases hi : i < l.length
    · rw [List.getElem?_set_self hi] at h
      exact .inl ⟨rfl, (Option.some.inj h).symm, hi⟩
    · rw [List.getElem?_eq_none (by simpa using hi)] at h
      cases h
  · rw [List.getElem?_set_ne e] at h
    exact .inr ⟨e, h⟩
theorem Rel.setV {K : PySem.W.Frag} {H0 H : Hp} {α0 α : List Addr} {σ : Sg} {s : S} {i : Nat} {d : D} {v : V} (r : Rel K H0 α0 H α σ s) (h : Rv K H α d v) : Rel K H0 α0 H α (σ.set i (some v)) { s with δ := s.δ.set i (.val d) } := by
  refine ⟨r.cells, ⟨by simpa using r.slots.len, fun j x e => ?_, fun j c e => ?_, fun j k c c' a e1 e2 e3 e4 => ?_⟩, r.ot, r.nw, r.st⟩
  · rcases get_set e with ⟨rfl, e, hi⟩ | ⟨ne, e⟩
    · cases e
      exact ⟨v, by rw [List.getElem?_set_self (by rw [r.slots.len]; exact hi)], h⟩
    · obtain ⟨w, e1, e2⟩ := r.slots.val j x e
      exact ⟨w, by rw [List.getElem?_set_ne ne]; exact e1, e2⟩
  · rcases get_set e with ⟨rfl, e, hi⟩ | ⟨ne, e⟩
    · cases e
    · obtain ⟨a, e1, e2⟩ := r.slots.own j c e
      exact ⟨a, by rw [List.getElem?_set_ne ne]; exact e1, e2⟩
  · rcases get_set e1 with ⟨rfl, e, hi⟩ | ⟨ne1, e1⟩
    · cases e
    · rcases get_set e2 with ⟨rfl, e, hi⟩ | ⟨ne2, e2⟩
      · cases e
      · rw [List.getElem?_set_ne ne1] at e3
        rw [List.getElem?_set_ne ne2] at e4
        exact r.slots.inj j k c c' a e1 e2 e3 e4
theorem Rel.setO {K : PySem.W.Frag} {H0 H : Hp} {α0 α : List Addr} {σ : Sg} {s : S} {i : Nat} {c : Cell} {a : Addr} (r : Rel K H0 α0 H α σ s) (h : RF K H0 H α σ s a c) : Rel K H0 α0 H α (σ.set i (some (.ref a))) { s with δ := s.δ.set i (.own c) } := by
  obtain ⟨h1, h2, h3, h4⟩ := h
  refine ⟨r.cells, ⟨by simpa using r.slots.len, fun j x e => ?_, fun j c e => ?_, fun j k c c' b e1 e2 e3 e4 => ?_⟩, r.ot, r.nw, r.st⟩
  · rcases get_set e with ⟨rfl, e, hi⟩ | ⟨ne, e⟩
    · cases e
    · obtain ⟨w, e1, e2⟩ := r.slots.val j x e
      exact ⟨w, by rw [List.getElem?_set_ne ne]; exact e1, e2⟩
  · rcases get_set e with ⟨rfl, e, hi⟩ | ⟨ne, e⟩
    · cases e
      exact ⟨a, by rw [List.getElem?_set_self (by rw [r.slots.len]; exact hi)], h2, h3, h1⟩
    · obtain ⟨a, e1, e2⟩ := r.slots.own j c e
      exact ⟨a, by rw [List.getElem?_set_ne ne]; exact e1, e2⟩
  · rcases get_set e1 with ⟨rfl, e, hi⟩ | ⟨ne1, e1⟩
    · rcases get_set e2 with ⟨rfl, e', hi'⟩ | ⟨ne2, e2⟩
      · rfl
      · rw [List.getElem?_set_self (by rw [r.slots.len]; exact hi)] at e3
        cases e3
        rw [List.getElem?_set_ne ne2] at e4
        exact absurd e4 (h4 k c' e2)
    · rcases get_set e2 with ⟨rfl, e', hi'⟩ | ⟨ne2, e2⟩
      · rw [List.getElem?_set_self (by rw [r.slots.len]; exact hi')] at e4
        cases e4
        rw [List.getElem?_set_ne ne1] at e3
        exact absurd e3 (h4 j c e1)
      · rw [List.getElem?_set_ne ne1] at e3
        rw [List.getElem?_set_ne ne2] at e4
        exact r.slots.inj j k c c' b e1 e2 e3 e4
/-- a fresh thing becomes a shared cell -/
theorem Rel.share {K : PySem.W.Frag} {H0 H : Hp} {α0 α : List Addr} {σ : Sg} {s : S} {c : Cell} {a : Addr} (r : Rel K H0 α0 H α σ s) (h : RF K H0 H α σ s a c) :
    Rel K H0 α0 H (α ++ [a]) σ { s with μ := s.μ ++ [c] } ∧ Stay H α H (α ++ [a]) ∧ Rv K H (α ++ [a]) (.ref s.μ.length) (.ref a) := by
  obtain ⟨h1, h2, h3, h4⟩ := h
  have t : Stay H α H (α ++ [a]) := ⟨fun _ _ e _ => e, ⟨[a], rfl⟩, fun _ e => e⟩
  refine ⟨⟨⟨by simp [r.cells.len], ?_, fun n b x e1 e2 => ?_⟩, ⟨r.slots.len, fun i d e => ?_, fun i c' e => ?_, r.slots.inj⟩, r.ot, fun b hb => ?_, r.st.trans t⟩, t, ?_⟩
  · rw [List.nodup_append]
    exact ⟨r.cells.nd, by simp, fun x hx y hy => by simp at hy; subst hy; rintro rfl; exact h2 hx⟩
  · by_cases hn : n < α.length
    · rw [List.getElem?_append_left hn] at e1
      rw [List.getElem?_append_left (by show n < s.μ.length; rw [← r.cells.len]; exact hn)] at e2
      exact (r.cells.at_ n b x e1 e2).stay t (fun _ e _ => e)
    · have hl := (List.getElem?_eq_some_iff.mp e1).1
      have en : n = α.length := by simp at hl; omega
      subst en
      rw [List.getElem?_append_right (Nat.le_refl _)] at e1
      rw [r.cells.len, List.getElem?_append_right (Nat.le_refl _)] at e2
      simp at e1 e2
      subst e1 e2
      exact h1.stay t (fun _ e _ => e)
  · obtain ⟨v, e1, e2⟩ := r.slots.val i d e
    exact ⟨v, e1, Rv.stay t _ _ e2⟩
  · obtain ⟨b, e1, e2, e3, e4⟩ := r.slots.own i c' e
    refine ⟨b, e1, ?_, e3, e4.stay t (fun _ e _ => e)⟩
    rw [List.mem_append]
    rintro (z | z)
    · exact e2 z
    · simp at z
      subst z
      exact h4 i c' e e1
  · rcases List.mem_append.mp hb with z | z
    · exact r.nw b z
    · simp at z
      subst z
      exact .inr h3
  · simp only [Rv]
    exact ⟨a, by rw [← r.cells.len, List.getElem?_append_right (Nat.le_refl _)]; simp, rfl⟩
/-- name = e -/
def dAsg (i : Nat) (fa : FE) : FS := fun s => match fa s with
  | .ok d s1 => if noOwn d then .nx { s1 with δ := s1.δ.set i (.val d) } else .bad
  | .exc e s1 => .exc e s1
  | .bad => .bad
/-- name = a fresh thing, which the slot owns; which is shared from then on -/
def dAsgO (i : Nat) (fa : FC) : FS := fun s => match fa s with
  | .ok c s1 => .nx { s1 with δ := s1.δ.set i (.own c) }
  | .exc e s1 => .exc e s1
  | .bad => .bad
def dAsgR (i : Nat) (fa : FC) : FS := fun s => match fa s with
  | .ok c s1 => .nx { δ := s1.δ.set i (.val (.ref s1.μ.length)), μ := s1.μ ++ [c] }
  | .exc e s1 => .exc e s1
  | .bad => .bad
theorem noOwn_rv {K : PySem.W.Frag} {H : Hp} {α : List Addr} {σ : Sg} {d : D} {v : V} (h : Rx K H α σ d v) (n : noOwn d = true) : Rv K H α d v := h.rv fun i z => by rw [z] at n; simp [noOwn] at n
theorem sd_asg {e : Expr} {st : Stmt} {i : Nat} {fa : FE} (hp : ∀ te, PE X e te → PS X st (tAsg te (gName i))) (ha : PED X e fa) : PSD X st (dAsg i fa) := by
  refine ⟨fun W tk => ?_⟩
  obtain ⟨t, p, q⟩ := ha.run W tk
  refine ⟨_, hp t p, fun H0 α0 σ H α s D r k => q H0 α0 σ H α s _ r ?_⟩
  unfold dAsg at k
  cases ea : fa s with
  | bad => rw [ea] at k; exact k.elim
  | exc e s1 => rw [ea] at k; exact fun cls dd H' α' r' x => k cls dd σ H' α' r' x
  | ok d s1 =>
    rw [ea] at k
    simp only at k
    split at k
    · rename_i hn
      intro v H1 α1 r1 t1 rv
      exact k _ H1 α1 (r1.setV (noOwn_rv rv hn)) t1
    · exact k.elim
theorem sd_asgO {e : Expr} {st : Stmt} {i : Nat} {fa : FC} (hp : ∀ te, PE X e te → PS X st (tAsg te (gName i))) (ha : PFD X e fa) : PSD X st (dAsgO i fa) := by
  refine ⟨fun W tk => ?_⟩
  obtain ⟨t, p, q⟩ := ha.run W tk
  refine ⟨_, hp t p, fun H0 α0 σ H α s D r k => q H0 α0 σ H α s _ r ?_⟩
  unfold dAsgO at k
  cases ea : fa s with
  | bad => rw [ea] at k; exact k.elim
  | exc e s1 => rw [ea] at k; exact fun cls dd H' α' r' x => k cls dd σ H' α' r' x
  | ok c s1 =>
    rw [ea] at k
    intro a H1 α1 r1 t1 rf
    exact k _ H1 α1 (r1.setO rf) t1
theorem sd_asgR {e : Expr} {st : Stmt} {i : Nat} {fa : FC} (hp : ∀ te, PE X e te → PS X st (tAsg te (gName i))) (ha : PFD X e fa) : PSD X st (dAsgR i fa) := by
  refine ⟨fun W tk => ?_⟩
  obtain ⟨t, p, q⟩ := ha.run W tk
  refine ⟨_, hp t p, fun H0 α0 σ H α s D r k => q H0 α0 σ H α s _ r ?_⟩
  unfold dAsgR at k
  cases ea : fa s with
  | bad => rw [ea] at k; exact k.elim
  | exc e s1 => rw [ea] at k; exact fun cls dd H' α' r' x => k cls dd σ H' α' r' x
  | ok c s1 =>
    rw [ea] at k
    intro a H1 α1 r1 t1 rf
    obtain ⟨r2, t2, rv⟩ := r1.share rf
    exact k _ H1 _ (r2.setV rv) (t1.trans t2)
/-- return -/
def dRet (fa : FE) : FS := fun s => match fa s with
  | .ok d s1 => if noOwn d then .rt d s1 else .bad
  | .exc e s1 => .exc e s1
  | .bad => .bad
def dRetF (fa : FC) : FS := fun s => match fa s with
  | .ok c s1 => .rtc c s1
  | .exc e s1 => .exc e s1
  | .bad => .bad
theorem sd_ret {e : Expr} {pos : Pos} {fa : FE} (ha : PED X e fa) : PSD X (.Return (some e) pos) (dRet fa) := by
  refine ⟨fun W tk => ?_⟩
  obtain ⟨t, p, q⟩ := ha.run W tk
  refine ⟨_, ps_ret p, fun H0 α0 σ H α s D r k => q H0 α0 σ H α s _ r ?_⟩
  unfold dRet at k
  cases ea : fa s with
  | bad => rw [ea] at k; exact k.elim
  | exc e s1 => rw [ea] at k; exact fun cls dd H' α' r' x => k cls dd σ H' α' r' x
  | ok d s1 =>
    rw [ea] at k
    simp only at k
    split at k
    · rename_i hn
      exact fun v H1 α1 r1 t1 rv => k v σ H1 α1 r1 (noOwn_rv rv hn)
    · exact k.elim
theorem sd_retF {e : Expr} {pos : Pos} {fa : FC} (ha : PFD X e fa) : PSD X (.Return (some e) pos) (dRetF fa) := by
  refine ⟨fun W tk => ?_⟩
  obtain ⟨t, p, q⟩ := ha.run W tk
  refine ⟨_, ps_ret p, fun H0 α0 σ H α s D r k => q H0 α0 σ H α s _ r ?_⟩
  unfold dRetF at k
  cases ea : fa s with
  | bad => rw [ea] at k; exact k.elim
  | exc e s1 => rw [ea] at k; exact fun cls dd H' α' r' x => k cls dd σ H' α' r' x
  | ok c s1 =>
    rw [ea] at k
    exact fun a H1 α1 r1 t1 rf => k a σ H1 α1 r1 rf
def dRetN : FS := fun s => .rt .non s
theorem sd_retN {pos : Pos} : PSD X (.Return none pos) dRetN := ⟨fun W _ => ⟨_, ps_retN, fun H0 α0 σ H α s D r q => q .non σ H α r (by simp only [Rv])⟩⟩
/-- if -/
def dIfS (ft : FT) (f g : FS) : FS := fun s => match ft s with
  | .ok true s1 => f s1
  | .ok false s1 => g s1
  | .exc e s1 => .exc e s1
  | .bad => .bad
theorem sd_if {c : Expr} {a b : List Stmt} {pos : Pos} {ft : FT} {f g : FS} (hc : PTD X c ft) (ha : PSsD X a f) (hb : PSsD X b g) : PSD X (.If c a b pos) (dIfS ft f g) := by
  refine ⟨fun W tk => ?_⟩
  obtain ⟨tc, pc, qc⟩ := hc.run W tk
  obtain ⟨ta, pa, qa⟩ := ha.run W tk
  obtain ⟨tb, pb, qb⟩ := hb.run W tk
  refine ⟨_, ps_if pc pa pb, fun H0 α0 σ H α s D r k => qc H0 α0 σ H α s _ r ?_⟩
  unfold dIfS at k
  cases ec : ft s with
  | bad => rw [ec] at k; exact k.elim
  | exc e s1 => rw [ec] at k; exact fun cls dd H' α' r' x => k cls dd σ H' α' r' x
  | ok u s1 =>
    rw [ec] at k
    intro H1 α1 r1 t1
    cases u with
    | true => rw [if_pos rfl]; exact qa H0 α0 σ H1 α1 s1 D r1 (PostS.mono t1 k)
    | false => rw [if_neg (by decide)]; exact qb H0 α0 σ H1 α1 s1 D r1 (PostS.mono t1 k)
/-- an expression whose value is dropped -/
def dDrop (fa : FE) : FS := fun s => match fa s with
  | .ok _ s1 => .nx s1
  | .exc e s1 => .exc e s1
  | .bad => .bad
theorem sd_drop {e : Expr} {pos : Pos} {fa : FE} (ha : PED X e fa) (hs : swapsWith e none pos.line X.env = pure false := by rfl) : PSD X (.Expr e pos) (dDrop fa) := by
  refine ⟨fun W tk => ?_⟩
  obtain ⟨t, p, q⟩ := ha.run W tk
  refine ⟨_, ps_expr p hs, fun H0 α0 σ H α s D r k => q H0 α0 σ H α s _ r ?_⟩
  unfold dDrop at k
  cases ea : fa s with
  | bad => rw [ea] at k; exact k.elim
  | exc e s1 => rw [ea] at k; exact fun cls dd H' α' r' x => k cls dd σ H' α' r' x
  | ok d s1 =>
    rw [ea] at k
    exact fun v H1 α1 r1 t1 rv => k σ H1 α1 r1 t1
/-- while: n turns at most -/
def dWhile (ft : FT) (f : FS) : Nat → FS
  | 0, _ => .bad
  | n + 1, s => match ft s with
    | .ok true s1 => (match f s1 with
      | .nx s2 => dWhile ft f n s2
      | .ct s2 => dWhile ft f n s2
      | .bk s2 => .nx s2
      | .rt d s2 => .rt d s2
      | .rtc c s2 => .rtc c s2
      | .exc e s2 => .exc e s2
      | .bad => .bad)
    | .ok false s1 => .nx s1
    | .exc e s1 => .exc e s1
    | .bad => .bad
theorem sd_while (n : Nat) {c : Expr} {body : List Stmt} {pos : Pos} {ft : FT} {f : FS} (hp : PassesOwn (model X.prog X.w) X.A X.env X.xe) (hc : PTD X c ft) (hb : PSsD X body f) : PSD X (.While c body [] pos) (dWhile ft f n) := by
  refine ⟨fun W tk => ?_⟩
  obtain ⟨tc, pc, qc⟩ := hc.run W tk
  obtain ⟨tb, pb, qb⟩ := hb.run W tk
  refine ⟨_, ps_while hp pc pb, fun H0 α0 σ H α s D r k => ?_⟩
  refine ⟨fun m σ1 H1 => ∃ s1 α1, Rel X.K H0 α0 H1 α1 σ1 s1 ∧ PostS X.K H0 α0 W H1 α1 D (dWhile ft f m s1), ⟨n, s, α, r, k⟩, ?_⟩
  rintro m σ1 H1 ⟨s1, α1, r1, k1⟩
  refine qc H0 α0 σ1 H1 α1 s1 _ r1 ?_
  cases m with
  | zero => exact k1.elim
  | succ m =>
    unfold dWhile at k1
    cases ec : ft s1 with
    | bad => rw [ec] at k1; exact k1.elim
    | exc e s2 => rw [ec] at k1; exact fun cls dd H' α' r' x => k1 cls dd σ1 H' α' r' x
    | ok u s2 =>
      rw [ec] at k1
      intro H2 α2 r2 t2
      cases u with
      | false => rw [if_neg (by decide)]; exact k1 σ1 H2 α2 r2 t2
      | true =>
        rw [if_pos rfl]
        refine ⟨fun σ3 H3 => ∃ m', m' < m + 1 ∧ ∃ s3 α3, Rel X.K H0 α0 H3 α3 σ3 s3 ∧ PostS X.K H0 α0 W H3 α3 D (dWhile ft f m' s3), fun _ _ z => z, ?_⟩
        refine qb H0 α0 σ1 H2 α2 s2 _ r2 ?_
        simp only at k1
        cases eb : f s2 <;> rw [eb] at k1 <;> simp only at k1
        · exact fun σ3 H3 α3 r3 t3 => ⟨m, Nat.lt_succ_self m, _, α3, r3, PostS.mono (t2.trans t3) k1⟩
        · exact k1
        · exact k1
        · exact fun σ3 H3 α3 r3 t3 => k1 σ3 H3 α3 r3 (t2.trans t3)
        · exact fun σ3 H3 α3 r3 t3 => ⟨m, Nat.lt_succ_self m, _, α3, r3, PostS.mono (t2.trans t3) k1⟩
        · exact k1
        · exact k1
end
end DL

namespace DL
open PySem PySem.Spec PyProof.Rows L2
variable [DLX]
/-! ### 19. Targets, walks, for -/
abbrev FG := D → S → Option S
/-- σ' is σ but at vs -/
structure But (vs : List Nat) (σ σ' : Sg) : Prop where
  len : σ'.length = σ.length
  at_ : ∀ j, j ∉ vs → σ'[j]? = σ[j]?
theorem But.refl (vs : List Nat) (σ : Sg) : But vs σ σ := ⟨rfl, fun _ _ => rfl⟩
theorem But.trans {vs ws : List Nat} {σ σ1 σ2 : Sg} (a : But vs σ σ1) (b : But ws σ1 σ2) : But (vs ++ ws) σ σ2 := ⟨b.len.trans a.len, fun j h => by
  rw [List.mem_append, not_or] at h
  rw [b.at_ j h.2, a.at_ j h.1]⟩
theorem But.set (i : Nat) (x : Option V) (σ : Sg) : But [i] σ (σ.set i x) := ⟨List.length_set, fun j h => List.getElem?_set_ne (fun z => h (by simp [z]))⟩
structure PGD (X : Cx) (tg : Expr) (vs : List Nat) (f : FG) : Prop where
  ex : ∃ t : TG, PG X tg t ∧ ∀ H0 α0 σ H α s d v s' (Q : Sg → Hp → Prop), Rel X.K H0 α0 H α σ s → Rv X.K H α d v → f d s = some s' → (∀ σ' H', Rel X.K H0 α0 H' α σ' s' → Stay H α H' α → But vs σ σ' → Q σ' H') → t v σ H Q
/-- J gives the data ds, one a turn, as long as what is locked stays so -/
structure WalkD (K : PySem.W.Frag) (J : It) (ds : List D) (H1 : Hp) (α1 : List Addr) : Prop where
  stop : ∀ H α, Stay H1 α1 H α → J.stop ds.length H
  go : ∀ H α i d, Stay H1 α1 H α → ds[i]? = some d → J.go i H
  yld : ∀ H0 α0 H α σ s i d x H', Stay H1 α1 H α → Rel K H0 α0 H α σ s → ds[i]? = some d → J.yld i H x H' → Rel K H0 α0 H' α σ s ∧ Stay H α H' α ∧ Rv K H' α d x
def PostI (K : PySem.W.Frag) (H0 : Hp) (α0 : List Addr) (σ : Sg) (W : WX) (H : Hp) (α : List Addr) (R : It → Hp → Prop) : Res (List D) → Prop
  | .ok ds s' => ∀ J H' α', Rel K H0 α0 H' α' σ s' → Stay H α H' α' → WalkD K J ds H' α' → R J H'
  | .exc e s' => ∀ cls dd H' α', Rel K H0 α0 H' α' σ s' → ExR K H' α' e cls dd → W cls dd σ H'
  | .bad => False
structure PID (X : Cx) (tg iter : Expr) (f : FA) : Prop where
  run : ∀ W, Takes X W → ∃ t, PI X tg iter t ∧ ∀ H0 α0 σ H α s R, Rel X.K H0 α0 H α σ s → PostI X.K H0 α0 σ W H α R (f s) → t σ H R
def dFor (g : FG) (f : FS) : List D → FS
  | [], s => .nx s
  | d :: ds, s => match g d s with
    | none => .bad
    | some s1 => match f s1 with
      | .nx s2 => dFor g f ds s2
      | .ct s2 => dFor g f ds s2
      | .bk s2 => .nx s2
      | .rt d s2 => .rt d s2
      | .rtc c s2 => .rtc c s2
      | .exc e s2 => .exc e s2
      | .bad => .bad
def dForI (fi : FA) (g : FG) (f : FS) : FS := fun s => match fi s with
  | .ok ds s1 => dFor g f ds s1
  | .exc e s1 => .exc e s1
  | .bad => .bad
section
variable {X : Cx}
theorem sd_for {tg iter : Expr} {body : List Stmt} {pos : Pos} {fi : FA} {g : FG} {f : FS} {ws : List Nat} (hp : PassesOwn (model X.prog X.w) X.A X.env X.xe) (hc : X.calm = true) (hi : PID X tg iter fi) (hg : PGD X tg ws g) (hb : PSsD X body f)
    (hs : ∀ x, foldedSetIterable iter X.env x = pure x := by intro _; rfl) : PSD X (.For tg iter body [] pos) (dForI fi g f) := by
  refine ⟨fun W tk => ?_⟩
  obtain ⟨ti, pi, qi⟩ := hi.run W tk
  obtain ⟨t, pg, qg⟩ := hg.ex
  obtain ⟨tb, pb, qb⟩ := hb.run W tk
  refine ⟨_, ps_for hp hc pi pg pb hs, fun H0 α0 σ H α s D r k => qi H0 α0 σ H α s _ r ?_⟩
  unfold dForI at k
  cases ei : fi s with
  | bad => rw [ei] at k; exact k.elim
  | exc e s1 => rw [ei] at k; exact fun cls dd H' α' r' x => k cls dd σ H' α' r' x
  | ok ds s1 =>
    rw [ei] at k
    intro J H1 α1 r1 t1 w
    refine ⟨fun i m σ' H' => i + m = ds.length ∧ ∃ s' α', Rel X.K H0 α0 H' α' σ' s' ∧ Stay H1 α1 H' α' ∧ PostS X.K H0 α0 W H' α' D (dFor g f (ds.drop i) s'), ⟨ds.length, Nat.zero_add _, s1, α1, r1, Stay.refl _ _, PostS.mono t1 k⟩, ?_⟩
    rintro i m σ' H' ⟨hm, s', α', r', t', k'⟩
    cases m with
    | zero =>
      have e : i = ds.length := by omega
      subst e
      rw [List.drop_length] at k'
      exact .inl ⟨w.stop H' α' t', k' σ' H' α' r' (Stay.refl _ _)⟩
    | succ m =>
      have hi : i < ds.length := by omega
      have ed := List.getElem?_eq_getElem hi
      rw [List.drop_eq_getElem_cons hi] at k'
      refine .inr ⟨w.go H' α' i _ t' ed, fun σ2 H2 => ∃ m', m' < m + 1 ∧ (i + 1) + m' = ds.length ∧ ∃ s2 α2, Rel X.K H0 α0 H2 α2 σ2 s2 ∧ Stay H1 α1 H2 α2 ∧ PostS X.K H0 α0 W H2 α2 D (dFor g f (ds.drop (i + 1)) s2), fun _ _ z => z, fun x H2 hy => ?_⟩
      obtain ⟨r2, t2, rv⟩ := w.yld H0 α0 H' α' σ' s' i _ x H2 t' r' ed hy
      unfold dFor at k'
      cases eg : g ds[i] s' with
      | none => rw [eg] at k'; exact k'.elim
      | some s3 =>
        rw [eg] at k'
        refine qg H0 α0 σ' H2 α' s' _ x s3 _ r2 rv eg fun σ3 H3 r3 t3 _ => ?_
        refine qb H0 α0 σ3 H3 α' s3 _ r3 ?_
        simp only at k'
        have t23 := t2.trans t3
        cases eb : f s3 <;> rw [eb] at k' <;> simp only at k'
        · exact fun σ4 H4 α4 r4 t4 => ⟨m, Nat.lt_succ_self m, by omega, _, α4, r4, (t'.trans t23).trans t4, PostS.mono (t23.trans t4) k'⟩
        · exact k'
        · exact k'
        · exact fun σ4 H4 α4 r4 t4 => k' σ4 H4 α4 r4 (t23.trans t4)
        · exact fun σ4 H4 α4 r4 t4 => ⟨m, Nat.lt_succ_self m, by omega, _, α4, r4, (t'.trans t23).trans t4, PostS.mono (t23.trans t4) k'⟩
        · exact k'
        · exact k'
/-! targets -/
def gNm (i : Nat) : FG := fun d s => some { s with δ := s.δ.set i (.val d) }
theorem gd_name {i : Nat} {tg : Expr} (h : PG X tg (gName i)) : PGD X tg [i] (gNm i) := ⟨_, h, fun H0 α0 σ H α s d v s' Q r rv e k => by
  cases e
  exact k _ H (r.setV rv) (Stay.refl _ _) (But.set _ _ _)⟩
abbrev FGs := List D → S → Option S
structure PGsD (X : Cx) (tgs : List Expr) (ws : List Nat) (f : FGs) : Prop where
  ex : ∃ t : TGs, PGs X tgs t ∧ ∀ H0 α0 σ H α s ds vs s' (Q : Sg → Hp → Prop), Rel X.K H0 α0 H α σ s → Rvs X.K H α ds vs → f ds s = some s' → (∀ σ' H', Rel X.K H0 α0 H' α σ' s' → Stay H α H' α → But ws σ σ' → Q σ' H') → t vs σ H Q
def gN : FGs := fun ds s => match ds with | [] => some s | _ => none
def gC (g : FG) (r : FGs) : FGs := fun ds s => match ds with | [] => none | d :: ds => (g d s).bind fun s1 => r ds s1
def gT (r : FGs) : FG := fun d s => match d with | .tup ds => r ds s | _ => none
theorem gd_nil : PGsD X [] [] gN := ⟨_, pgs_nil, fun H0 α0 σ H α s ds vs s' Q r rv e k => by
  unfold gN at e
  split at e
  · cases e
    simp only [Rvs] at rv
    exact ⟨rv, k σ H r (Stay.refl _ _) (But.refl _ _)⟩
  · cases e⟩
theorem gd_cons {e : Expr} {es : List Expr} {g : FG} {r : FGs} {ws ws' : List Nat} (h1 : PGD X e ws g) (h2 : PGsD X es ws' r) (hs : (assignEach (e :: es) X.env).map (·.2) = assign e X.env :: (assignEach es X.env).map (·.2) := by rfl) : PGsD X (e :: es) (ws ++ ws') (gC g r) := by
  obtain ⟨t1, p1, q1⟩ := h1.ex
  obtain ⟨t2, p2, q2⟩ := h2.ex
  refine ⟨_, pgs_cons p1 p2 hs, fun H0 α0 σ H α s ds vs s' Q rl rv e k => ?_⟩
  unfold gC at e
  split at e
  · cases e
  · rename_i d ds
    simp only [Rvs] at rv
    obtain ⟨v, vs, rfl, h1, h2⟩ := rv
    cases eg : g d s with
    | none => rw [eg] at e; cases e
    | some s1 =>
      rw [eg] at e
      refine ⟨v, vs, rfl, q1 H0 α0 σ H α s d v s1 _ rl h1 eg fun σ1 H1 r1 t1 b1 => ?_⟩
      exact q2 H0 α0 σ1 H1 α s1 ds vs s' Q r1 (Rvs.stay t1 _ _ h2) e fun σ2 H2 r2 t2 b2 => k σ2 H2 r2 (t1.trans t2) (b1.trans b2)
theorem gd_tup {es : List Expr} {k : Nat} {pos : Pos} {r : FGs} {n : Nat} {ws : List Nat} (hc : X.calm = true) (h : PGsD X es ws r) (hn : (assignEach es X.env).length = n := by rfl) (hst : (assignEach es X.env).findIdx? (·.1) = none := by rfl) (hl : es.length = n := by rfl)
    (hr : ∀ ds s s', r ds s = some s' → ds.length = n := by intro ds s s' e; simp only [gC, gN] at e; repeat (first | (split at e; first | cases e | skip) | (simp only [Option.bind_eq_some_iff] at e; obtain ⟨_, _, e⟩ := e)); all_goals first | rfl | (cases e) | simp_all) : PGD X (.Tuple es k pos) ws (gT r) := by
  obtain ⟨t, p, q⟩ := h.ex
  refine ⟨_, pg_tup hc p hn hst, fun H0 α0 σ H α s d v s' Q rl rv e k => ?_⟩
  unfold gT at e
  split at e
  · rename_i ds
    simp only [Rv] at rv
    obtain ⟨a, vs, rfl, hs, rr⟩ := rv
    exact ⟨a, vs, rfl, hs, by rw [rr.length]; exact hr _ _ _ e, q H0 α0 σ H α s ds vs s' Q rl rr e k⟩
  · cases e
/-- target = e -/
def dAsgG (fa : FE) (g : FG) : FS := fun s => match fa s with
  | .ok d s1 => if noOwn d then (match g d s1 with | some s2 => .nx s2 | none => .bad) else .bad
  | .exc e s1 => .exc e s1
  | .bad => .bad
theorem sd_asgG {tg e : Expr} {st : Stmt} {fa : FE} {g : FG} {ws : List Nat} (hp : ∀ te t, PE X e te → PG X tg t → PS X st (tAsg te t)) (ha : PED X e fa) (hg : PGD X tg ws g) : PSD X st (dAsgG fa g) := by
  refine ⟨fun W tk => ?_⟩
  obtain ⟨t, p, q⟩ := ha.run W tk
  obtain ⟨u, pu, qu⟩ := hg.ex
  refine ⟨_, hp t u p pu, fun H0 α0 σ H α s D r k => q H0 α0 σ H α s _ r ?_⟩
  unfold dAsgG at k
  cases ea : fa s with
  | bad => rw [ea] at k; exact k.elim
  | exc e s1 => rw [ea] at k; exact fun cls dd H' α' r' x => k cls dd σ H' α' r' x
  | ok d s1 =>
    rw [ea] at k
    simp only at k
    split at k
    · rename_i hn
      intro v H1 α1 r1 t1 rv
      split at k
      · rename_i s2 eg
        exact qu H0 α0 σ H1 α1 s1 d v s2 _ r1 (noOwn_rv rv hn) eg fun σ' H' r' t' _ => k σ' H' α1 r' (t1.trans t')
      · exact k.elim
    · exact k.elim
/-- a, b = x, y -/
def dPar (i j : Nat) (fa : FA) : FS := fun s => match fa s with
  | .ok [a, b] s1 => if noOwn a && noOwn b then .nx { s1 with δ := (s1.δ.set i (.val a)).set j (.val b) } else .bad
  | .exc e s1 => .exc e s1
  | _ => .bad
theorem sd_par {es : List Expr} {st : Stmt} {i j : Nat} {fa : FA} (hp : ∀ ta, PA X es ta → PS X st (tPar i j ta)) (ha : PAD X es fa) : PSD X st (dPar i j fa) := by
  refine ⟨fun W tk => ?_⟩
  obtain ⟨t, p, q⟩ := ha.run W tk
  refine ⟨_, hp t p, fun H0 α0 σ H α s D r k => q H0 α0 σ H α s _ r ?_⟩
  unfold dPar at k
  cases ea : fa s with
  | bad => rw [ea] at k; exact k.elim
  | exc e s1 => rw [ea] at k; exact fun cls dd H' α' r' x => k cls dd σ H' α' r' x
  | ok ds s1 =>
    rw [ea] at k
    intro vs H1 α1 r1 t1 rv
    match ds, vs, rv with
    | [], _, _ => exact k.elim
    | [_], _, _ => exact k.elim
    | [a, b], [v, w], .cons ra (.cons rb .nil) =>
      simp only at k
      split at k
      · rename_i hn
        rw [Bool.and_eq_true] at hn
        exact ⟨v, w, rfl, k _ H1 α1 ((r1.setV (noOwn_rv ra hn.1)).setV (noOwn_rv rb hn.2)) t1⟩
      · exact k.elim
    | _ :: _ :: _ :: _, _, _ => exact k.elim
/-! walks -/
def fixSeq : D → Option (List D) | .tup xs => some xs | .lst xs => some xs | _ => none
def dIter (fa : FE) : FA := fun s => (fa s).bind fun d s1 => match fixSeq d with | some xs => .ok xs s1 | none => .bad
theorem walk_fixT {K : PySem.W.Frag} {H : Hp} {α : List Addr} {a : Addr} {xs : List D} {vs : List V} (h : SqT K H a vs) (rr : Rvs K H α xs vs) : WalkD K (Itt K a) xs H α := by
  refine ⟨fun H' α' t => ⟨vs, t.sqT h, by rw [rr.length]; exact Nat.le_refl _⟩, fun H' α' i d t e => ?_, fun H0 α0 H' α' σ s i d x H2 t r e y => ?_⟩
  · obtain ⟨v, ev, _⟩ := rr.at_ e
    exact ⟨vs, v, t.sqT h, ev⟩
  · obtain ⟨rfl, y⟩ := y
    obtain ⟨v, ev, rv⟩ := rr.at_ e
    have := y vs (t.sqT h)
    rw [ev] at this
    cases this
    exact ⟨r, Stay.refl _ _, Rv.stay t _ _ rv⟩
theorem walk_fixL {K : PySem.W.Frag} {H : Hp} {α : List Addr} {a : Addr} {xs : List D} {vs : List V} (h : SqF K H a vs) (rr : Rvs K H α xs vs) : WalkD K (Itl K a) xs H α := by
  refine ⟨fun H' α' t => ⟨vs, (t.sqF h).sq, by rw [rr.length]; exact Nat.le_refl _⟩, fun H' α' i d t e => ?_, fun H0 α0 H' α' σ s i d x H2 t r e y => ?_⟩
  · obtain ⟨v, ev, _⟩ := rr.at_ e
    exact ⟨vs, v, (t.sqF h).sq, ev⟩
  · obtain ⟨rfl, y⟩ := y
    obtain ⟨v, ev, rv⟩ := rr.at_ e
    have := y vs (t.sqF h).sq
    rw [ev] at this
    cases this
    exact ⟨r, Stay.refl _ _, Rv.stay t _ _ rv⟩
/-- over a list or a tuple, whichever comes -/
def iSeq (K : PySem.W.Frag) (tl : TE) : TI := fun σ H R => tl σ H fun x H1 => (∃ a, x = .ref a ∧ (∃ xs, SqL K H1 a xs) ∧ R (Itl K a) H1) ∨ ∃ a, x = .ref a ∧ (∃ xs, SqT K H1 a xs) ∧ R (Itt K a) H1
theorem PIorT {tg e : Expr} {tl : TE} (h : PE X e tl) : PI X tg e (iSeq X.K tl) := by
  refine ⟨fun pins s σ H R I q => thn (h.run pins s σ H _ I q) fun u s1 ⟨x, H1, I1, rx, q1⟩ => ?_⟩
  rcases q1 with ⟨a, rfl, ⟨xs, hl⟩, qR⟩ | ⟨a, rfl, ⟨xs, hl⟩, qR⟩
  · cases rx
    have one : PE X e (fun σ' H' Q => Q (.ref a) H1 ∧ σ' = σ ∧ H' = H) → True := fun _ => trivial
    obtain ⟨its, rv, pl, _⟩ := I1.list hl
    refine wpAny_pyIter_list pl.isList ?_
    exact pi_one (tk := s1.toks) I1 { cls := .type "list_iterator", data := .fields #[.ref a, .int 0 0] } (turn_list a _) ⟨_, Heap.get?_push_size _ rfl, rfl, rfl⟩ qR
  · cases rx
    obtain ⟨its, rv, ⟨o, ho, hc, n, hd⟩, _⟩ := I1.tuple hl
    refine wpAny_pyIter_tuple ⟨o, ho, hc, n, hd⟩ ?_
    exact pi_one (tk := s1.toks) I1 { cls := .type "tuple_iterator", data := .fields #[.ref a, .int 0 0] } (turn_tuple a _) ⟨_, Heap.get?_push_size _ rfl, rfl, rfl⟩ qR
theorem id_seq {tg e : Expr} {fa : FE} (ha : PED X e fa) : PID X tg e (dIter fa) := by
  refine ⟨fun W tk => ?_⟩
  obtain ⟨t, p, q⟩ := ha.run W tk
  refine ⟨_, PIorT p, fun H0 α0 σ H α s R r k => q H0 α0 σ H α s _ r ?_⟩
  unfold dIter at k
  cases ea : fa s with
  | bad => rw [ea] at k; exact k.elim
  | exc e s1 => rw [ea] at k; exact k
  | ok d s1 =>
    rw [ea] at k
    intro v H1 α1 r1 t1 rv
    simp only [Res.bind] at k
    cases d <;> simp only [fixSeq] at k <;> try exact k.elim
    · obtain ⟨a, vs, rfl, h1, rr⟩ := asT_ok rv
      exact .inr ⟨a, rfl, ⟨vs, h1⟩, k _ H1 α1 r1 t1 (walk_fixT h1 rr)⟩
    · have rv' : Rv X.K H1 α1 (.lst _) v := rv
      simp only [Rv] at rv'
      obtain ⟨a, vs, rfl, h1, rr⟩ := rv'
      exact .inl ⟨a, rfl, ⟨vs, h1.sq⟩, k _ H1 α1 r1 t1 (walk_fixL h1 rr)⟩
/-- range(n), range(a, b) -/
def rngD (lo : Int) (n : Nat) : List D := (List.range n).map fun i => .int (lo + (i : Nat))
theorem walk_rng {K : PySem.W.Frag} {H : Hp} {α : List Addr} {lo : Int} {n : Nat} : WalkD K (Itr lo n) (rngD lo n) H α := by
  have hl : (rngD lo n).length = n := by simp [rngD]
  refine ⟨fun H' α' t => by rw [hl]; exact Nat.le_refl n, fun H' α' i d t e => ?_, fun H0 α0 H' α' σ s i d x H2 t r e y => ?_⟩
  · have := (List.getElem?_eq_some_iff.mp e).1
    rw [hl] at this
    exact this
  · obtain ⟨rfl, rfl⟩ := y
    refine ⟨r, Stay.refl _ _, ?_⟩
    unfold rngD at e
    rw [List.getElem?_map] at e
    cases er : (List.range n)[i]? with
    | none => rw [er] at e; cases e
    | some j =>
      rw [er] at e
      have hj := List.getElem?_range (n := n) (i := i) (by
        have := (List.getElem?_eq_some_iff.mp er).1
        simpa using this)
      rw [hj] at er
      cases er
      cases e
      simp only [Rv]
def smallI (i : Int) : Bool := decide (-(2 ^ 62) ≤ i) && decide (i < 2 ^ 62)
def dRng1 (fa : FA) : FA := fun s => (fa s).bind fun ds s1 => match ds with | [.int j] => if smallI j then .ok (rngD 0 j.toNat) s1 else .bad | _ => .bad
def dRng2 (fa : FA) : FA := fun s => (fa s).bind fun ds s1 => match ds with | [.int i, .int j] => if smallI i && smallI j then .ok (rngD i (j - i).toNat) s1 else .bad | _ => .bad
theorem id_rng1 {tg a : Expr} {p pos : Pos} {fa : FA} (hg : Gl X "range") (hm : X.mg "range" = none) (ha : PAD X [a] fa) (hs : starEach [a] X.env = [(false, eval a X.env)] := by rfl) : PID X tg (.Call (.Name "range" p) [a] [] pos) (dRng1 fa) := by
  refine ⟨fun W tk => ?_⟩
  obtain ⟨t, pa, q⟩ := ha.run W tk
  refine ⟨_, pi_range1 hg hm pa hs, fun H0 α0 σ H α s R r k => q H0 α0 σ H α s _ r ?_⟩
  unfold dRng1 at k
  cases ea : fa s with
  | bad => rw [ea] at k; exact k.elim
  | exc e s1 => rw [ea] at k; exact k
  | ok ds s1 =>
    rw [ea] at k
    intro vs H1 α1 r1 t1 rv
    simp only [Res.bind] at k
    split at k
    · split at k
      · rename_i j hj
        unfold smallI at hj
        rw [Bool.and_eq_true] at hj
        cases rv with
        | cons ra rb =>
          cases rb
          exact ⟨j, by rw [rx_int ra], of_decide_eq_true hj.1, of_decide_eq_true hj.2, k _ H1 α1 r1 t1 walk_rng⟩
      · exact k.elim
    · exact k.elim
theorem id_rng2 {tg a b : Expr} {p pos : Pos} {fa : FA} (hg : Gl X "range") (hm : X.mg "range" = none) (ha : PAD X [a, b] fa) (hs : starEach [a, b] X.env = [(false, eval a X.env), (false, eval b X.env)] := by rfl) (hs2 : starEach [b] X.env = [(false, eval b X.env)] := by rfl) : PID X tg (.Call (.Name "range" p) [a, b] [] pos) (dRng2 fa) := by
  refine ⟨fun W tk => ?_⟩
  obtain ⟨t, pa, q⟩ := ha.run W tk
  refine ⟨_, pi_range2 hg hm pa hs hs2, fun H0 α0 σ H α s R r k => q H0 α0 σ H α s _ r ?_⟩
  unfold dRng2 at k
  cases ea : fa s with
  | bad => rw [ea] at k; exact k.elim
  | exc e s1 => rw [ea] at k; exact k
  | ok ds s1 =>
    rw [ea] at k
    intro vs H1 α1 r1 t1 rv
    simp only [Res.bind] at k
    split at k
    · split at k
      · rename_i i j hj
        unfold smallI at hj
        simp only [Bool.and_eq_true, decide_eq_true_eq] at hj
        cases rv with
        | cons ra rb =>
          cases rb with
          | cons rb rc =>
            cases rc
            exact ⟨i, j, by rw [rx_int ra, rx_int rb], ⟨hj.1.1, hj.1.2, hj.2.1, hj.2.2⟩, k _ H1 α1 r1 t1 walk_rng⟩
      · exact k.elim
    · exact k.elim
end
end DL

namespace DL
open PySem PySem.Spec PyProof.Rows L2
variable [DLX]
/-! ### 20. Defs: what one promises, its body, its call -/
structure StayC (H : Hp) (α : List Addr) (H' : Hp) (α' : List Addr) : Prop where
  st : Stay H α H' α'
  ot : ∀ a o, H a = some o → a ∉ α → H' a = some o
  nw : ∀ a ∈ α', a ∈ α ∨ H a = none
def PostC (K : PySem.W.Frag) (H : Hp) (α : List Addr) (Q : VK) (E : XK) : CR → Prop
  | .ok d μ' => ∀ v H' α', StayC H α H' α' → RelC K H' α' μ' → Rv K H' α' d v → Q v H'
  | .okc c μ' => ∀ a H' α', StayC H α H' α' → RelC K H' α' μ' → CellOk K H' α' a c → a ∉ α' → H a = none → Q (.ref a) H'
  | .exc e μ' => ∀ cls dd H' α', StayC H α H' α' → RelC K H' α' μ' → ExR K H' α' e cls dd → E cls dd H'
  | .bad => False
/-- the promise of a def of n parameters that does what F does -/
def spD (K : PySem.W.Frag) (n : Nat) (F : FF) : Sp := fun vs H Q E => vs.length = n ∧ ∃ α ds μ, RelC K H α μ ∧ Rvs K H α ds vs ∧ PostC K H α Q E (F ds μ)
/-- the body's run: N slots, the arguments first -/
def runF (f : FS) (N : Nat) : FF := fun ds μ => match f ⟨ds.map .val ++ List.replicate (N - ds.length) .no, μ⟩ with
  | .nx s => .ok .non s.μ
  | .rt d s => .ok d s.μ
  | .rtc c s => .okc c s.μ
  | .exc e s => .exc e s.μ
  | _ => .bad
section
variable {K : PySem.W.Frag}
theorem Rel.start {H : Hp} {α : List Addr} {μ : List Cell} {ds : List D} {vs : List V} {N : List Str} (rc : RelC K H α μ) (rr : Rvs K H α ds vs) : Rel K H α H α (start N vs) ⟨ds.map .val ++ List.replicate (N.length - ds.length) .no, μ⟩ := by
  have hl := rr.length
  refine ⟨rc, ⟨by simp [L2.start, hl], fun i d e => ?_, fun i c e => ?_, fun i j c c' a e => ?_⟩, fun _ _ h _ => h, fun _ h => .inl h, Stay.refl _ _⟩
  · unfold L2.start
    by_cases hi : i < ds.length
    · rw [List.getElem?_append_left (by simpa using hi), List.getElem?_map] at e
      cases ed : ds[i]? with
      | none => rw [ed] at e; cases e
      | some x =>
        rw [ed] at e
        cases e
        obtain ⟨v, ev, rv⟩ := rr.at_ ed
        exact ⟨v, by rw [List.getElem?_append_left (by simpa [hl] using hi), List.getElem?_map, ev]; rfl, rv⟩
    · rw [List.getElem?_append_right (by simpa using hi), List.getElem?_replicate] at e
      split at e <;> cases e
  all_goals
    by_cases hi : i < ds.length
    · rw [List.getElem?_append_left (by simpa using hi), List.getElem?_map] at e
      cases ed : ds[i]? with
      | none => rw [ed] at e; cases e
      | some x => rw [ed] at e; cases e
    · rw [List.getElem?_append_right (by simpa using hi), List.getElem?_replicate] at e
      split at e <;> cases e
theorem Rel.stayC {H0 H : Hp} {α0 α : List Addr} {σ : Sg} {s : S} (r : Rel K H0 α0 H α σ s) : StayC H0 α0 H α := ⟨r.st, r.ot, r.nw⟩
/-- behind a call -/
theorem Rel.after {H0 H H' : Hp} {α0 α α' : List Addr} {σ : Sg} {s : S} {μ' : List Cell} (r : Rel K H0 α0 H α σ s) (t : StayC H α H' α') (c : RelC K H' α' μ') : Rel K H0 α0 H' α' σ { s with μ := μ' } := by
  refine ⟨c, ⟨r.slots.len, fun i d e => ?_, fun i x e => ?_, r.slots.inj⟩, fun a o h n => ?_, fun a h => ?_, r.st.trans t.st⟩
  · obtain ⟨v, e1, e2⟩ := r.slots.val i d e
    exact ⟨v, e1, Rv.stay t.st _ _ e2⟩
  · obtain ⟨a, e1, e2, e3, e4⟩ := r.slots.own i x e
    refine ⟨a, e1, fun z => ?_, e3, e4.stay t.st (fun o h _ => t.ot a o h e2)⟩
    rcases t.nw a z with z | z
    · exact e2 z
    · obtain ⟨o, h⟩ := e4.some
      rw [z] at h
      cases h
  · refine t.ot a o (r.ot a o h n) fun z => ?_
    rcases r.nw a z with z | z
    · exact n z
    · rw [z] at h; cases h
  · rcases t.nw a h with z | z
    · exact r.nw a z
    · exact .inr (r.st.dom a z)
end
/-- a def's promise kept wherever no guard stands on the stack (so that what is shown of data can be told) -/
structure FnG (P : Program) (w : World) (K : PySem.W.Frag) (mg : Str → Option Value) (base : Heap) (k : Nat) (f : Addr) (fd : FuncData) (ps : List Str) (sp : Sp) : Prop where
  len : ∀ vs H Q E, sp vs H Q E → vs.length = ps.length
  run : ∀ (A : Around) (out : List Env) (s : Shared) (H : Hp) (args : Args) (us : List Value) (vs : List V) (Q : VK) (E : XK), Room k A → A.guards = some [] → Env0 P w K mg base A out s H → BindsTo s fd args (ps.zip us) → Vals vs us → sp vs H Q E →
    codeAny (model P w) A (.call (.ref f) args) (L2.CR (L2.CX P w) out P w H s Q E) s
theorem FnG.imp {P : Program} {w : World} {K : PySem.W.Frag} {mg : Str → Option Value} {base : Heap} {k : Nat} {f : Addr} {fd : FuncData} {ps : List Str} {sp sp' : Sp} (F : FnG P w K mg base k f fd ps sp) (h : ∀ vs H Q E, sp' vs H Q E → sp vs H Q E) : FnG P w K mg base k f fd ps sp' :=
  ⟨fun vs H Q E q => F.len vs H Q E (h vs H Q E q), fun A out s H args us vs Q E hr hg e0 hb hv q => F.run A out s H args us vs Q E hr hg e0 hb hv (h vs H Q E q)⟩
theorem FnG.mono {P : Program} {w : World} {K : PySem.W.Frag} {mg : Str → Option Value} {base : Heap} {j k : Nat} {f : Addr} {fd : FuncData} {ps : List Str} {sp : Sp} (F : FnG P w K mg base j f fd ps sp) (h : j ≤ k) : FnG P w K mg base k f fd ps sp :=
  ⟨F.len, fun A out s H args us vs Q E hr hg e0 hb hv q => F.run A out s H args us vs Q E (hr.mono h) hg e0 hb hv q⟩
theorem fng_of {P : Program} {w : World} {K : PySem.W.Frag} {mg : Str → Option Value} {base : Heap} {k : Nat} {x qual : Str} {st : Stmt} {f : Addr} {fd : FuncData} {N ps : List Str} {sp : Sp} (F : Fun K x qual st f fd) (S : FnScope N ps (defScope st)) (len : ∀ vs H Q E, sp vs H Q E → vs.length = ps.length)
    (hbody : ∀ (cdv : Value) (A : Around) (out : List Env) (s : Shared) (H : Hp) (vs : List V) (Q : VK) (E : XK), Room k (A.deeper (envOfC qual (defScope st) s.heap.objs.size f cdv)) → A.guards = some [] → sp vs H Q E →
      ∃ t, PSs (cxOf (L2.CX P w) P w K mg base N qual (defScope st) f cdv A out s H E) (defBody st) t ∧ t { nx := fun _ H' => Q .non H', rt := Q } (L2.start N vs) H) : FnG P w K mg base (k + 1) f fd ps sp := by
  obtain ⟨oc, od, kV, doc, pm, an, cdv, ct, osl, efd, lk, hcd⟩ := F.ex
  subst efd
  refine ⟨len, ?_⟩
  intro A out s H args us vs Q E hr hg e0 hb rv hsp
  have inK : K.In s.heap := e0.mod.kin.keeps (fun b o e => (e0.bs b o e).1)
  have nolim : s.heap.NoLimit := e0.mod.nolimit.keeps (fun b o e => (e0.bs b o e).1)
  have kinds : ∀ y ∈ ps.zip us, (defScope st).names.lookup y.1 = some .local ∨ ((defScope st).names.lookup y.1 = some .cell ∧ ((cellsFrom (s.heap.objs.size + 1) (defScope st).names []).lookup y.1).isSome = true) := by
    rintro ⟨n, v⟩ hy
    rcases S.par n (List.of_mem_zip hy).1 with z | z
    · exact .inl z
    · exact .inr ⟨z, PySem.W.cellsFrom_some _ _ _ (.inl z)⟩
  refine codeAny_call_function hr.depth (inK _ _ lk) rfl S.co S.gen rfl (PySem.W.codeRec_of inK hcd) (hb _ _ _ _ ?_)
  refine wpAny_newFunctionEnv_cells S.kind kinds ?_
  intro fenv env s1 ic
  subst env
  refine ⟨nolim.keeps ic.toInCall.keep, codeAny_func ?_⟩
  obtain ⟨t, pt, qt⟩ := hbody cdv A out s H vs Q E (hr.deeper _) hg hsp
  have I := inv_start (CX := L2.CX P w) (E := E) (cd := cdv) (f := f) (qual := qual) S hr.hd e0 (len _ _ _ _ hsp) rv ic
  have ends : ∀ {σ' : Sg} {H' : Hp} {s' : Shared} {v : V} {u : Value}, Inv (cxOf (L2.CX P w) P w K mg base N qual (defScope st) f cdv A out s H E) [] σ' H' s' → RelV v u → Q v H' → CE out P w H s Q u s' := by
    intro σ' H' s' v u J r q
    exact ⟨v, H', J.os, J.bare, J.base, J.hok, r, q⟩
  refine wpAny_mono (pt.run [] s1 (L2.start N vs) H _ I qt) ?_ (fun e s' z => z)
  intro fl s' z
  cases fl with
  | next =>
    obtain ⟨σ', H', J, q⟩ := z
    exact ends (v := .non) (u := .none) J rfl q
  | brk =>
    obtain ⟨_, _, _, q⟩ := z
    exact q.elim
  | cont =>
    obtain ⟨_, _, _, q⟩ := z
    exact q.elim
  | ret u =>
    obtain ⟨v, σ', H', J, r, q⟩ := z
    exact ends J r q
section
variable {X : Cx} {k : Nat} {f : Addr} {fd : FuncData} {ps : List Str} {sp : Sp} {E : Sg → XK} {x : Str} {p pos : Pos} {e : Expr} {es : List Expr} {t : TA}
theorem run_fnG {pins : List (Addr × Obj)} {σ : Sg} {H : Hp} {s : Shared} {Q : VK} {us : List Value} {vs : List V} (F : FnG X.prog X.w X.K X.mg X.base k f fd ps sp) (hr : Room k X.A) (hg : X.A.guards = some []) (hb : Binds X.K fd ps []) (hx : PassesAt (L2.CX X.prog X.w) X σ (E σ))
    (I : Inv X pins σ H s) (r : Vals vs us) (h : sp vs H Q (E σ)) : wpAny (model X.prog X.w) X.A (call (.ref f) us) (EP X pins σ Q) X.xe s := by
  have nl : (us ++ ([] : List Value)).length = ps.length := by
    rw [List.append_nil, ← r.length]
    exact F.len vs H Q (E σ) h
  have bt := hb s us I.kIn nl
  rw [List.append_nil] at bt
  refine wpAny_call (codeAny_mono (F.run X.A X.stack s H ⟨us, []⟩ us vs Q (E σ) hr hg I.env0 bt r h) ?_)
  rintro (er | fl) s' z
  · exact hx pins H s er s' I z
  · cases fl with
    | ret u => exact I.after z
    | next => exact z.elim
    | brk => exact z.elim
    | cont => exact z.elim
theorem pe_callG (F : FnG X.prog X.w X.K X.mg X.base k f fd ps sp) (hr : Room k X.A) (hgu : X.A.guards = some []) (hg : Gl X x) (hm : X.mg x = some (.ref f)) (hk : PySem.W.keepIn X.K (.ref f) = true) (hb : Binds X.K fd ps []) (hx : ∀ σ, PassesAt (L2.CX X.prog X.w) X σ (E σ))
    (ha : PA X (e :: es) t) (hdb : (x == ("__debug__" : Str)) = false := by decide) (he : starEach (e :: es) X.env = (false, eval e X.env) :: starEach es X.env := by rfl) (hpl : (backTo pos (starEach es X.env)).any (·.1) = false := by rfl) :
    PE X (.Call (.Name x p) (e :: es) [] pos) (tCallS sp E t) := by
  constructor
  intro pins s σ H Q I h
  refine wpAny_Call_Name_kw (ld_glob I hg hm (PySem.W.callWith_K (h₀ := X.base) I.ok.mod.kin hk (thn (ha.run pos pins s σ H _ I h) ?_) he hpl) hdb)
  rintro us s1 ⟨vs, H1, I1, r, q⟩
  exact ⟨I1.kIn, run_fnG F hr hgu hb (hx σ) I1 r q⟩
end
/-- what a written def is: at f, with its data, the level k -/
structure FnD (P : Program) (w : World) (K : PySem.W.Frag) (mg : Str → Option Value) (base : Heap) (x : Str) (k : Nat) (n : Nat) (F : FF) : Prop where
  ex : ∃ f fd ps, mg x = some (.ref f) ∧ PySem.W.keepIn K (.ref f) = true ∧ FnG P w K mg base k f fd ps (spD K n F) ∧ Binds K fd ps []
/-- a promise that says less -/
theorem spD.imp {K : PySem.W.Frag} {n : Nat} {F G : FF} (h : ∀ ds μ, ds.length = n → G ds μ ≠ .bad → F ds μ = G ds μ) : ∀ vs H Q E, spD K n G vs H Q E → spD K n F vs H Q E := fun vs H Q E ⟨hl, α, ds, μ, rc, rr, q⟩ => by
  refine ⟨hl, α, ds, μ, rc, rr, ?_⟩
  rw [h ds μ (by rw [← rr.length]; exact hl) (fun z => by rw [z] at q; exact q)]
  exact q
theorem FnD.imp {P : Program} {w : World} {K : PySem.W.Frag} {mg : Str → Option Value} {base : Heap} {x : Str} {k n : Nat} {F G : FF} (f : FnD P w K mg base x k n F) (h : ∀ ds μ, ds.length = n → G ds μ ≠ .bad → F ds μ = G ds μ) : FnD P w K mg base x k n G := by
  obtain ⟨a, fd, ps, h1, h2, h3, h4⟩ := f.ex
  exact ⟨a, fd, ps, h1, h2, h3.imp (spD.imp h), h4⟩
theorem FnD.mono {P : Program} {w : World} {K : PySem.W.Frag} {mg : Str → Option Value} {base : Heap} {x : Str} {j k n : Nat} {F : FF} (f : FnD P w K mg base x j n F) (h : j ≤ k) : FnD P w K mg base x k n F := by
  obtain ⟨a, fd, ps, h1, h2, h3, h4⟩ := f.ex
  exact ⟨a, fd, ps, h1, h2, h3.mono h, h4⟩
/-- the context of a def's body -/
structure BodyX (P : Program) (w : World) (K : PySem.W.Frag) (mg : Str → Option Value) (base : Heap) (N : List Str) (sc : Scope) (k : Nat) (X : Cx) : Prop where
  prog : X.prog = P
  w : X.w = w
  K : X.K = K
  mg : X.mg = mg
  base : X.base = base
  room : Room k X.A
  gu : X.A.guards = some []
/-- THE RULE for a def: its body does what g does, in whatever context -/
theorem fnD {P : Program} {w : World} {K : PySem.W.Frag} {mg : Str → Option Value} {base : Heap} {x qual : Str} {st : Stmt} {f : Addr} {fd : FuncData} {N ps : List Str} {k : Nat} (F : Fun K x qual st f fd) (hm : mg x = some (.ref f)) (hb : Binds K fd ps []) (S : FnScope N ps (defScope st))
    (G : FF) (hbody : ∀ (cdv : Value) (A : Around) (outer : List Env) (s : Shared) (H : Hp) (E : XK), Room k (A.deeper (envOfC qual (defScope st) s.heap.objs.size f cdv)) → A.guards = some [] →
      ∀ ds μ, ds.length = ps.length → G ds μ ≠ .bad → ∃ g, PSsD (cxOf (L2.CX P w) P w K mg base N qual (defScope st) f cdv A outer s H E) (defBody st) g ∧ runF g N.length ds μ = G ds μ) : FnD P w K mg base x (k + 1) ps.length G := by
  refine ⟨f, fd, ps, hm, F.kp, fng_of F S (fun vs H Q E h => h.1) (fun cdv A outer s H vs Q E hr hgu h => ?_), hb⟩
  obtain ⟨hl, α, ds, μ, rc, rr, q⟩ := h
  have hld : ds.length = ps.length := by rw [← rr.length]; exact hl
  obtain ⟨g, hg, eg⟩ := hbody cdv A outer s H E hr hgu ds μ hld (fun z => by rw [z] at q; exact q)
  have tk : Takes (cxOf (L2.CX P w) P w K mg base N qual (defScope st) f cdv A outer s H E) (fun cls d _ H' => E cls d H') := takes_of (E := E) (E₁ := fun e' s'' => L2.CX P w outer H s E e' s'') rfl rfl rfl rfl
  obtain ⟨t, pt, qt⟩ := hg.run _ tk
  refine ⟨t, pt, qt H α (start N vs) H α _ _ (Rel.start rc rr) ?_⟩
  rw [← eg] at q
  unfold runF at q
  cases e : g ⟨ds.map .val ++ List.replicate (N.length - ds.length) .no, μ⟩ <;> rw [e] at q <;> simp only at q
  · exact fun σ' H' α' r' _ => q .non H' α' r'.stayC r'.cells (by simp only [Rv])
  · exact fun v σ' H' α' r' rv => q v H' α' r'.stayC r'.cells rv
  · exact fun a σ' H' α' r' rf => q a H' α' r'.stayC r'.cells rf.1 rf.2.1 rf.2.2.1
  · exact q.elim
  · exact q.elim
  · exact fun cls dd σ' H' α' r' x => q cls dd H' α' r'.stayC r'.cells x
  · exact q.elim
/-! calls -/
def dCall (F : FF) (fa : FA) : FE := fun s => (fa s).bind fun ds s1 => if ds.all noOwn then (match F ds s1.μ with
  | .ok d μ' => .ok d { s1 with μ := μ' }
  | .exc e μ' => .exc e { s1 with μ := μ' }
  | _ => .bad) else .bad
def dCallF (F : FF) (fa : FA) : FC := fun s => (fa s).bind fun ds s1 => if ds.all noOwn then (match F ds s1.μ with
  | .okc c μ' => .ok c { s1 with μ := μ' }
  | .exc e μ' => .exc e { s1 with μ := μ' }
  | _ => .bad) else .bad
section
variable {X : Cx} {x : Str} {k n : Nat} {F : FF} {p pos : Pos}
theorem call_core {es : List Expr} {fa : FA} {W : WX} {t : TA} {α0 : List Addr} {H0 : Hp} (qa : ∀ H0 α0 σ H α s Q, Rel X.K H0 α0 H α σ s → PostA X.K H0 α0 σ W H α Q (fa s) → t σ H Q) (hn : n = es.length) (hlen : ∀ s ds s1, fa s = .ok ds s1 → ds.length = es.length)
    {σ : Sg} {H : Hp} {α : List Addr} {s : S} {Q : VK} (r : Rel X.K H0 α0 H α σ s) (q : PostE X.K H0 α0 σ W H α Q (dCall F fa s)) : tCallS (spD X.K n F) (WE W) t σ H Q := by
  refine qa H0 α0 σ H α s _ r ?_
  unfold dCall at q
  cases ea : fa s with
  | bad => rw [ea] at q; exact q.elim
  | exc e s1 => rw [ea] at q; exact q
  | ok ds s1 =>
    rw [ea] at q
    intro vs H1 α1 r1 t1 rv
    simp only [Res.bind] at q
    split at q
    · rename_i hno
      have rr := rv.rvs hno
      refine ⟨by rw [rr.length, hlen _ _ _ ea, hn], α1, ds, s1.μ, r1.cells, rr, ?_⟩
      cases eF : F ds s1.μ <;> rw [eF] at q <;> simp only at q
      · exact fun v H' α' tc c rv => q v H' α' (r1.after tc c) (t1.trans tc.st) (Rv.x rv)
      · exact q.elim
      · exact fun cls dd H' α' tc c x => q cls dd H' α' (r1.after tc c) x
      · exact q.elim
    · exact q.elim
theorem call_coreF {es : List Expr} {fa : FA} {W : WX} {t : TA} {α0 : List Addr} {H0 : Hp} (qa : ∀ H0 α0 σ H α s Q, Rel X.K H0 α0 H α σ s → PostA X.K H0 α0 σ W H α Q (fa s) → t σ H Q) (hn : n = es.length) (hlen : ∀ s ds s1, fa s = .ok ds s1 → ds.length = es.length)
    {σ : Sg} {H : Hp} {α : List Addr} {s : S} {Q : VK} (r : Rel X.K H0 α0 H α σ s) (q : PostF X.K H0 α0 σ W H α Q (dCallF F fa s)) : tCallS (spD X.K n F) (WE W) t σ H Q := by
  refine qa H0 α0 σ H α s _ r ?_
  unfold dCallF at q
  cases ea : fa s with
  | bad => rw [ea] at q; exact q.elim
  | exc e s1 => rw [ea] at q; exact q
  | ok ds s1 =>
    rw [ea] at q
    intro vs H1 α1 r1 t1 rv
    simp only [Res.bind] at q
    split at q
    · rename_i hno
      have rr := rv.rvs hno
      refine ⟨by rw [rr.length, hlen _ _ _ ea, hn], α1, ds, s1.μ, r1.cells, rr, ?_⟩
      cases eF : F ds s1.μ <;> rw [eF] at q <;> simp only at q
      · exact q.elim
      · rename_i c μ'
        intro a H' α' tc cc hc na hn
        refine q a H' α' (r1.after tc cc) (t1.trans tc.st) ⟨hc, na, r1.free0 hn, fun i c' e1 e2 => ?_⟩
        obtain ⟨b, e3, e4, e5, e6⟩ := r1.slots.own i c' e1
        rw [e2] at e3
        cases e3
        obtain ⟨o, h⟩ := e6.some
        rw [hn] at h
        cases h
      · exact fun cls dd H' α' tc c x => q cls dd H' α' (r1.after tc c) x
      · exact q.elim
    · exact q.elim
/-- a list of arguments has their number -/
structure PALen (es : List Expr) (fa : FA) : Prop where
  len : ∀ s ds s1, fa s = .ok ds s1 → ds.length = es.length
theorem al_n : PALen [] dNil := ⟨fun s ds s1 h => by cases h; rfl⟩
theorem al_c {e : Expr} {es : List Expr} {fa : FE} {fr : FA} (h : PALen es fr) : PALen (e :: es) (dCons fa fr) := ⟨fun s ds s1 q => by
  unfold dCons at q
  cases ea : fa s with
  | bad => rw [ea] at q; cases q
  | exc e s1 => rw [ea] at q; cases q
  | ok d s2 =>
    rw [ea] at q
    simp only [Res.bind] at q
    cases er : fr s2 with
    | bad => rw [er] at q; cases q
    | exc e s1 => rw [er] at q; cases q
    | ok ds2 s3 =>
      rw [er] at q
      cases q
      simp [h.len _ _ _ er]⟩
theorem pd_call {e : Expr} {es : List Expr} {fa : FA} (f : FnD X.prog X.w X.K X.mg X.base x k n F) (hr : Room k X.A) (hgu : X.A.guards = some []) (hg : Gl X x) (ha : PAD X (e :: es) fa) (hl : PALen (e :: es) fa) (hn : n = (e :: es).length := by rfl) (hdb : (x == ("__debug__" : Str)) = false := by decide)
    (he : starEach (e :: es) X.env = (false, eval e X.env) :: starEach es X.env := by rfl) (hpl : (backTo pos (starEach es X.env)).any (·.1) = false := by rfl) : PED X (.Call (.Name x p) (e :: es) [] pos) (dCall F fa) := by
  obtain ⟨a, fd, ps, h1, h2, h3, h4⟩ := f.ex
  refine ⟨fun W tk => ?_⟩
  obtain ⟨t, pa, qa⟩ := ha.run W tk
  exact ⟨_, pe_callG h3 hr hgu hg h1 h2 h4 (fun σ => passAt tk σ) pa hdb he hpl, fun H0 α0 σ H α s Q r q => call_core qa hn hl.len r q⟩
theorem pf_call {e : Expr} {es : List Expr} {fa : FA} (f : FnD X.prog X.w X.K X.mg X.base x k n F) (hr : Room k X.A) (hgu : X.A.guards = some []) (hg : Gl X x) (ha : PAD X (e :: es) fa) (hl : PALen (e :: es) fa) (hn : n = (e :: es).length := by rfl) (hdb : (x == ("__debug__" : Str)) = false := by decide)
    (he : starEach (e :: es) X.env = (false, eval e X.env) :: starEach es X.env := by rfl) (hpl : (backTo pos (starEach es X.env)).any (·.1) = false := by rfl) : PFD X (.Call (.Name x p) (e :: es) [] pos) (dCallF F fa) := by
  obtain ⟨a, fd, ps, h1, h2, h3, h4⟩ := f.ex
  refine ⟨fun W tk => ?_⟩
  obtain ⟨t, pa, qa⟩ := ha.run W tk
  exact ⟨_, pe_callG h3 hr hgu hg h1 h2 h4 (fun σ => passAt tk σ) pa hdb he hpl, fun H0 α0 σ H α s Q r q => call_coreF qa hn hl.len r q⟩
end
/-! ### 21. Calls of built-ins -/
/-- the built-in f does g: over the machine -/
def BI (X : Cx) (f : Value) (g : S → List D → Option D) : Prop :=
  ∀ (pins : List (Addr × Obj)) (s : Shared) (σ0 : Sg) (H : Hp) (xs : List V) (us : List Value) (Q : VK) (H0 : Hp) (σ : Sg) (α0 α : List Addr) (st : S) (ds : List D) (d : D), Inv X pins σ0 H s → Rel X.K H0 α0 H α σ st → Rxs X.K H α σ ds xs → Vals xs us → g st ds = some d →
    (∀ v H' α', Rel X.K H0 α0 H' α' σ st → Stay H α H' α' → Rx X.K H' α' σ d v → Q v H') → wpAny (model X.prog X.w) X.A (call f us) (EP X pins σ0 Q) X.xe s
def rBI (K : PySem.W.Frag) (g : S → List D → Option D) : List V → Hp → VK → Prop := fun xs H Q => ∃ H0 σ α0 α st ds d, Rel K H0 α0 H α σ st ∧ Rxs K H α σ ds xs ∧ g st ds = some d ∧ ∀ v H' α', Rel K H0 α0 H' α' σ st → Stay H α H' α' → Rx K H' α' σ d v → Q v H'
theorem BI.call {X : Cx} {f : Value} {g : S → List D → Option D} (h : BI X f g) : CallR X f (rBI X.K g) := fun pins s σ0 H xs us Q I rv ⟨H0, σ, α0, α, st, ds, d, rl, rx, eg, q⟩ => h pins s σ0 H xs us Q H0 σ α0 α st ds d I rl rx rv eg q
/-- from a rule by values -/
theorem BI.of {X : Cx} {f : Value} {r : List V → Hp → VK → Prop} {g : S → List D → Option D} (hc : CallR X f r)
    (h : ∀ (H0 : Hp) (α0 : List Addr) (σ : Sg) (H : Hp) (α : List Addr) (s : S) (xs : List V) (ds : List D) (d : D) (Q : VK), Rel X.K H0 α0 H α σ s → Rxs X.K H α σ ds xs → g s ds = some d →
      (∀ v H' α', Rel X.K H0 α0 H' α' σ s → Stay H α H' α' → Rx X.K H' α' σ d v → Q v H') → r xs H fun v H1 => Gh H1 (Q v)) : BI X f g :=
  fun pins s σ0 H xs us Q H0 σ α0 α st ds d I rl rx rv eg q => callGh hc pins s σ0 H xs us Q I rv (h H0 α0 σ H α st xs ds d Q rl rx eg q)
theorem BI.or {X : Cx} {f : Value} {g g' : S → List D → Option D} (h : BI X f g) (h' : BI X f g') : BI X f (fun s ds => (g s ds).or (g' s ds)) := fun pins s σ0 H xs us Q H0 σ α0 α st ds d I rl rx rv eg q => by
  dsimp only at eg
  cases e : g st ds with
  | some d' =>
    rw [e] at eg
    obtain rfl : d' = d := Option.some.inj eg
    exact h pins s σ0 H xs us Q H0 σ α0 α st ds d' I rl rx rv e q
  | none =>
    rw [e] at eg
    have eg : g' st ds = some d := eg
    exact h' pins s σ0 H xs us Q H0 σ α0 α st ds d I rl rx rv eg q
def dB (g : S → List D → Option D) (fa : FA) : FE := fun s => (fa s).bind fun ds s1 => match g s1 ds with | some d => .ok d s1 | none => .bad
section
variable {X : Cx} {x : Str} {p pos : Pos} {e : Expr} {es : List Expr} {fa : FA} {g : S → List D → Option D} {id T : String}
theorem bi_core {t : TA} {W : WX} {H0 : Hp} {α0 : List Addr} (qa : ∀ H0 α0 σ H α s Q, Rel X.K H0 α0 H α σ s → PostA X.K H0 α0 σ W H α Q (fa s) → t σ H Q) {σ : Sg} {H : Hp} {α : List Addr} {s : S} {Q : VK} (r : Rel X.K H0 α0 H α σ s) (q : PostE X.K H0 α0 σ W H α Q (dB g fa s)) : tCB (rBI X.K g) t σ H Q := by
  refine qa H0 α0 σ H α s _ r ?_
  unfold dB at q
  cases ea : fa s with
  | bad => rw [ea] at q; exact q.elim
  | exc e s1 => rw [ea] at q; exact q
  | ok ds s1 =>
    rw [ea] at q
    intro vs H1 α1 r1 t1 rv
    simp only [Res.bind] at q
    split at q
    · rename_i d eg
      exact ⟨H0, σ, α0, α1, s1, ds, d, r1, rv, eg, fun v H' α' r' t' rx => q v H' α' r' (t1.trans t') rx⟩
    · exact q.elim
theorem pd_b (hc : BI X (.builtin id) g) (hg : Gl X x) (hm : X.mg x = none) (hv : bootBuiltins x = some (.builtin id)) (ha : PAD X (e :: es) fa) (hn : x ≠ "__name__" := by decide) (hdb : (x == ("__debug__" : Str)) = false := by decide)
    (he : starEach (e :: es) X.env = (false, eval e X.env) :: starEach es X.env := by rfl) (hpl : (backTo pos (starEach es X.env)).any (·.1) = false := by rfl) : PED X (.Call (.Name x p) (e :: es) [] pos) (dB g fa) := by
  refine ⟨fun W tk => ?_⟩
  obtain ⟨t, pa, qa⟩ := ha.run W tk
  exact ⟨_, pe_callB hc.call hg hm hv pa hn hdb he hpl, fun H0 α0 σ H α s Q r q => bi_core qa r q⟩
theorem pd_ty (hc : BI X (.type T) g) (hg : Gl X x) (hm : X.mg x = none) (hv : bootBuiltins x = some (.type T)) (ha : PAD X (e :: es) fa) (hn : x ≠ "__name__" := by decide) (hdb : (x == ("__debug__" : Str)) = false := by decide)
    (he : starEach (e :: es) X.env = (false, eval e X.env) :: starEach es X.env := by rfl) (hpl : (backTo pos (starEach es X.env)).any (·.1) = false := by rfl) : PED X (.Call (.Name x p) (e :: es) [] pos) (dB g fa) := by
  refine ⟨fun W tk => ?_⟩
  obtain ⟨t, pa, qa⟩ := ha.run W tk
  exact ⟨_, pe_callTy hc.call hg hm hv pa hn hdb he hpl, fun H0 α0 σ H α s Q r q => bi_core qa r q⟩
end
end DL

namespace DL
open PySem PySem.Spec PyProof.Rows L2
variable [DLX]
/-! ### 22. The built-ins -/
def gLen : S → List D → Option D := fun s ds => match ds with
  | [.str z] => if z.length ≤ 16777216 then some (.int z.length) else none
  | [d] => (asSeq s d).map fun xs => .int xs.length
  | _ => none
def gAbs : S → List D → Option D := fun _ ds => match ds with | [.int i] => some (.int (if i < 0 then -i else i)) | _ => none
def gMax2 : S → List D → Option D := fun _ ds => match ds with | [.int i, .int j] => some (.int (if j > i then j else i)) | _ => none
def gMin2 : S → List D → Option D := fun _ ds => match ds with | [.int i, .int j] => some (.int (if j < i then j else i)) | _ => none
def gInt : S → List D → Option D := fun _ ds => match ds with | [.int i] => some (.int i) | [.bl b] => some (.int (if b then 1 else 0)) | _ => none
def gTuple : S → List D → Option D := fun s ds => match ds with | [d] => (asSeq s d).map .tup | _ => none
def intD : D → Option Int | .int i => some i | _ => none
def intsD (xs : List D) : Option (List Int) := xs.mapM intD
def gSum : S → List D → Option D := fun s ds => match ds with | [d] => (asL s d).bind fun xs => (intsD xs).map fun ns => .int ns.sum | _ => none
/-- what is shown of data -/
def viaOwn : D → Bool | .own _ | .ref _ => true | _ => false
def shownD (s : S) (d : D) : Option Str := (toPyS s d).bind fun p => if p.showable && ((!viaOwn d && noL d) || !p.hasDict) && decide (p.depth ≤ 60) && decide (p.shown.length ≤ 16777216) then some p.shown else none
def gRepr : S → List D → Option D := fun s ds => match ds with | [d] => (shownD s d).map .str | _ => none
def gStr : S → List D → Option D := fun s ds => match ds with | [.str x] => some (.str x) | [d] => (shownD s d).map .str | _ => none
def tyD (s : S) : D → Option String
  | .non => some "NoneType"
  | .bl _ => some "bool"
  | .int _ => some "int"
  | .str _ => some "str"
  | .tup _ => some "tuple"
  | .lst _ => some "list"
  | .dct _ => some "dict"
  | .own i => (match cellAt s (.own i) with | some (.lst _) => some "list" | some (.dct _) => some "dict" | _ => none)
  | .ref i => (match cellAt s (.ref i) with | some (.lst _) => some "list" | some (.dct _) => some "dict" | _ => none)
  | _ => none
def gIsi : S → List D → Option D := fun s ds => match ds with | [d, .ty n] => (tyD s d).bind fun t => (kitB t n).map .bl | _ => none
def truthP (s : S) (xs : List D) : Option (List PyData) := (toPyL xs).bind fun ps => if PyData.plainAll ps && ps.all (fun p => match p with | .str x => decide (x.length ≤ 16777216) | .list l => decide (l.length ≤ 16777216) | .tuple l => decide (l.length ≤ 16777216) | _ => true) then some ps else none
def gAll : S → List D → Option D := fun s ds => match ds with | [d] => (asL s d).bind fun xs => (truthP s xs).map fun ps => .bl (ps.all PyData.truthy) | _ => none
def gAny : S → List D → Option D := fun s ds => match ds with | [d] => (asL s d).bind fun xs => (truthP s xs).map fun ps => .bl (ps.any PyData.truthy) | _ => none
section
variable {X : Cx}
theorem Rxs.one {K : PySem.W.Frag} {H : Hp} {α : List Addr} {σ : Sg} {d : D} {vs : List V} (h : Rxs K H α σ [d] vs) : ∃ v, vs = [v] ∧ Rx K H α σ d v := by
  cases h with
  | cons a b => cases b; exact ⟨_, rfl, a⟩
theorem Rxs.two {K : PySem.W.Frag} {H : Hp} {α : List Addr} {σ : Sg} {d e : D} {vs : List V} (h : Rxs K H α σ [d, e] vs) : ∃ v w, vs = [v, w] ∧ Rx K H α σ d v ∧ Rx K H α σ e w := by
  cases h with
  | cons a b =>
    obtain ⟨w, rfl, q⟩ := Rxs.one b
    exact ⟨_, w, rfl, a, q⟩
theorem bi_len : BI X (.builtin "len") gLen := .of L2.call_len fun H0 α0 σ H α s xs ds d Q r rx e q => by
  unfold gLen at e
  split at e
  · obtain ⟨v, rfl, rv⟩ := rx.one
    split at e
    · rename_i hz
      rw [← sizeLine_eq] at hz
      cases e
      rw [rx_str rv]
      exact ⟨_, _, rfl, ⟨hz, rfl⟩, .inl (q _ _ _ r (Stay.refl _ _) ox_int)⟩
    · cases e
  · obtain ⟨v, rfl, rv⟩ := rx.one
    simp only [Option.map_eq_some_iff] at e
    obtain ⟨ys, e, rfl⟩ := e
    obtain ⟨a, vs, rfl, hs, rr⟩ := asSeq_ok r rv e
    refine ⟨_, ys.length, rfl, ?_, .inl (q _ _ _ r (Stay.refl _ _) ox_int)⟩
    rcases hs with hs | hs
    · exact .inl ⟨vs, hs, rr.length.symm⟩
    · exact .inr ⟨vs, hs, rr.length.symm⟩
  · cases e
theorem bi_abs : BI X (.builtin "abs") gAbs := .of L2.call_abs fun H0 α0 σ H α s xs ds d Q r rx e q => by
  unfold gAbs at e
  split at e
  · obtain ⟨v, rfl, rv⟩ := rx.one
    cases e
    rw [rx_int rv]
    exact ⟨_, rfl, .inl (q _ _ _ r (Stay.refl _ _) ox_int)⟩
  · cases e
theorem bi_max2 (hc : X.calm = true) : BI X (.builtin "max") gMax2 := .of (L2.call_max2 hc) fun H0 α0 σ H α s xs ds d Q r rx e q => by
  unfold gMax2 at e
  split at e
  · obtain ⟨v, w, rfl, rv, rw⟩ := rx.two
    cases e
    rw [rx_int rv, rx_int rw]
    exact ⟨_, _, rfl, .inl (q _ _ _ r (Stay.refl _ _) ox_int)⟩
  · cases e
theorem bi_min2 (hc : X.calm = true) : BI X (.builtin "min") gMin2 := .of (L2.call_min2 hc) fun H0 α0 σ H α s xs ds d Q r rx e q => by
  unfold gMin2 at e
  split at e
  · obtain ⟨v, w, rfl, rv, rw⟩ := rx.two
    cases e
    rw [rx_int rv, rx_int rw]
    exact ⟨_, _, rfl, .inl (q _ _ _ r (Stay.refl _ _) ox_int)⟩
  · cases e
theorem bi_int : BI X (.type "int") gInt := .of L2.call_int1 fun H0 α0 σ H α s xs ds d Q r rx e q => by
  unfold gInt at e
  split at e
  · obtain ⟨v, rfl, rv⟩ := rx.one
    cases e
    rw [rx_int rv]
    exact .inl ⟨_, rfl, .inl (q _ _ _ r (Stay.refl _ _) ox_int)⟩
  · obtain ⟨v, rfl, rv⟩ := rx.one
    cases e
    rw [rx_bl rv]
    exact .inr ⟨_, rfl, .inl (q _ _ _ r (Stay.refl _ _) ox_int)⟩
  · cases e
theorem bi_tuple : BI X (.type "tuple") gTuple := .of L2.call_tuple_of fun H0 α0 σ H α s xs ds d Q r rx e q => by
  unfold gTuple at e
  split at e
  · rename_i dd
    obtain ⟨v, rfl, rv⟩ := rx.one
    simp only [Option.map_eq_some_iff] at e
    obtain ⟨ys, e, rfl⟩ := e
    have key : ∀ d, asL s d = some ys → Rx X.K H α σ d v → ∃ p ys', [v] = [V.ref p] ∧ ((SqL X.K H p ys' ∧ ∀ l, H l = none → Gh (upd H l (.tup ys')) (Q (.ref l))) ∨ (SqT X.K H p ys' ∧ Gh H (Q (.ref p)))) := fun d e rv => by
      obtain ⟨a, vs, rfl, hs, rr⟩ := asL_ok r rv e
      exact ⟨a, vs, rfl, .inl ⟨hs, fun l hl => .inl (new_tup r hl rr q)⟩⟩
    unfold asSeq at e
    split at e
    · cases e
      obtain ⟨a, vs, rfl, hs, rr⟩ := asT_ok rv
      exact ⟨a, vs, rfl, .inr ⟨hs, .inl (q _ _ _ r (Stay.refl _ _) rv)⟩⟩
    · exact key _ e rv
  · cases e
theorem rvs_ints {K : PySem.W.Frag} {H : Hp} {α : List Addr} : ∀ (ys : List D) {ns : List Int} {vs : List V}, intsD ys = some ns → Rvs K H α ys vs → vs = ns.map V.int
  | [], ns, vs, e, r => by
    unfold intsD at e
    simp only [List.mapM_nil, Option.pure_def, Option.some.injEq] at e
    subst e
    show vs = []
    simpa only [Rvs] using r
  | y :: ys, ns, vs, e, r => by
    unfold intsD at e
    rw [List.mapM_cons] at e
    simp only [Option.bind_eq_bind, Option.bind_eq_some_iff, Option.pure_def, Option.some.injEq] at e
    obtain ⟨i, ei, ns2, e3, rfl⟩ := e
    simp only [Rvs] at r
    obtain ⟨v, r2, rfl, h1, h2⟩ := r
    have := rvs_ints ys (ns := ns2) e3 h2
    subst this
    unfold intD at ei
    split at ei
    · cases ei
      simp only [Rv] at h1
      subst h1
      rfl
    · cases ei
theorem bi_sum (hc : X.calm = true) : BI X (.builtin "sum") gSum := .of (L2.cr_sum hc) fun H0 α0 σ H α s xs ds d Q r rx e q => by
  unfold gSum at e
  split at e
  · obtain ⟨v, rfl, rv⟩ := rx.one
    simp only [Option.bind_eq_some_iff, Option.map_eq_some_iff] at e
    obtain ⟨ys, e1, ns, e2, rfl⟩ := e
    obtain ⟨a, vs, rfl, hs, rr⟩ := asL_ok r rv e1
    obtain rfl := rvs_ints ys e2 rr
    exact ⟨a, ns, rfl, hs, .inl (q _ _ _ r (Stay.refl _ _) ox_int)⟩
  · cases e
theorem hreads {pins : List (Addr × Obj)} {s : Shared} {σ0 σ : Sg} {H H0 : Hp} {α0 α : List Addr} {st : S} {d : D} {v : V} {u : Value} {p : PyData} (I : Inv X pins σ0 H s) (rl : Rel X.K H0 α0 H α σ st) (h : Rx X.K H α σ d v) (r : RelV v u) (e : toPyS st d = some p)
    (n : ((!viaOwn d && noL d) || !p.hasDict) = true) : ∃ as, Reads s.heap u p as ∧ (p.hasDict = true → sysModules ∉ as) := by
  cases hd : p.hasDict with
  | false =>
    obtain ⟨as, q⟩ := rx_reads I rl h r e
    exact ⟨as, q, fun z => nomatch z⟩
  | true =>
    rw [hd] at n
    simp only [Bool.not_true, Bool.or_false, Bool.and_eq_true, Bool.not_eq_true'] at n
    cases d <;> simp only [viaOwn, Bool.false_eq_true, false_and, reduceCtorEq] at n
    all_goals
      obtain ⟨as, q, k⟩ := reads_ok I _ v u p h r e
      exact ⟨as, q, fun _ => k n.2⟩
theorem bi_repr (hgu : X.A.guards = some []) (hu : X.A.units + 65 < cLine) : BI X (.builtin "repr") gRepr := by
  intro pins s σ0 H xs us Q H0 σ α0 α st ds d I rl rx rv eg q
  unfold gRepr at eg
  split at eg
  · rename_i dd
    simp only [Option.map_eq_some_iff] at eg
    obtain ⟨z, eg, rfl⟩ := eg
    unfold shownD at eg
    simp only [Option.bind_eq_some_iff] at eg
    obtain ⟨p, ep, eg⟩ := eg
    split at eg
    · rename_i hc
      cases eg
      simp only [Bool.and_eq_true, decide_eq_true_eq] at hc
      obtain ⟨⟨⟨h1, h2⟩, h3⟩, h4⟩ := hc
      rw [← sizeLine_eq] at h4
      obtain ⟨v, rfl, rx1⟩ := rx.one
      obtain ⟨u, rfl, rv1⟩ := vals1 rv
      obtain ⟨as, rd, hs⟩ := hreads I rl rx1 rv1 ep h2
      have fin : ∀ t, EP X pins σ0 Q (.str p.shown t) { s with toks := s.toks + 1 } := fun t => ⟨.str p.shown, H, I.tok _, ⟨t, rfl⟩, q _ H α rl (Stay.refl _ _) ox_str⟩
      cases rd with
      | none => exact PySem.P.repr_of_none (fin _)
      | bool b => exact PySem.P.repr_of_bool (by simpa only [PyData.shown] using fin _)
      | int i t => exact PySem.P.repr_of_int (by simpa [PyData.showable] using h1) (by simpa only [PyData.shown] using fin _)
      | str y t => exact PySem.P.repr_of_str (by simpa only [PyData.shown] using fin _) (by simpa only [PyData.shown] using h4)
      | list a1 a2 a3 a4 =>
        refine repr_of_reads' (.list a1 a2 a3 a4) h1 hs hgu (by omega) (fun _ _ e => e) (fun h' tk u hk => ?_) h4
        exact ⟨.str _, H, I.kept hk, ⟨_, rfl⟩, q _ H α rl (Stay.refl _ _) ox_str⟩
      | tuple a1 a2 a3 a4 =>
        refine repr_of_reads' (.tuple a1 a2 a3 a4) h1 hs hgu (by omega) (fun _ _ e => e) (fun h' tk u hk => ?_) h4
        exact ⟨.str _, H, I.kept hk, ⟨_, rfl⟩, q _ H α rl (Stay.refl _ _) ox_str⟩
      | dict a1 a2 a3 a4 a5 =>
        refine repr_of_reads' (.dict a1 a2 a3 a4 a5) h1 hs hgu (by omega) (fun _ _ e => e) (fun h' tk u hk => ?_) h4
        exact ⟨.str _, H, I.kept hk, ⟨_, rfl⟩, q _ H α rl (Stay.refl _ _) ox_str⟩
    · cases eg
  · cases eg
/-- the type of a value -/
theorem kit_d {pins : List (Addr × Obj)} {s : Shared} {σ0 σ : Sg} {H H0 : Hp} {α0 α : List Addr} {st : S} {d : D} {v : V} {u : Value} {T : String} (I : Inv X pins σ0 H s) (rl : Rel X.K H0 α0 H α σ st) (h : Rx X.K H α σ d v) (r : RelV v u) (e : tyD st d = some T) :
    ∃ P : Heap → Prop, PySem.W.KitX X.K u (.type T) P ∧ P s.heap ∧ u ≠ .builtin "__main__.__loader__#opaque" := by
  have viaC : ∀ (a : Addr) (c : Cell), CellOk X.K H α a c → (match c with | .lst _ => some "list" | .dct _ => some "dict" | _ => none) = some T → ∃ P : Heap → Prop, PySem.W.KitX X.K (.ref a) (.type T) P ∧ P s.heap ∧ (Value.ref a) ≠ .builtin "__main__.__loader__#opaque" := by
    intro a c hc e
    cases c <;> simp only [Option.some.injEq, reduceCtorEq] at e
    · subst e
      obtain ⟨vs, ha, _⟩ := hc
      exact kit_of I (x := .ref a) rfl (.base (.lst ha))
    · subst e
      rcases hc with ⟨kv, ha, _⟩ | ⟨kv, _, ha, _⟩
      · exact kit_of I (x := .ref a) rfl (.base (.dK ha))
      · exact kit_of I (x := .ref a) rfl (.base (.dT ha))
  cases d <;> simp only [tyD, Option.some.injEq, reduceCtorEq] at e
  case non => subst e; rw [rx_non h] at r; exact kit_of I r (.base .non)
  case bl b => subst e; rw [rx_bl h] at r; exact kit_of I r (.base (.bl b))
  case int i => subst e; rw [rx_int h] at r; exact kit_of I r (.base (.int i))
  case str i => subst e; rw [rx_str h] at r; exact kit_of I r (.base (.str i))
  case ref n =>
    have h' : Rv X.K H α (.ref n) v := h
    simp only [Rv] at h'
    obtain ⟨a, ha, rfl⟩ := h'
    cases r
    simp only [cellAt] at e
    cases hc : st.μ[n]? with
    | none => rw [hc] at e; cases e
    | some c =>
      rw [hc] at e
      exact viaC a c (rl.cells.at_ n a c ha hc) (by cases c <;> simpa using e)
  case own n =>
    have h' : σ[n]? = some (some v) := h
    simp only [cellAt] at e
    cases hc : st.δ[n]? with
    | none => rw [hc] at e; simp at e
    | some c =>
      rw [hc] at e
      cases c with
      | no => simp at e
      | val _ => simp at e
      | own c =>
        obtain ⟨a, ha, _, _, q⟩ := rl.slots.own n c hc
        rw [h'] at ha
        cases ha
        cases r
        exact viaC a c q (by cases c <;> simpa using e)
  case tup xs =>
    subst e
    obtain ⟨a, vs, rfl, hs, _⟩ := asT_ok h
    rcases hs with (hs | ⟨o, hs⟩) | ⟨o, its, n, hk, hc, _⟩
    · exact kit_of I r (.base (.tup hs))
    · exact kit_of I r (.fTuple hs)
    · exact kit_of I r (.kTuple hk hc)
  case lst xs =>
    subst e
    have h' : Rv X.K H α (.lst xs) v := h
    simp only [Rv] at h'
    obtain ⟨a, vs, rfl, hs, _⟩ := h'
    rcases hs with ⟨o, hs⟩ | ⟨o, its, n, hk, hc, _⟩
    · exact kit_of I r (.base (.frz hs))
    · exact kit_of I r (.kList hk hc)
  case dct kvs =>
    subst e
    have h' : Rv X.K H α (.dct kvs) v := h
    simp only [Rv] at h'
    obtain ⟨a, o, rfl, ⟨kv, hf, _⟩ | ⟨kv, _, hf, _⟩⟩ := h'
    · exact kit_of I r (.fDict hf)
    · cases (show u = Value.ref a from r)
      obtain ⟨_, _, _, _, _, o2, es, ep, h1, h2, _⟩ := (show ObjOk X.prog X.w H s.heap a (.frz o (.dT kv)) from I.hok a _ hf)
      exact ⟨_, PySem.W.kitx_dict, ⟨o2, h1, h2.1⟩, fun z => nomatch z⟩
theorem bi_isi : BI X (.builtin "isinstance") gIsi := by
  intro pins s σ0 H xs us Q H0 σ α0 α st ds d I rl rx rv eg q
  unfold gIsi at eg
  split at eg
  · simp only [Option.bind_eq_some_iff, Option.map_eq_some_iff] at eg
    obtain ⟨T, et, b, eb, rfl⟩ := eg
    obtain ⟨v, w, rfl, rx1, rx2⟩ := rx.two
    obtain ⟨u1, u2, rfl, rv1, rv2⟩ := vals2 rv
    have h2 : Rv X.K H α (.ty _) w := rx2
    simp only [Rv] at h2
    subst h2
    cases (show u2 = Value.type _ from rv2)
    obtain ⟨P, Z, p, hx⟩ := kit_d I rl rx1 rv1 et
    exact PySem.W.kia_one Z I.kIn p (kit_ty eb) hx fun tk => ⟨.bl b, H, I.tok tk, rfl, q _ H α rl (Stay.refl _ _) ox_bl⟩
  · cases eg
theorem fits_of {ps : List PyData} (h : (ps.all fun p => match p with | .str x => decide (x.length ≤ 16777216) | .list l => decide (l.length ≤ 16777216) | .tuple l => decide (l.length ≤ 16777216) | _ => true) = true) : ∀ x ∈ ps, x.fits63 := by
  intro x hx
  have := List.all_eq_true.mp h x hx
  cases x <;> simp only [decide_eq_true_eq] at this <;> simp only [PyData.fits63] <;> first | trivial | omega
theorem bi_all (hc : X.calm = true) : BI X (.builtin "all") gAll := by
  intro pins s σ0 H xs us Q H0 σ α0 α st ds d I rl rx rv eg q
  unfold gAll at eg
  split at eg
  · simp only [Option.bind_eq_some_iff, Option.map_eq_some_iff] at eg
    obtain ⟨ys, e1, ps, e2, rfl⟩ := eg
    unfold truthP at e2
    simp only [Option.bind_eq_some_iff] at e2
    obtain ⟨ps', e2, e3⟩ := e2
    split at e3
    · rename_i hh
      cases e3
      rw [Bool.and_eq_true] at hh
      obtain ⟨v, rfl, rx1⟩ := rx.one
      obtain ⟨u, rfl, rv1⟩ := vals1 rv
      obtain ⟨a, vs, rfl, hs, rr⟩ := asL_ok rl rx1 e1
      cases (show u = Value.ref a from rv1)
      obtain ⟨its, rv2, hl, _⟩ := I.list hs
      obtain ⟨as, rd, _⟩ := readsL_ok I ys vs its ps rr rv2 e2
      exact PySem.W.all_list_data (I.ok.hd hc) hl.isList (by simpa using rd) hh.1 (fits_of hh.2) fun h' tk hk => ⟨.bl _, H, I.kept hk, rfl, q _ H α rl (Stay.refl _ _) ox_bl⟩
    · cases e3
  · cases eg
theorem bi_any (hc : X.calm = true) : BI X (.builtin "any") gAny := by
  intro pins s σ0 H xs us Q H0 σ α0 α st ds d I rl rx rv eg q
  unfold gAny at eg
  split at eg
  · simp only [Option.bind_eq_some_iff, Option.map_eq_some_iff] at eg
    obtain ⟨ys, e1, ps, e2, rfl⟩ := eg
    unfold truthP at e2
    simp only [Option.bind_eq_some_iff] at e2
    obtain ⟨ps', e2, e3⟩ := e2
    split at e3
    · rename_i hh
      cases e3
      rw [Bool.and_eq_true] at hh
      obtain ⟨v, rfl, rx1⟩ := rx.one
      obtain ⟨u, rfl, rv1⟩ := vals1 rv
      obtain ⟨a, vs, rfl, hs, rr⟩ := asL_ok rl rx1 e1
      cases (show u = Value.ref a from rv1)
      obtain ⟨its, rv2, hl, _⟩ := I.list hs
      obtain ⟨as, rd, _⟩ := readsL_ok I ys vs its ps rr rv2 e2
      exact PySem.W.any_list_data (I.ok.hd hc) hl.isList (by simpa using rd) hh.1 (fits_of hh.2) fun h' tk hk => ⟨.bl _, H, I.kept hk, rfl, q _ H α rl (Stay.refl _ _) ox_bl⟩
    · cases e3
  · cases eg
end
end DL

namespace DL
open PySem PySem.Spec PyProof.Rows L2
variable [DLX]
/-! ### 23. Walks over lists and tuples mixed: enumerate, zip -/
def SqB (b : Bool) (K : PySem.W.Frag) (H : Hp) (a : Addr) (xs : List V) : Prop := match b with | true => SqL K H a xs | false => SqT K H a xs
def ItB (b : Bool) (h : Heap) (it a : Addr) (i : Nat) : Prop := match b with | true => h.IsListIter it a i | false => h.IsTupleIter it a i
def IsB (b : Bool) (h : Heap) (a : Addr) (its : Array Value) : Prop := match b with | true => h.IsList a its | false => h.IsTuple a its
def oIt (b : Bool) (a : Addr) : Obj := match b with | true => { cls := .type "list_iterator", data := .fields #[.ref a, .int 0 0] } | false => { cls := .type "tuple_iterator", data := .fields #[.ref a, .int 0 0] }
theorem ItB.keep {b : Bool} {h h' : Heap} {it a : Addr} {i : Nat} (q : ItB b h it a i) (k : ∀ o, h.get? it = some o → h'.get? it = some o) : ItB b h' it a i := by
  cases b <;> obtain ⟨o, ho, r⟩ := q <;> exact ⟨o, k o ho, r⟩
theorem ItB.obj {b : Bool} {h : Heap} {it a : Addr} {i : Nat} (q : ItB b h it a i) : ∃ o, h.get? it = some o ∧ ∀ v, o.data ≠ .cell v := by
  cases b <;> obtain ⟨o, ho, hc, hd⟩ := q <;> exact ⟨o, ho, fun v z => by rw [hd] at z; cases z⟩
theorem ItB.new {b : Bool} {h : Heap} {it a : Addr} (q : h.get? it = some (oIt b a)) : ItB b h it a 0 := by
  cases b <;> exact ⟨_, q, rfl, rfl⟩
theorem IsB.keep {b : Bool} {h h' : Heap} {a : Addr} {its : Array Value} (q : IsB b h a its) (k : ∀ o, h.get? a = some o → h'.get? a = some o) : IsB b h' a its := by
  cases b <;> obtain ⟨o, ho, r⟩ := q <;> exact ⟨o, k o ho, r⟩
theorem IsB.lt {b : Bool} {h : Heap} {a : Addr} {its : Array Value} (q : IsB b h a its) : a < h.objs.size := by
  cases b <;> obtain ⟨o, ho, r⟩ := q <;> exact Heap.lt_size ho
theorem beginsB (b : Bool) (a : Addr) (its : Array Value) : Begins (.ref a) (oIt b a) fun h => IsB b h a its := by
  cases b
  · exact begins_tuple a its
  · exact begins_list a its
theorem nlt {a n : Nat} (k : Nat) (h : a < n) : a ≠ n + k := by omega
theorem nad {n : Nat} (i j : Nat) (h : i ≠ j) : n + i ≠ n + j := by omega
theorem lad {n c : Nat} (k : Nat) (h : c = n + k) : n ≤ c := by omega
theorem nle {a n : Nat} (h : a < n) (h' : n ≤ a) : False := by omega
theorem mem2 {a b c : Addr} (h : c ∈ [a, b]) : c = a ∨ c = b := by simpa using h
theorem drawsB {prog : Program} {w : World} {A : Around} (b : Bool) (hh : A.handled = none) (it a : Addr) (hne : a ≠ it) (its : Array Value) :
    Draws prog w A it [it, a] its.size (fun i v => its[i]? = some v) (fun i h => ItB b h it a i ∧ IsB b h a its) := by
  cases b
  · exact Draws.tuple hh it a hne its
  · exact Draws.list hh it a hne its
section
variable {X : Cx} {pins : List (Addr × Obj)} {σ : Sg} {H : Hp} {s : Shared}
theorem inv_seqB {b : Bool} {a : Addr} {xs : List V} (I : Inv X pins σ H s) (h : SqB b X.K H a xs) : ∃ its : List Value, Vals xs its ∧ IsB b s.heap a its.toArray := by
  cases b
  · obtain ⟨its, r, p, _⟩ := I.tuple h
    exact ⟨its, r, p⟩
  · obtain ⟨its, r, p, _⟩ := I.list h
    exact ⟨its, r, p.isList⟩
theorem SqB.inj {b : Bool} {a : Addr} {xs ys : List V} (I : Inv X pins σ H s) (h : SqB b X.K H a xs) (h' : SqB b X.K H a ys) : xs = ys := by
  cases b
  · exact I.tuple_inj h h'
  · exact I.list_inj h h'
end
/-- each item in a new pair with its place -/
def JEn (b : Bool) (K : PySem.W.Frag) (a : Addr) : It :=
  ⟨fun i H => ∃ (xs : List V) (x : V), SqB b K H a xs ∧ xs[i]? = some x, fun i H v H' => ∃ T x, v = .ref T ∧ H T = none ∧ H' = upd H T (.tup [.int (i : Nat), x]) ∧ ∀ xs, SqB b K H a xs → xs[i]? = some x, fun i H => ∃ xs : List V, SqB b K H a xs ∧ xs.length = i⟩
theorem turn_enB {P : Program} {w : World} {K : PySem.W.Frag} {elts : List Expr} {kk : Nat} {tpos : Pos} (b : Bool) (a e it : Addr) :
    Turn P w K (.Tuple elts kk tpos) (JEn b K a) [e, it] e (fun i h => (∃ old, IsEnum h e it (0 + ((i : Nat) : Int)) old) ∧ ItB b h it a i ∧ e ≠ it ∧ a ≠ e ∧ a ≠ it) where
  mem := by simp
  obj := fun i h st c hc => by
    obtain ⟨⟨old, he⟩, hi, _⟩ := st
    rcases mem2 hc with rfl | rfl
    · exact ⟨_, he, fun v q => nomatch q⟩
    · exact hi.obj
  keep := fun i h h' st k => by
    obtain ⟨⟨old, he⟩, hi, hne⟩ := st
    exact ⟨⟨old, k e (by simp) _ he⟩, hi.keep fun o q => k it (by simp) o q, hne⟩
  item := by
    intro X hP hw hK hc i pins s σ H E I hf st hg
    subst hP hw hK
    obtain ⟨⟨old, he⟩, hit, hne, nae, nai⟩ := st
    obtain ⟨xs, x, hq, hx⟩ := hg
    obtain ⟨its, rv, p⟩ := inv_seqB I hq
    obtain ⟨u, hu, ru⟩ := rv.get hx
    have hi : i < its.toArray.size := by
      have := (List.getElem?_eq_some_iff.mp hu).1
      simpa using this
    refine (GoesN.enumFrom (elts := elts) (x1 := kk) (pos := tpos) 0 (drawsB (prog := X.prog) (w := X.w) (A := X.A.in1) b (I.ok.hd hc) it a nai its.toArray) e hne (by simp [hne]; exact fun z => nae z.symm) (by simp)).goes i s _ E hi ⟨⟨old, he⟩, hit, p⟩ ?_
    rintro v h' tk ⟨T, t, y, rfl, hT, hy, hTup⟩ ⟨he', hit', p'⟩ hk htk
    have ey : y = u := by
      rw [List.getElem?_toArray, hu] at hy
      exact (Option.some.inj hy).symm
    subst ey
    obtain ⟨oT, h1, h2, n, h3⟩ := hTup
    have new : ObjOk X.prog X.w (upd H T (.tup [.int (i : Nat), x])) h' T (.tup [.int (i : Nat), x]) :=
      ⟨by show 2 ≤ sizeLine; decide, [.int (0 + (i : Int)) t, y], .cons ⟨t, by rw [Int.zero_add]⟩ (.cons ru .nil), ⟨oT, h1, h2, n, h3⟩⟩
    have hn : H T = none := I.hok.fresh hT
    have I1 : Inv X pins σ (upd H T (.tup [.int (i : Nat), x])) { s with heap := h', toks := tk } := I.turnedNew (ch := [e, it]) hk hf hT new
    refine ⟨.ref T, _, I1, rfl, ⟨T, x, rfl, hn, rfl, fun ys hys => by rw [SqB.inj I hys hq]; exact hx⟩, ⟨he', hit', hne, nae, nai⟩, fun c hc => ?_⟩
    rw [upd_ne]
    · exact (hf c hc).1
    · intro z
      subst z
      have : c < s.heap.objs.size := by
        rcases mem2 hc with rfl | rfl
        · exact Heap.lt_size he
        · exact Heap.lt_size hit.obj.choose_spec.1
      exact nle this hT
  done := by
    intro X hP hw hK hc i pins s σ H E I hf st hg
    subst hP hw hK
    obtain ⟨⟨old, he⟩, hit, hne, nae, nai⟩ := st
    obtain ⟨xs, hq, hx⟩ := hg
    obtain ⟨its, rv, p⟩ := inv_seqB I hq
    have hi : i = its.toArray.size := by
      have := rv.length
      simp
      omega
    subst hi
    exact (GoesN.enumFrom (elts := elts) (x1 := kk) (pos := tpos) 0 (drawsB (prog := X.prog) (w := X.w) (A := X.A.in1) b (I.ok.hd hc) it a nai its.toArray) e hne (by simp [hne]; exact fun z => nae z.symm) (by simp)).stops s (fun s1 => Inv X pins σ H s1) E ⟨⟨old, he⟩, hit, p⟩
      fun h' tk hk htk => I.turnedL (ch := [e, it]) hk hf
  self := fun A i s Q E st h => let ⟨⟨_, he⟩, _⟩ := st; wpAny_pyIter_enum he h
/-- two sources, the items in new pairs -/
def JZp (b c : Bool) (K : PySem.W.Frag) (a d : Addr) : It :=
  ⟨fun i H => ∃ (xs ys : List V) (x y : V), SqB b K H a xs ∧ SqB c K H d ys ∧ xs[i]? = some x ∧ ys[i]? = some y,
    fun i H v H' => ∃ T x y, v = .ref T ∧ H T = none ∧ H' = upd H T (.tup [x, y]) ∧ (∀ xs, SqB b K H a xs → xs[i]? = some x) ∧ ∀ ys, SqB c K H d ys → ys[i]? = some y,
    fun i H => ∃ xs ys : List V, SqB b K H a xs ∧ SqB c K H d ys ∧ min xs.length ys.length = i⟩
theorem turn_zpB {P : Program} {w : World} {K : PySem.W.Frag} {elts : List Expr} {kk : Nat} {tpos : Pos} (b c : Bool) {a d z TI TO i1 i2 : Addr} (D : ZipSep2 z TI TO i1 i2 [i1, a] [i2, d]) (na : a ≠ i1) (nd : d ≠ i2) :
    Turn P w K (.Tuple elts kk tpos) (JZp b c K a d) [z, TI, TO, i1, i2] z (fun i h => IsZip h z TI TO .none ∧ IsTupOf2 h TI (.ref i1) (.ref i2) ∧ (∃ x y, IsTupOf2 h TO x y) ∧ ItB b h i1 a i ∧ ItB c h i2 d i) where
  mem := by simp
  obj := fun i h st q hq => by
    obtain ⟨hz, hTI, ⟨x, y, hTO⟩, h1, h2⟩ := st
    simp only [List.mem_cons, List.not_mem_nil, or_false] at hq
    rcases hq with rfl | rfl | rfl | rfl | rfl
    · exact ⟨_, hz, fun v q => nomatch q⟩
    · exact ⟨_, hTI, fun v q => nomatch q⟩
    · exact ⟨_, hTO, fun v q => nomatch q⟩
    · exact h1.obj
    · exact h2.obj
  keep := fun i h h' st k => by
    obtain ⟨hz, hTI, ⟨x, y, hTO⟩, h1, h2⟩ := st
    exact ⟨k z (by simp) _ hz, k TI (by simp) _ hTI, ⟨x, y, k TO (by simp) _ hTO⟩, h1.keep fun o q => k i1 (by simp) o q, h2.keep fun o q => k i2 (by simp) o q⟩
  item := by
    intro X hP hw hK hc i pins s σ H E I hf st hg
    subst hP hw hK
    obtain ⟨hz, hTI, ⟨x0, y0, hTO⟩, h1, h2⟩ := st
    obtain ⟨xs, ys, x, y, hqx, hqy, hx, hy⟩ := hg
    obtain ⟨its, rv, p⟩ := inv_seqB I hqx
    obtain ⟨its2, rv2, p2⟩ := inv_seqB I hqy
    obtain ⟨u, hu, ru⟩ := rv.get hx
    obtain ⟨u2, hu2, ru2⟩ := rv2.get hy
    have hi : i < min its.toArray.size its2.toArray.size := by
      have h1 := (List.getElem?_eq_some_iff.mp hu).1
      have h2 := (List.getElem?_eq_some_iff.mp hu2).1
      simp
      omega
    refine (GoesN.zip2 (elts := elts) (x1 := kk) (pos := tpos) D (drawsB (prog := X.prog) (w := X.w) (A := X.A.in1) b (I.ok.hd hc) i1 a na its.toArray) (drawsB (prog := X.prog) (w := X.w) (A := X.A.in1) c (I.ok.hd hc) i2 d nd its2.toArray)).goes i s _ E hi ⟨hz, hTI, ⟨x0, y0, hTO⟩, ⟨h1, p⟩, h2, p2⟩ ?_
    rintro v h' tk ⟨T, y1, y2, rfl, hT, hy1, hy2, hTup⟩ ⟨hz', hTI', hTO', ⟨h1', _⟩, h2', _⟩ hk htk
    have e1 : y1 = u := by
      rw [List.getElem?_toArray, hu] at hy1
      exact (Option.some.inj hy1).symm
    have e2 : y2 = u2 := by
      rw [List.getElem?_toArray, hu2] at hy2
      exact (Option.some.inj hy2).symm
    subst e1 e2
    obtain ⟨oT, k1, k2, n, k3⟩ := hTup
    have new : ObjOk X.prog X.w (upd H T (.tup [x, y])) h' T (.tup [x, y]) := ⟨by show 2 ≤ sizeLine; decide, [y1, y2], .cons ru (.cons ru2 .nil), ⟨oT, k1, k2, n, k3⟩⟩
    have hn : H T = none := I.hok.fresh hT
    have I1 : Inv X pins σ (upd H T (.tup [x, y])) { s with heap := h', toks := tk } := I.turnedNew (ch := [z, TO, i1, i2]) hk (fun q hq => hf q (by simp only [List.mem_cons, List.not_mem_nil, or_false] at hq ⊢; rcases hq with z | z | z | z <;> simp [z])) hT new
    refine ⟨.ref T, _, I1, rfl, ⟨T, x, y, rfl, hn, rfl, fun ys hys => by rw [SqB.inj I hys hqx]; exact hx, fun ys hys => by rw [SqB.inj I hys hqy]; exact hy⟩, ⟨hz', hTI', hTO', h1', h2'⟩, fun q hq => ?_⟩
    rw [upd_ne]
    · exact (hf q hq).1
    · intro e
      subst e
      have : q < s.heap.objs.size := by
        simp only [List.mem_cons, List.not_mem_nil, or_false] at hq
        rcases hq with rfl | rfl | rfl | rfl | rfl
        · exact Heap.lt_size hz
        · exact Heap.lt_size hTI
        · exact Heap.lt_size hTO
        · exact Heap.lt_size h1.obj.choose_spec.1
        · exact Heap.lt_size h2.obj.choose_spec.1
      exact nle this hT
  done := by
    intro X hP hw hK hc i pins s σ H E I hf st hg
    subst hP hw hK
    obtain ⟨hz, hTI, ⟨x0, y0, hTO⟩, h1, h2⟩ := st
    obtain ⟨xs, ys, hqx, hqy, hi⟩ := hg
    obtain ⟨its, rv, p⟩ := inv_seqB I hqx
    obtain ⟨its2, rv2, p2⟩ := inv_seqB I hqy
    have hi : i = min its.toArray.size its2.toArray.size := by
      have h1 := rv.length
      have h2 := rv2.length
      simp
      omega
    subst hi
    exact (GoesN.zip2 (elts := elts) (x1 := kk) (pos := tpos) D (drawsB (prog := X.prog) (w := X.w) (A := X.A.in1) b (I.ok.hd hc) i1 a na its.toArray) (drawsB (prog := X.prog) (w := X.w) (A := X.A.in1) c (I.ok.hd hc) i2 d nd its2.toArray)).stops s (fun s1 => Inv X pins σ H s1) E ⟨hz, hTI, ⟨x0, y0, hTO⟩, ⟨h1, p⟩, h2, p2⟩
      fun h' tk hk htk => I.turnedL (ch := [z, TO, i1, i2]) hk (fun q hq => hf q (by simp only [List.mem_cons, List.not_mem_nil, or_false] at hq ⊢; rcases hq with z | z | z | z <;> simp [z]))
  self := fun A i s Q E st h => wpAny_pyIter_zip st.1 h
/-! the iterators -/
theorem meets_enum1 {v : Value} {o : Obj} {P : Heap → Prop} (B : Begins v o P) :
    Meets (Builtin.«enumerate.__new__» ⟨[.type "enumerate", v], []⟩) (fun _ R s => P s.heap ∧
      R (.ok (.ret (.ref (s.heap.push o).objs.size))) { s with heap := (s.heap.push o).push { cls := .type "enumerate", data := .fields #[.none, .bool false, .ref s.heap.objs.size, rawInt 0, .none, .none] } }) :=
  .of_wp fun prog w A R s h => by
    obtain ⟨hp, g, d, tk, os⟩ := s
    obtain ⟨h1, h⟩ := h
    have hsub := sub_enumerate
    have q1 : ∀ {A' : Around} {E : Value → Shared → Prop} {Q : Value → Shared → Prop}, Q (.ref hp.objs.size) ⟨hp.push o, g, d, tk, os⟩ → wpAny (model prog w) A' (pyIter v) Q E ⟨hp, g, d, tk, os⟩ :=
      fun q => B.iter prog w _ _ ⟨hp, g, d, tk, os⟩ _ h1 q
    wp_walk using q1
    refine wpAny_stack_any fun st => wpAny_pure ?_
    split
    · rename_i c _ _ _ _ _
      cases (c == Value.type "enumerate")
      · wp_walk using q1
        exact ⟨_, rfl, h⟩
      · wp_walk using q1
        exact ⟨_, rfl, h⟩
    · wp_walk using q1
      exact ⟨_, rfl, h⟩
theorem enum1_begins {prog : Program} {w : World} {A : Around} {E : Value → Shared → Prop} {s : Shared} {v : Value} {o : Obj} {P : Heap → Prop} {Q : Value → Shared → Prop} (B : Begins v o P) (h1 : P s.heap)
    (h : ∀ h', IsEnum h' (s.heap.objs.size + 1) s.heap.objs.size 0 .none → h'.get? s.heap.objs.size = some o → h'.objs.size = s.heap.objs.size + 2 →
      (∀ b o, s.heap.get? b = some o → h'.get? b = some o) → Q (.ref (s.heap.objs.size + 1)) { s with heap := h' }) :
    wpAny (model prog w) A (call (.type "enumerate") [v]) Q E s := by
  refine callType_new F.called_enumerate (by decide) (F.typeCall_enumerate_1 _) (F.newCall_enumerate_1 _) (fun obj => F.args_object_init_2 obj _) F.entry_enumerate_new (meets_enum1 B) ⟨h1, ?_⟩
  have hz : (s.heap.push o).objs.size = s.heap.objs.size + 1 := Heap.size_push ..
  show _ ∧ _
  rw [hz]
  have he : IsEnum ((s.heap.push o).push { cls := .type "enumerate", data := .fields #[.none, .bool false, .ref s.heap.objs.size, rawInt 0, .none, .none] }) (s.heap.objs.size + 1) s.heap.objs.size 0 .none := by
    have := Heap.get?_push_size (s.heap.push o) (o := { cls := .type "enumerate", data := .fields #[.none, .bool false, .ref s.heap.objs.size, rawInt 0, .none, .none] }) rfl
    rw [hz] at this
    exact this
  exact ⟨⟨_, he, rfl⟩, h _ he (Heap.get?_push_of_some _ (Heap.get?_push_size _ B.free)) (by rw [Heap.size_push, hz]) fun b o x => Heap.get?_push_of_some _ (Heap.get?_push_of_some _ x)⟩
def iEnB (K : PySem.W.Frag) (ta : TA) : TI := fun σ H R => ta σ H fun vs H1 => ∃ (b : Bool) (a : Addr) (xs : List V), vs = [.ref a] ∧ SqB b K H1 a xs ∧ R (JEn b K a) H1
theorem pi_enB {X : Cx} {e : Expr} {ta : TA} {p pos tpos : Pos} {elts : List Expr} {kk : Nat} (hg : Gl X "enumerate") (hm : X.mg "enumerate" = none) (ha : PA X [e] ta) (hs : starEach [e] X.env = [(false, eval e X.env)] := by rfl) :
    PI X (.Tuple elts kk tpos) (.Call (.Name "enumerate" p) [e] [] pos) (iEnB X.K ta) := by
  refine ⟨fun pins s σ H R I h => ?_⟩
  refine Call_ (ld_blt I hg hm boot_enumerate (PyProof.Rows.callWith_type1 (thn (ha.run pos pins s σ H _ I h) fun us s1 ⟨vs, H1, I1, r1, q1⟩ => ?_) hs rfl))
  obtain ⟨b, a, xs, rfl, hq, q⟩ := q1
  obtain ⟨u, rfl, ru⟩ := vals1 r1
  cases ru
  obtain ⟨its, rv, p⟩ := inv_seqB I1 hq
  have hlt := p.lt
  refine enum1_begins (beginsB b a its.toArray) p fun h' he hit hz hk => wpAny_pyIter_enum he ?_
  have I2 : Inv X pins σ H1 { s1 with heap := h' } := I1.kept (t' := s1.toks) hk
  refine ⟨s1.heap.objs.size + 1, [s1.heap.objs.size + 1, s1.heap.objs.size], _, _, H1, rfl, I2, turn_enB b a (s1.heap.objs.size + 1) s1.heap.objs.size, ⟨⟨.none, he⟩, .new hit, Nat.succ_ne_self _, nlt 1 hlt, nlt 0 hlt⟩, fun c hc => ?_, q⟩
  have hle : s1.heap.objs.size ≤ c := by
    rcases mem2 hc with z | z
    · exact lad 1 z
    · exact lad 0 z
  exact I1.fpOk hle (I1.hok.fresh hle)
def iZpB (K : PySem.W.Frag) (ta : TA) : TI := fun σ H R => ta σ H fun vs H1 => ∃ (b c : Bool) (a d : Addr) (xs ys : List V), vs = [.ref a, .ref d] ∧ SqB b K H1 a xs ∧ SqB c K H1 d ys ∧ R (JZp b c K a d) H1
theorem pi_zpB {X : Cx} {e e2 : Expr} {ta : TA} {p pos tpos : Pos} {elts : List Expr} {kk : Nat} (hg : Gl X "zip") (hm : X.mg "zip" = none) (ha : PA X [e, e2] ta)
    (hs : starEach [e, e2] X.env = (false, eval e X.env) :: starEach [e2] X.env := by rfl) (hpl : (backTo pos (starEach [e2] X.env)).any (·.1) = false := by rfl) :
    PI X (.Tuple elts kk tpos) (.Call (.Name "zip" p) [e, e2] [] pos) (iZpB X.K ta) := by
  refine ⟨fun pins s σ H R I h => ?_⟩
  refine Call_ (ld_blt I hg hm PyProof.Rows.boot_zip (PyProof.Rows.callWith_type1 (thn (ha.run pos pins s σ H _ I h) fun us s1 ⟨vs, H1, I1, r1, q1⟩ => ?_) hs hpl))
  obtain ⟨b, c, a, d, xs, ys, rfl, hq, hq2, q⟩ := q1
  obtain ⟨u, u2, rfl, ru, ru2⟩ := vals2 r1
  cases ru
  cases ru2
  obtain ⟨its, rv, p⟩ := inv_seqB I1 hq
  obtain ⟨its2, rv2, p2⟩ := inv_seqB I1 hq2
  have hlt := p.lt
  have hlt2 := p2.lt
  refine zip_begins2 (beginsB b a its.toArray) (beginsB c d its2.toArray) p p2 fun h' hz hTI hTO hi1 hi2 hsz hk => wpAny_pyIter_zip hz ?_
  have I2 : Inv X pins σ H1 { s1 with heap := h' } := I1.kept (t' := s1.toks) hk
  refine ⟨s1.heap.objs.size + 4, [s1.heap.objs.size + 4, s1.heap.objs.size + 2, s1.heap.objs.size + 3, s1.heap.objs.size, s1.heap.objs.size + 1], _, _, H1, rfl, I2, turn_zpB b c (a := a) (d := d) ⟨nad 2 4 (by decide), nad 3 4 (by decide), nad 2 3 (by decide), nad 2 0 (by decide), by simp, ?_, ?_, nad 2 1 (by decide), by simp, ?_, ?_, ?_, ?_⟩ (nlt 0 hlt) (nlt 1 hlt2), ⟨hz, hTI, ⟨_, _, hTO⟩, .new hi1, .new hi2⟩, fun q hq => ?_, q⟩
  all_goals try (intro z; rcases mem2 z with z | z)
  · exact nad 4 0 (by decide) z
  · exact nlt 4 hlt z.symm
  · exact nad 3 0 (by decide) z
  · exact nlt 3 hlt z.symm
  · exact nad 4 1 (by decide) z
  · exact nlt 4 hlt2 z.symm
  · exact nad 3 1 (by decide) z
  · exact nlt 3 hlt2 z.symm
  · exact nad 0 1 (by decide) z
  · exact nlt 0 hlt2 z.symm
  · exact nad 1 0 (by decide) z
  · exact nlt 1 hlt z.symm
  have hle : s1.heap.objs.size ≤ q := by
    simp only [List.mem_cons, List.not_mem_nil, or_false] at hq
    rcases hq with z | z | z | z | z
    · exact lad 4 z
    · exact lad 2 z
    · exact lad 3 z
    · exact lad 0 z
    · exact lad 1 z
  exact I1.fpOk hle (I1.hok.fresh hle)
end DL

namespace DL
open PySem PySem.Spec PyProof.Rows L2
variable [DLX]
/-! ### 24. Slots taken away, locked, put back -/
section
variable {K : PySem.W.Frag} {H0 H H' : Hp} {α0 α α' : List Addr} {σ σ' : Sg} {s s' : S}
/-- slots that are told less of -/
theorem Rel.less (r : Rel K H0 α0 H α σ s) {δ : List Slot} (hl : δ.length = s.δ.length) (h : ∀ (i : Nat) (sl : Slot), δ[i]? = some sl → sl = .no ∨ (s.δ[i]? = some sl ∧ σ'[i]? = σ[i]?)) (hs : σ'.length = σ.length) : Rel K H0 α0 H α σ' { s with δ := δ } := by
  refine ⟨r.cells, ⟨by rw [hs, r.slots.len, hl], fun i d e => ?_, fun i c e => ?_, fun i j c c' a e1 e2 e3 e4 => ?_⟩, r.ot, r.nw, r.st⟩
  · rcases h i _ e with z | ⟨z, w⟩
    · cases z
    · rw [w]; exact r.slots.val i d z
  · rcases h i _ e with z | ⟨z, w⟩
    · cases z
    · rw [w]; exact r.slots.own i c z
  · rcases h i _ e1 with z | ⟨z1, w1⟩
    · cases z
    · rcases h j _ e2 with z | ⟨z2, w2⟩
      · cases z
      · rw [w1] at e3
        rw [w2] at e4
        exact r.slots.inj i j c c' a z1 z2 e3 e4
theorem Rel.setNo (r : Rel K H0 α0 H α σ s) (i : Nat) : Rel K H0 α0 H α σ { s with δ := s.δ.set i .no } :=
  r.less (by simp) (fun j sl e => by
    rcases get_set e with ⟨_, e, _⟩ | ⟨_, e⟩
    · exact .inl e
    · exact .inr ⟨e, rfl⟩) rfl
/-- a fresh thing is locked -/
theorem Rel.frz {c : Cell} {a : Addr} (r : Rel K H0 α0 H α σ s) (h : RF K H0 H α σ s a c) (nd : ∀ h : c = .dead, False) (nt : ∀ n, c ≠ .tab n) :
    ∃ u, H a = some u ∧ Mut (some u) ∧ ∀ o, Rel K H0 α0 (upd H a (.frz o u)) α σ s ∧ Stay H α (upd H a (.frz o u)) α ∧ Rv K (upd H a (.frz o u)) α c.toD (.ref a) := by
  obtain ⟨hc, na, n0, no⟩ := h
  have stp : ∀ u o, H a = some u → ¬ Fixed u → Stay H α (upd H a (.frz o u)) α ∧ Rel K H0 α0 (upd H a (.frz o u)) α σ s := fun u o hu nf => by
    have t : Stay H α (upd H a (.frz o u)) α := ⟨fun b w hb fb => by
      by_cases e : b = a
      · subst e; rw [hu] at hb; cases hb; exact absurd fb nf
      · rw [upd_ne e]; exact hb, List.prefix_rfl, fun b hb => by
      by_cases e : b = a
      · subst e; rw [upd_same] at hb; cases hb
      · rw [upd_ne e] at hb; exact hb⟩
    refine ⟨t, r.step t (fun b w hb _ hw => ?_) (fun b w hb _ hb1 => ?_)⟩
    · have e : b ≠ a := fun z => by
        subst z
        rcases hw with z | ⟨i, c', z1, z2⟩
        · exact na z
        · exact no i c' z1 z2
      rw [upd_ne e]; exact hb
    · have e : b ≠ a := fun z => by subst z; rw [n0] at hb; cases hb
      rw [upd_ne e]; exact hb1
  cases c with
  | dead => exact (nd rfl).elim
  | tab n => exact absurd rfl (nt n)
  | lst xs =>
    obtain ⟨vs, hv, rr⟩ := hc
    refine ⟨.lst vs, hv, trivial, fun o => ?_⟩
    obtain ⟨t, rl⟩ := stp _ o hv (fun z => z)
    refine ⟨rl, t, ?_⟩
    simp only [Cell.toD, Rv]
    exact ⟨a, vs, rfl, .inl ⟨o, upd_same⟩, Rvs.stay t _ _ rr⟩
  | dct kvs =>
    rcases hc with ⟨kv, hv, rr⟩ | ⟨kv, nn, hv, rr⟩
    · refine ⟨.dK kv, hv, trivial, fun o => ?_⟩
      obtain ⟨t, rl⟩ := stp _ o hv (fun z => z)
      refine ⟨rl, t, ?_⟩
      simp only [Cell.toD, Rv]
      exact ⟨a, o, rfl, .inl ⟨kv, upd_same, Rkv.stay t _ _ rr⟩⟩
    · refine ⟨.dT kv, hv, trivial, fun o => ?_⟩
      obtain ⟨t, rl⟩ := stp _ o hv (fun z => z)
      refine ⟨rl, t, ?_⟩
      simp only [Cell.toD, Rv]
      exact ⟨a, o, rfl, .inr ⟨kv, nn, upd_same, RkT.stay t _ _ rr⟩⟩
  | ins C fs =>
    obtain ⟨dx, vs, hv, rr⟩ := hc
    refine ⟨.ins C dx vs, hv, trivial, fun o => ?_⟩
    obtain ⟨t, rl⟩ := stp _ o hv (fun z => z)
    refine ⟨rl, t, ?_⟩
    simp only [Cell.toD, Rv]
    exact ⟨a, o, dx, vs, rfl, upd_same, Rfs.stay t _ _ rr⟩
/-- the thing of a slot, given up by it -/
theorem Rel.giveUp {i : Nat} {c : Cell} (r : Rel K H0 α0 H α σ s) (e : s.δ[i]? = some (.own c)) : ∃ a, σ[i]? = some (some (.ref a)) ∧ Rel K H0 α0 H α σ { s with δ := s.δ.set i .no } ∧ RF K H0 H α σ { s with δ := s.δ.set i .no } a c := by
  obtain ⟨a, h1, h2, h3, h4⟩ := r.slots.own i c e
  refine ⟨a, h1, r.setNo i, h4, h2, h3, fun j c' e2 e3 => ?_⟩
  rcases get_set e2 with ⟨_, z, _⟩ | ⟨ne, z⟩
  · cases z
  · exact ne (r.slots.inj i j c c' a e z h1 e3)
end
/-- slot i's thing is locked for good -/
def frzAt (i : Nat) (s : S) : Option S := match s.δ[i]? with
  | some (.own .dead) => none
  | some (.own (.tab _)) => none
  | some (.own c) => some { s with δ := s.δ.set i (.val c.toD) }
  | _ => some s
def dFrzS (i : Nat) (f : FS) : FS := fun s => match f s with
  | .nx s' => (match frzAt i s' with | some s2 => .nx s2 | none => .bad)
  | r => r
theorem psGh {X : Cx} {st : Stmt} {t : TS} (h : PS X st t) : PS X st (fun D σ H => t { D with nx := fun σ' H' => Gh H' (D.nx σ') } σ H) :=
  ⟨fun pins s σ H D I q => thn (h.run pins s σ H _ I q) fun fl s1 z => by
    cases fl with
    | next =>
      obtain ⟨σ', H', I', g⟩ := z
      obtain ⟨H2, J, q⟩ := DL.Inv.gh I' g
      exact ⟨σ', H2, J, q⟩
    | ret u => exact z
    | brk => exact z
    | cont => exact z⟩
section
variable {X : Cx}
theorem frzAt_ok {K : PySem.W.Frag} {H0 H : Hp} {α0 α : List Addr} {σ : Sg} {s s2 : S} {i : Nat} {Q : Sg → Hp → Prop} (r : Rel K H0 α0 H α σ s) (e : frzAt i s = some s2) (q : ∀ H', Rel K H0 α0 H' α σ s2 → Stay H α H' α → Q σ H') : Gh H (Q σ) := by
  unfold frzAt at e
  split at e
  · cases e
  · cases e
  · rename_i c nd nt hc
    cases e
    obtain ⟨a, h1, h2, h3⟩ := r.giveUp hc
    obtain ⟨u, hu, mu, k⟩ := h2.frz h3 nd nt
    refine .inr ⟨a, u, hu, mu, fun o => ?_⟩
    obtain ⟨r2, t, rv⟩ := k o
    have r3 := r2.setV (i := i) rv
    have es : σ.set i (some (.ref a)) = σ := by
      apply List.ext_getElem?
      intro j
      by_cases hj : i = j
      · subst hj
        rw [h1, List.getElem?_set_self (List.getElem?_eq_some_iff.mp h1).1]
      · rw [List.getElem?_set_ne hj]
    rw [es] at r3
    simp only [List.set_set] at r3
    exact q _ r3 t
  · cases e
    exact .inl (q H r (Stay.refl _ _))
theorem sd_frz (i : Nat) {st : Stmt} {f : FS} (h : PSD X st f) : PSD X st (dFrzS i f) := by
  refine ⟨fun W tk => ?_⟩
  obtain ⟨t, p, q⟩ := h.run W tk
  refine ⟨_, psGh p, fun H0 α0 σ H α s D r k => q H0 α0 σ H α s _ r ?_⟩
  unfold dFrzS at k
  cases ef : f s <;> rw [ef] at k
  case nx s' =>
    simp only at k
    intro σ' H' α' r' t'
    cases e : frzAt i s' with
    | none => rw [e] at k; exact k.elim
    | some s2 =>
      rw [e] at k
      exact frzAt_ok r' e fun H2 r2 t2 => k σ' H2 α' r2 (t'.trans t2)
  all_goals exact k
/-! what is never reached -/
theorem sd_bad {st : Stmt} : PSD X st (fun _ => .bad) := ⟨fun W _ => ⟨fun _ _ _ => False, ⟨fun _ _ _ _ _ _ h => h.elim⟩, fun _ _ _ _ _ _ _ _ q => q.elim⟩⟩
theorem pd_bad {e : Expr} : PED X e (fun _ => .bad) := ⟨fun W _ => ⟨fun _ _ _ => False, ⟨fun _ _ _ _ _ _ h => h.elim⟩, fun _ _ _ _ _ _ _ _ q => q.elim⟩⟩
end
/-! ### 25. Walks over enumerate, zip -/
def enD : Nat → List D → List D
  | _, [] => []
  | k, d :: ds => .tup [.int k, d] :: enD (k + 1) ds
def zpD : List D → List D → List D
  | a :: as, b :: bs => .tup [a, b] :: zpD as bs
  | _, _ => []
theorem enD_at : ∀ (ds : List D) (k i : Nat), (enD k ds)[i]? = ds[i]?.map fun d => .tup [.int ((k + i : Nat) : Int), d]
  | [], k, i => by simp [enD]
  | d :: ds, k, 0 => by simp [enD]
  | d :: ds, k, i + 1 => by
    simp only [enD, List.getElem?_cons_succ]
    rw [enD_at ds (k + 1) i, show k + 1 + i = k + (i + 1) from by omega]
theorem enD_len : ∀ (ds : List D) (k : Nat), (enD k ds).length = ds.length
  | [], k => rfl
  | d :: ds, k => by simp [enD, enD_len ds (k + 1)]
theorem zpD_at : ∀ (as bs : List D) (i : Nat) (d : D), (zpD as bs)[i]? = some d → ∃ a b, as[i]? = some a ∧ bs[i]? = some b ∧ d = .tup [a, b]
  | [], _, i, d, h => by simp [zpD] at h
  | _ :: _, [], i, d, h => by simp [zpD] at h
  | a :: as, b :: bs, 0, d, h => by simp [zpD] at h; exact ⟨a, b, rfl, rfl, h.symm⟩
  | a :: as, b :: bs, i + 1, d, h => by
    simp only [zpD, List.getElem?_cons_succ] at h
    simpa using zpD_at as bs i d h
theorem zpD_len : ∀ (as bs : List D), (zpD as bs).length = min as.length bs.length
  | [], bs => by simp [zpD]
  | _ :: _, [] => by simp [zpD]
  | a :: as, b :: bs => by
    simp only [zpD, List.length_cons, zpD_len as bs]
    omega
section
variable {K : PySem.W.Frag} {H H' : Hp} {α α' : List Addr} {σ : Sg}
theorem SqB.stay {b : Bool} {a : Addr} {vs : List V} (t : Stay H α H' α') (h : match b with | true => SqF K H a vs | false => SqT K H a vs) : SqB b K H' a vs := by
  cases b
  · exact t.sqT h
  · exact (t.sqF h).sq
theorem fixSeq_ok {d : D} {v : V} {xs : List D} (h : Rx K H α σ d v) (e : fixSeq d = some xs) : ∃ (b : Bool) (a : Addr) (vs : List V), v = .ref a ∧ (match b with | true => SqF K H a vs | false => SqT K H a vs) ∧ Rvs K H α xs vs := by
  cases d <;> simp only [fixSeq, Option.some.injEq, reduceCtorEq] at e
  case tup ys =>
    subst e
    obtain ⟨a, vs, h1, h2, h3⟩ := asT_ok h
    exact ⟨false, a, vs, h1, h2, h3⟩
  case lst ys =>
    subst e
    have h' : Rv K H α (.lst ys) v := h
    simp only [Rv] at h'
    obtain ⟨a, vs, h1, h2, h3⟩ := h'
    exact ⟨true, a, vs, h1, h2, h3⟩
theorem walk_en {b : Bool} {a : Addr} {vs : List V} {xs : List D} (h : match b with | true => SqF K H a vs | false => SqT K H a vs) (rr : Rvs K H α xs vs) : WalkD K (JEn b K a) (enD 0 xs) H α := by
  refine ⟨fun H' α' t => ⟨vs, SqB.stay t h, by rw [enD_len, rr.length]⟩, fun H' α' i d t e => ?_, fun H0 α0 H' α' σ s i d x H2 t r e y => ?_⟩
  · rw [enD_at] at e
    simp only [Option.map_eq_some_iff] at e
    obtain ⟨d', e, rfl⟩ := e
    obtain ⟨v, ev, _⟩ := rr.at_ e
    exact ⟨vs, v, SqB.stay t h, ev⟩
  · rw [enD_at] at e
    simp only [Option.map_eq_some_iff] at e
    obtain ⟨d', e, rfl⟩ := e
    obtain ⟨T, w, rfl, hT, rfl, y⟩ := y
    obtain ⟨v, ev, rv⟩ := rr.at_ e
    have := y vs (SqB.stay t h)
    rw [ev] at this
    cases this
    have t2 : Stay H' α' (upd H' T (.tup [.int (i : Nat), w])) α' := Stay.upd_new hT
    refine ⟨r.new hT, t2, ?_⟩
    simp only [Rv]
    refine ⟨T, _, rfl, .inl (.inl upd_same), .cons ?_ (.single (Rv.stay (t.trans t2) _ _ rv))⟩
    simp only [Rv, Nat.zero_add]
theorem walk_zp {b c : Bool} {a d : Addr} {vs ws : List V} {xs ys : List D} (h : match b with | true => SqF K H a vs | false => SqT K H a vs) (rr : Rvs K H α xs vs) (h' : match c with | true => SqF K H d ws | false => SqT K H d ws) (rr' : Rvs K H α ys ws) : WalkD K (JZp b c K a d) (zpD xs ys) H α := by
  refine ⟨fun H' α' t => ⟨vs, ws, SqB.stay t h, SqB.stay t h', by rw [zpD_len, rr.length, rr'.length]⟩, fun H' α' i e t q => ?_, fun H0 α0 H' α' σ s i e x H2 t r q y => ?_⟩
  · obtain ⟨d1, d2, q1, q2, rfl⟩ := zpD_at _ _ _ _ q
    obtain ⟨v, ev, _⟩ := rr.at_ q1
    obtain ⟨w, ew, _⟩ := rr'.at_ q2
    exact ⟨vs, ws, v, w, SqB.stay t h, SqB.stay t h', ev, ew⟩
  · obtain ⟨d1, d2, q1, q2, rfl⟩ := zpD_at _ _ _ _ q
    obtain ⟨T, w1, w2, rfl, hT, rfl, y1, y2⟩ := y
    obtain ⟨v, ev, rv⟩ := rr.at_ q1
    obtain ⟨w, ew, rw⟩ := rr'.at_ q2
    have z1 := y1 vs (SqB.stay t h)
    have z2 := y2 ws (SqB.stay t h')
    rw [ev] at z1
    rw [ew] at z2
    cases z1
    cases z2
    have t2 : Stay H' α' (upd H' T (.tup [w1, w2])) α' := Stay.upd_new hT
    refine ⟨r.new hT, t2, ?_⟩
    simp only [Rv]
    exact ⟨T, _, rfl, .inl (.inl upd_same), .cons (Rv.stay (t.trans t2) _ _ rv) (.single (Rv.stay (t.trans t2) _ _ rw))⟩
end
def dIterEn (fa : FA) : FA := fun s => (fa s).bind fun ds s1 => match ds with | [d] => (match fixSeq d with | some xs => .ok (enD 0 xs) s1 | none => .bad) | _ => .bad
def dIterZp (fa : FA) : FA := fun s => (fa s).bind fun ds s1 => match ds with | [d, e] => (match fixSeq d, fixSeq e with | some xs, some ys => .ok (zpD xs ys) s1 | _, _ => .bad) | _ => .bad
section
variable {X : Cx}
theorem id_en {e : Expr} {fa : FA} {p pos tpos : Pos} {elts : List Expr} {kk : Nat} (ha : PAD X [e] fa) (hg : Gl X "enumerate") (hm : X.mg "enumerate" = none) (hs : starEach [e] X.env = [(false, eval e X.env)] := by rfl) : PID X (.Tuple elts kk tpos) (.Call (.Name "enumerate" p) [e] [] pos) (dIterEn fa) := by
  refine ⟨fun W tk => ?_⟩
  obtain ⟨t, pa, qa⟩ := ha.run W tk
  refine ⟨_, pi_enB hg hm pa hs, fun H0 α0 σ H α s R r q => qa H0 α0 σ H α s _ r ?_⟩
  unfold dIterEn at q
  cases ea : fa s with
  | bad => rw [ea] at q; exact q.elim
  | exc e s1 => rw [ea] at q; exact q
  | ok ds s1 =>
    rw [ea] at q
    intro vs H1 α1 r1 t1 rv
    simp only [Res.bind] at q
    split at q
    · rename_i d
      obtain ⟨v, rfl, rx⟩ := rv.one
      cases ef : fixSeq d with
      | none => rw [ef] at q; exact q.elim
      | some xs =>
        rw [ef] at q
        obtain ⟨b, a, vs, rfl, h1, rr⟩ := fixSeq_ok rx ef
        exact ⟨b, a, vs, rfl, SqB.stay (Stay.refl H1 α1) h1, q _ H1 α1 r1 t1 (walk_en h1 rr)⟩
    · exact q.elim
theorem id_zp {e e2 : Expr} {fa : FA} {p pos tpos : Pos} {elts : List Expr} {kk : Nat} (ha : PAD X [e, e2] fa) (hg : Gl X "zip") (hm : X.mg "zip" = none) (hs : starEach [e, e2] X.env = (false, eval e X.env) :: starEach [e2] X.env := by rfl) (hpl : (backTo pos (starEach [e2] X.env)).any (·.1) = false := by rfl) :
    PID X (.Tuple elts kk tpos) (.Call (.Name "zip" p) [e, e2] [] pos) (dIterZp fa) := by
  refine ⟨fun W tk => ?_⟩
  obtain ⟨t, pa, qa⟩ := ha.run W tk
  refine ⟨_, pi_zpB hg hm pa hs hpl, fun H0 α0 σ H α s R r q => qa H0 α0 σ H α s _ r ?_⟩
  unfold dIterZp at q
  cases ea : fa s with
  | bad => rw [ea] at q; exact q.elim
  | exc e s1 => rw [ea] at q; exact q
  | ok ds s1 =>
    rw [ea] at q
    intro vs H1 α1 r1 t1 rv
    simp only [Res.bind] at q
    split at q
    · rename_i d e
      obtain ⟨v, w, rfl, rx, ry⟩ := rv.two
      cases ef : fixSeq d with
      | none => rw [ef] at q; exact q.elim
      | some xs =>
        cases eg : fixSeq e with
        | none => rw [ef, eg] at q; exact q.elim
        | some ys =>
          rw [ef, eg] at q
          obtain ⟨b, a, vs, rfl, h1, rr⟩ := fixSeq_ok rx ef
          obtain ⟨c, a2, ws, rfl, h2, rr2⟩ := fixSeq_ok ry eg
          exact ⟨b, c, a, a2, vs, ws, rfl, SqB.stay (Stay.refl H1 α1) h1, SqB.stay (Stay.refl H1 α1) h2, q _ H1 α1 r1 t1 (walk_zp h1 rr h2 rr2)⟩
    · exact q.elim
end
end DL

namespace DL
open PySem PySem.Spec PyProof.Rows L2
variable [DLX]
/-! ### 26. List comprehensions -/
def wipeD (δ : List Slot) : List Nat → List Slot
  | [] => δ
  | v :: vs => (wipeD δ vs).set v .no
def backD (δ0 δ : List Slot) : List Nat → List Slot
  | [] => δ
  | v :: vs => (backD δ0 δ vs).set v (match δ0[v]? with | some sl => sl | none => .no)
def isOwn (δ : List Slot) (v : Nat) : Bool := match δ[v]? with | some (.own _) => true | _ => false
def dLcGo (vs : List Nat) (g : FG) (ft : FT) (fe : FE) : List D → S → Res (List D)
  | [], s => .ok [] s
  | d :: ds, s => match g d { s with δ := wipeD s.δ vs } with
    | none => .bad
    | some s1 => match ft s1 with
      | .ok true s2 => (match fe s2 with
        | .ok y s3 => if noOwn y then (dLcGo vs g ft fe ds { δ := backD s.δ s3.δ vs, μ := s3.μ }).bind fun ys s4 => .ok (y :: ys) s4 else .bad
        | _ => .bad)
      | .ok false s2 => dLcGo vs g ft fe ds { δ := backD s.δ s2.δ vs, μ := s2.μ }
      | _ => .bad
def dLc (vs : List Nat) (fi : FA) (g : FG) (ft : FT) (fe : FE) : FC := fun s => (fi s).bind fun ds s1 => if ds.length ≤ 16777216 && vs.all (fun v => !isOwn s1.δ v) then (match dLcGo vs g ft fe ds s1 with | .ok ys s2 => .ok (.lst ys) s2 | _ => .bad) else .bad
theorem wipeD_len (δ : List Slot) : ∀ vs : List Nat, (wipeD δ vs).length = δ.length
  | [] => rfl
  | v :: vs => by simp [wipeD, wipeD_len δ vs]
theorem wipeD_at {δ : List Slot} {i : Nat} {sl : Slot} : ∀ {vs : List Nat}, (wipeD δ vs)[i]? = some sl → (i ∈ vs ∧ sl = .no) ∨ (i ∉ vs ∧ δ[i]? = some sl)
  | [], h => .inr ⟨by simp, h⟩
  | v :: vs, h => by
    rcases get_set h with ⟨rfl, e, _⟩ | ⟨ne, e⟩
    · exact .inl ⟨by simp, e⟩
    · rcases wipeD_at e with ⟨a, b⟩ | ⟨a, b⟩
      · exact .inl ⟨by simp [a], b⟩
      · exact .inr ⟨by simp [a]; exact fun z => ne z.symm, b⟩
theorem backD_len (δ0 δ : List Slot) : ∀ vs : List Nat, (backD δ0 δ vs).length = δ.length
  | [] => rfl
  | v :: vs => by simp [backD, backD_len δ0 δ vs]
theorem backD_at {δ0 δ : List Slot} {i : Nat} {sl : Slot} : ∀ {vs : List Nat}, (backD δ0 δ vs)[i]? = some sl → (i ∈ vs ∧ (δ0[i]? = some sl ∨ sl = .no)) ∨ (i ∉ vs ∧ δ[i]? = some sl)
  | [], h => .inr ⟨by simp, h⟩
  | v :: vs, h => by
    rcases get_set h with ⟨rfl, e, _⟩ | ⟨ne, e⟩
    · refine .inl ⟨by simp, ?_⟩
      cases hd : δ0[v]? with
      | none => rw [hd] at e; exact .inr e
      | some s0 => rw [hd] at e; exact .inl (by rw [e])
    · rcases backD_at e with ⟨a, b⟩ | ⟨a, b⟩
      · exact .inl ⟨by simp [a], b⟩
      · exact .inr ⟨by simp [a]; exact fun z => ne z.symm, b⟩
theorem isOwn_no {δ : List Slot} {v : Nat} (h : isOwn δ v = false) {c : Cell} : δ[v]? ≠ some (.own c) := fun z => by
  unfold isOwn at h
  rw [z] at h
  cases h
section
variable {K : PySem.W.Frag} {H0 H H' : Hp} {α0 α α' : List Addr} {σ σ' : Sg} {s s' : S}
theorem wipe_at {σ : Sg} {i : Nat} : ∀ {vs : List Nat}, i ∉ vs → (wipe σ vs)[i]? = σ[i]?
  | [], _ => rfl
  | v :: vs, h => by
    simp only [List.mem_cons, not_or] at h
    unfold wipe
    rw [List.getElem?_set_ne (fun z => h.1 z.symm)]
    exact wipe_at h.2
theorem wipe_len (σ : Sg) : ∀ vs : List Nat, (wipe σ vs).length = σ.length
  | [] => rfl
  | v :: vs => by unfold wipe; rw [List.length_set, wipe_len σ vs]
theorem wipe_but {vs ws : List Nat} (b : But ws σ σ') (h : ∀ i ∈ ws, i ∈ vs) : wipe σ' vs = wipe σ vs := by
  apply List.ext_getElem?
  intro i
  by_cases hi : i ∈ vs
  · have key : ∀ (τ : Sg) (us : List Nat), i ∈ us → i < τ.length → (wipe τ us)[i]? = some none := by
      intro τ us
      induction us with
      | nil => intro h; simp at h
      | cons u us ih =>
        intro h hl
        unfold wipe
        by_cases e : u = i
        · subst e
          rw [List.getElem?_set_self (by rw [wipe_len]; exact hl)]
        · rw [List.getElem?_set_ne e]
          exact ih ((List.mem_cons.mp h).resolve_left fun z => e z.symm) hl
    by_cases hl : i < σ.length
    · rw [key σ' vs hi (by rw [b.len]; exact hl), key σ vs hi hl]
    · rw [List.getElem?_eq_none (by rw [wipe_len, b.len]; omega), List.getElem?_eq_none (by rw [wipe_len]; omega)]
  · rw [wipe_at hi, wipe_at hi]
    exact b.at_ i fun z => hi (h i z)
theorem wipe_wipe (σ : Sg) (vs : List Nat) : L2.wipe (L2.wipe σ vs) vs = L2.wipe σ vs := wipe_but (ws := vs) ⟨wipe_len _ _, fun j h => wipe_at h⟩ fun _ h => h
theorem Rel.wipe (r : Rel K H0 α0 H α σ s) (vs : List Nat) : Rel K H0 α0 H α (L2.wipe σ vs) { s with δ := wipeD s.δ vs } :=
  r.less (wipeD_len _ _) (fun i sl e => by
    rcases wipeD_at e with ⟨_, z⟩ | ⟨n, z⟩
    · exact .inl z
    · exact .inr ⟨z, wipe_at n⟩) (wipe_len _ _)
/-- the block's names given back -/
theorem Rel.back {vs ws : List Nat} (r : Rel K H0 α0 H α σ s) (no : ∀ v ∈ vs, isOwn s.δ v = false) (t : Stay H α H' α') (r' : Rel K H0 α0 H' α' σ' s') (b : But ws (L2.wipe σ vs) σ') (h : ∀ i ∈ ws, i ∈ vs) :
    Rel K H0 α0 H' α' σ { δ := backD s.δ s'.δ vs, μ := s'.μ } := by
  have hs : ∀ i, i ∉ vs → σ'[i]? = σ[i]? := fun i hi => by rw [b.at_ i (fun z => hi (h i z)), wipe_at hi]
  refine ⟨r'.cells, ⟨by rw [backD_len, ← r'.slots.len, b.len, wipe_len], fun i d e => ?_, fun i c e => ?_, fun i j c c' a e1 e2 e3 e4 => ?_⟩, r'.ot, r'.nw, r'.st⟩
  · rcases backD_at e with ⟨hi, z | z⟩ | ⟨hi, z⟩
    · obtain ⟨v, e1, e2⟩ := r.slots.val i d z
      exact ⟨v, e1, Rv.stay t _ _ e2⟩
    · cases z
    · rw [← hs i hi]
      exact r'.slots.val i d z
  · rcases backD_at e with ⟨hi, z | z⟩ | ⟨hi, z⟩
    · exact (isOwn_no (no i hi) z).elim
    · cases z
    · rw [← hs i hi]
      exact r'.slots.own i c z
  · rcases backD_at e1 with ⟨hi, z | z⟩ | ⟨hi, z1⟩
    · exact (isOwn_no (no i hi) z).elim
    · cases z
    · rcases backD_at e2 with ⟨hj, z | z⟩ | ⟨hj, z2⟩
      · exact (isOwn_no (no j hj) z).elim
      · cases z
      · rw [← hs i hi] at e3
        rw [← hs j hj] at e4
        exact r'.slots.inj i j c c' a z1 z2 e3 e4
theorem back_no {δ0 δ : List Slot} {vs : List Nat} (no : ∀ v ∈ vs, isOwn δ0 v = false) : ∀ v ∈ vs, isOwn (backD δ0 δ vs) v = false := fun v hv => by
  cases e : (backD δ0 δ vs)[v]? with
  | none => unfold isOwn; rw [e]
  | some sl =>
    unfold isOwn
    rw [e]
    rcases backD_at e with ⟨_, z | z⟩ | ⟨n, _⟩
    · have := no v hv
      unfold isOwn at this
      rw [z] at this
      exact this
    · rw [z]
    · exact (n hv).elim
/-- a new thing at p that the run leaves alone: it stands in the def's entry heap -/
theorem Rel.pin {p : Addr} {o : HO} (r : Rel K H0 α0 H α σ s) (h : H p = none) (nf : ¬ Fixed o) : Rel K (upd H0 p o) α0 (upd H p o) α σ s := by
  have h0 := r.free0 h
  have r1 := r.new (o := o) h
  refine ⟨r1.cells, ⟨r1.slots.len, r1.slots.val, fun i c e => ?_, r1.slots.inj⟩, fun a u e n => ?_, fun a ha => ?_, ⟨fun a u e f => ?_, r1.st.pre, fun a e => ?_⟩⟩
  · obtain ⟨a, e1, e2, e3, e4⟩ := r1.slots.own i c e
    obtain ⟨a', e1', _, _, e4'⟩ := r.slots.own i c e
    rw [e1] at e1'
    cases e1'
    obtain ⟨o', ho⟩ := e4'.some
    exact ⟨a, e1, e2, by rw [upd_ne (fun z => by subst z; rw [h] at ho; cases ho)]; exact e3, e4⟩
  · by_cases z : a = p
    · subst z
      rw [upd_same] at e ⊢
      exact e
    · rw [upd_ne z] at e ⊢
      exact r.ot a u e n
  · rcases r.nw a ha with z | z
    · exact .inl z
    · refine .inr ?_
      rw [upd_ne]
      · exact z
      · rintro rfl
        exact r.nota h ha
  · by_cases z : a = p
    · subst z
      rw [upd_same] at e
      cases e
      exact (nf f).elim
    · rw [upd_ne z] at e ⊢
      exact r.st.im a u e f
  · by_cases z : a = p
    · subst z
      rw [upd_same] at e
      cases e
    · rw [upd_ne z] at e ⊢
      exact r.st.dom a e
theorem Rel.pinned {p : Addr} {o : HO} (r : Rel K (upd H0 p o) α0 H α σ s) (n : p ∉ α0) : H p = some o := r.ot p o upd_same n
/-- the pinned thing changes -/
theorem Rel.repin {p : Addr} {o o' : HO} (r : Rel K (upd H0 p o) α0 H α σ s) (n : p ∉ α0) (nf : ¬ Fixed o) (nf' : ¬ Fixed o') : Rel K (upd H0 p o') α0 (upd H p o') α σ s ∧ Stay H α (upd H p o') α := by
  have hp := r.pinned n
  have na : p ∉ α := fun z => by
    rcases r.nw p z with w | w
    · exact n w
    · rw [upd_same] at w; cases w
  have t : Stay H α (upd H p o') α := ⟨fun a u e f => by
    by_cases z : a = p
    · subst z
      rw [hp] at e
      cases e
      exact (nf f).elim
    · rw [upd_ne z]; exact e, List.prefix_rfl, fun a e => by
    by_cases z : a = p
    · subst z
      rw [upd_same] at e
      cases e
    · rw [upd_ne z] at e; exact e⟩
  refine ⟨⟨⟨r.cells.len, r.cells.nd, fun m a c e1 e2 => ?_⟩, ⟨r.slots.len, fun i d e => ?_, fun i c e => ?_, r.slots.inj⟩, fun a u e m => ?_, fun a ha => ?_, ⟨fun a u e f => ?_, r.st.pre, fun a e => ?_⟩⟩, t⟩
  · refine (r.cells.at_ m a c e1 e2).stay t fun u hu _ => ?_
    rw [upd_ne]
    · exact hu
    · rintro rfl
      exact na (List.mem_of_getElem? e1)
  · obtain ⟨v, e1, e2⟩ := r.slots.val i d e
    exact ⟨v, e1, Rv.stay t _ _ e2⟩
  · obtain ⟨a, e1, e2, e3, e4⟩ := r.slots.own i c e
    have ne : a ≠ p := by
      rintro rfl
      rw [upd_same] at e3
      cases e3
    rw [upd_ne ne] at e3
    refine ⟨a, e1, e2, by rw [upd_ne ne]; exact e3, e4.stay t fun u hu _ => ?_⟩
    rw [upd_ne ne]
    exact hu
  · by_cases z : a = p
    · subst z
      rw [upd_same] at e ⊢
      exact e
    · rw [upd_ne z] at e ⊢
      exact r.ot a u (by rw [upd_ne z]; exact e) m
  · rcases r.nw a ha with z | z
    · exact .inl z
    · refine .inr ?_
      have ne : a ≠ p := by
        rintro rfl
        exact na ha
      rw [upd_ne ne] at z ⊢
      exact z
  · by_cases z : a = p
    · subst z
      rw [upd_same] at e
      cases e
      exact (nf' f).elim
    · rw [upd_ne z] at e ⊢
      exact r.st.im a u (by rw [upd_ne z]; exact e) f
  · by_cases z : a = p
    · subst z
      rw [upd_same] at e
      cases e
    · rw [upd_ne z] at e ⊢
      have := r.st.dom a e
      rw [upd_ne z] at this
      exact this
theorem Rel.unpin {p : Addr} {o : HO} (r : Rel K (upd H0 p o) α0 H α σ s) (h0 : H0 p = none) : Rel K H0 α0 H α σ s := by
  refine ⟨r.cells, ⟨r.slots.len, r.slots.val, fun i c e => ?_, r.slots.inj⟩, fun a u e m => ?_, fun a ha => ?_, ⟨fun a u e f => ?_, r.st.pre, fun a e => ?_⟩⟩
  · obtain ⟨a, e1, e2, e3, e4⟩ := r.slots.own i c e
    refine ⟨a, e1, e2, ?_, e4⟩
    by_cases z : a = p
    · subst z; exact h0
    · rw [upd_ne z] at e3; exact e3
  · have z : a ≠ p := by rintro rfl; rw [h0] at e; cases e
    exact r.ot a u (by rw [upd_ne z]; exact e) m
  · rcases r.nw a ha with w | w
    · exact .inl w
    · by_cases z : a = p
      · subst z; exact .inr h0
      · rw [upd_ne z] at w; exact .inr w
  · have z : a ≠ p := by rintro rfl; rw [h0] at e; cases e
    exact r.st.im a u (by rw [upd_ne z]; exact e) f
  · have w := r.st.dom a e
    by_cases z : a = p
    · subst z; exact h0
    · rw [upd_ne z] at w; exact w
theorem Rel.pinRF {p : Addr} {o : HO} {c : Cell} (r : Rel K (upd H0 p o) α0 H α σ s) (h0 : H0 p = none) (n : p ∉ α0) (hc : CellOk K H α p c) : RF K H0 H α σ s p c := by
  refine ⟨hc, fun z => ?_, h0, fun i c' e1 e2 => ?_⟩
  · rcases r.nw p z with w | w
    · exact n w
    · rw [upd_same] at w; cases w
  · obtain ⟨a, e3, e4, e5, e6⟩ := r.slots.own i c' e1
    rw [e2] at e3
    cases e3
    rw [upd_same] at e5
    cases e5
end
/-! tests of a clause -/
structure PTsD (X : Cx) (ifs : List Expr) (f : FT) : Prop where
  run : ∀ W, Takes X W → ∃ t, PTs X ifs t ∧ ∀ H0 α0 σ H α s Q, Rel X.K H0 α0 H α σ s → PostT X.K H0 α0 σ W H α Q (f s) → t σ H Q
def dYes : FT := fun s => .ok true s
theorem td_nil {X : Cx} : PTsD X [] dYes := ⟨fun W _ => ⟨_, pts_nil, fun H0 α0 σ H α s Q r q => q H α r (Stay.refl _ _)⟩⟩
theorem td_one {X : Cx} {c : Expr} {f : FT} (h : PTD X c f) : PTsD X [c] f := ⟨fun W tk => let ⟨t, p, q⟩ := h.run W tk; ⟨t, pts_one p, q⟩⟩
structure Blk where
  s : Shared
  H : Hp
  C : Addr
  cl : List (Str × Addr)
  fp : List Addr
abbrev CxB (X : Cx) (scope : Scope) (b : Blk) : Cx := X.blk b.s b.H scope (compEnvC scope b.cl b.C X.env) b.fp
section
variable {X : Cx} {elt tg iter : Expr} {ifs : List Expr} {scope : Scope} {own : List (Str × Nat)} {pos : Pos} {fi : FA} {g : FG} {ft : FT} {fe : FE} {ws : List Nat}
theorem lc_ex (hi : PID X tg iter fi) (hw : ws.all (fun i => (own.map (·.2)).contains i) = true) (hg : ∀ b, PGD (CxB X scope b) tg ws g) (ht : ∀ b, PTsD (CxB X scope b) ifs ft) (he : ∀ b, PED (CxB X scope b) elt fe) (W : WX) (tk : Takes X W) :
    ∃ wi tg' tt te, PI X tg iter wi ∧ (∀ b, PG (CxB X scope b) tg tg') ∧ (∀ b, PTs (CxB X scope b) ifs tt) ∧ (∀ b, PE (CxB X scope b) elt te) ∧ ∀ H0 α0 σ H α s Q, Rel X.K H0 α0 H α σ s → PostF X.K H0 α0 σ W H α Q (dLc (own.map (·.2)) fi g ft fe s) → tLc wi tg' tt te (own.map (·.2)) σ H Q := by
  obtain ⟨wi, pi, qi⟩ := hi.run W tk
  have hg' := fun b => (hg b).ex
  have ht' := fun b => (ht b).run _ Takes.none
  have he' := fun b => (he b).run _ Takes.none
  obtain ⟨tg1, hg2⟩ := Classical.axiomOfChoice hg'
  obtain ⟨tt1, ht2⟩ := Classical.axiomOfChoice ht'
  obtain ⟨te1, he2⟩ := Classical.axiomOfChoice he'
  have pg := fun b => (hg2 b).1
  have qg := fun b => (hg2 b).2
  have pt := fun b => (ht2 b).1
  have qt := fun b => (ht2 b).2
  have pe := fun b => (he2 b).1
  have qe := fun b => (he2 b).2
  refine ⟨wi, fun v σ H Q => ∀ b, tg1 b v σ H Q, fun σ H Q => ∀ b, tt1 b σ H Q, fun σ H Q => ∀ b, te1 b σ H Q, pi, fun b => ⟨fun pins s v u σ H Q I r h => (pg b).run pins s v u σ H Q I r (h b)⟩, fun b => ⟨fun pins s σ H Q I h => (pt b).run pins s σ H Q I (h b)⟩, fun b => ⟨fun pins s σ H Q I h => (pe b).run pins s σ H Q I (h b)⟩, fun H0 α0 σ H α s Q r q => qi H0 α0 σ H α s _ r ?_⟩
  unfold dLc at q
  cases ei : fi s with
  | bad => rw [ei] at q; exact q.elim
  | exc e s1 => rw [ei] at q; exact q
  | ok ds s1 =>
    rw [ei] at q
    intro J H1 α1 r1 t1 w
    simp only [Res.bind] at q
    split at q
    · rename_i hc
      rw [Bool.and_eq_true, decide_eq_true_eq] at hc
      obtain ⟨hl, hno⟩ := hc
      have no1 : ∀ v ∈ own.map (·.2), isOwn s1.δ v = false := fun v hv => by simpa using List.all_eq_true.mp hno v hv
      have hws : ∀ i ∈ ws, i ∈ own.map (·.2) := fun i h => by simpa using List.all_eq_true.mp hw i h
      generalize own.map (·.2) = vs at *
      intro Dd hD
      have h0 : H0 Dd = none := r1.free0 hD
      have n0 : Dd ∉ α0 := fun z => r1.nota hD (r1.st.pre.subset z)
      refine ⟨fun i m H => i + m = ds.length ∧ ∃ s' α' acc vacc, Rel X.K (upd H0 Dd (.lst vacc)) α0 H α' σ s' ∧ Stay H1 α1 H α' ∧ Rvs X.K H α' acc vacc ∧ acc.length ≤ i ∧ (∀ v ∈ vs, isOwn s'.δ v = false) ∧
        PostF X.K H0 α0 σ W H α' Q (match dLcGo vs g ft fe (ds.drop i) s' with | .ok ys s2 => .ok (.lst (acc ++ ys)) s2 | _ => .bad), ⟨ds.length, Nat.zero_add _, s1, α1, [], [], r1.pin hD (fun z => z), Stay.upd_new hD, .nil, Nat.zero_le _, no1, ?_⟩, ?_⟩
      · rw [List.drop_zero]
        have q2 : PostF X.K H0 α0 σ W H α Q (match dLcGo vs g ft fe ds s1 with | .ok ys s2 => .ok (.lst ys) s2 | _ => .bad) := q
        cases eg : dLcGo vs g ft fe ds s1 <;> rw [eg] at q2 <;> simp only [List.nil_append] at q2 ⊢
        · exact fun a H' α' r' t' rf => q2 a H' α' r' (t1.trans ((Stay.upd_new hD).trans t')) rf
        · exact q2
        · exact q2
      · rintro i m H2 ⟨hm, s', α', acc, vacc, rl, st, ra, hai, no, k⟩
        cases m with
        | zero =>
          have e : i = ds.length := by omega
          subst e
          rw [List.drop_length] at k
          simp only [dLcGo, List.append_nil] at k
          refine .inl ⟨w.stop H2 α' st, k Dd H2 α' (rl.unpin h0) (Stay.refl _ _) (rl.pinRF h0 n0 ⟨vacc, rl.pinned n0, ra⟩)⟩
        | succ m =>
          have hi : i < ds.length := by omega
          have ed := List.getElem?_eq_getElem hi
          rw [List.drop_eq_getElem_cons hi] at k
          refine .inr ⟨w.go H2 α' i _ st ed, fun H' => ∃ m', m' < m + 1 ∧ (i + 1) + m' = ds.length ∧ ∃ s' α' acc vacc, Rel X.K (upd H0 Dd (.lst vacc)) α0 H' α' σ s' ∧ Stay H1 α1 H' α' ∧ Rvs X.K H' α' acc vacc ∧ acc.length ≤ i + 1 ∧ (∀ v ∈ vs, isOwn s'.δ v = false) ∧
            PostF X.K H0 α0 σ W H' α' Q (match dLcGo vs g ft fe (ds.drop (i + 1)) s' with | .ok ys s2 => .ok (.lst (acc ++ ys)) s2 | _ => .bad), fun _ z => z, fun x H3 hy => ?_⟩
          obtain ⟨r3, t3, rv⟩ := w.yld _ α0 H2 α' σ s' i _ x H3 st rl ed hy
          unfold dLcGo at k
          cases eg : g ds[i] { s' with δ := wipeD s'.δ vs } with
          | none => rw [eg] at k; exact k.elim
          | some s4 =>
            rw [eg] at k
            intro b
            refine qg b _ α0 _ H3 α' _ _ x s4 _ (r3.wipe vs) rv eg fun σ4 H4 r4 t4 b4 => ⟨by rw [wipe_but b4 hws]; exact wipe_wipe σ vs, fun b => ?_⟩
            refine qt b _ α0 σ4 H4 α' s4 _ r4 ?_
            simp only at k
            cases et : ft s4 with
            | bad => rw [et] at k; exact k.elim
            | exc e s5 => rw [et] at k; exact k.elim
            | ok bb s5 =>
              rw [et] at k
              intro H5 α5 r5 t5
              have t35 := (t3.trans t4).trans t5
              cases bb with
              | false =>
                simp only at k
                rw [if_neg Bool.false_ne_true]
                refine ⟨m, Nat.lt_succ_self m, by omega, _, α5, acc, vacc, r3.back no (t4.trans t5) r5 b4 hws, st.trans t35, Rvs.stay t35 _ _ ra, by omega, back_no no, ?_⟩
                cases eq : dLcGo vs g ft fe (ds.drop (i + 1)) { δ := backD s'.δ s5.δ vs, μ := s5.μ } <;> rw [eq] at k <;> simp only at k ⊢
                · exact fun a H' α' r' t' rf => k a H' α' r' (t35.trans t') rf
                · exact k
                · exact k
              | true =>
                simp only at k
                rw [if_pos rfl]
                intro b
                refine qe b _ α0 σ4 H5 α5 s5 _ r5 ?_
                cases ee : fe s5 with
                | bad => rw [ee] at k; exact k.elim
                | exc e s6 => rw [ee] at k; exact k.elim
                | ok y s6 =>
                  rw [ee] at k
                  intro v H6 α6 r6 t6 rx
                  simp only at k
                  cases hny : noOwn y with
                  | false => rw [hny, if_neg Bool.false_ne_true] at k; exact k.elim
                  | true =>
                    rw [hny, if_pos rfl] at k
                    have rvy := noOwn_rv rx hny
                    have rb := r3.back no ((t4.trans t5).trans t6) r6 b4 hws
                    obtain ⟨rp, tp⟩ := rb.repin (o' := .lst (vacc ++ [v])) n0 (fun z => z) (fun z => z)
                    have t36 := (t35.trans t6).trans tp
                    have hlen : acc.length < sizeLine := by rw [sizeLine_eq]; omega
                    refine ⟨vacc, r6.pinned n0, by rw [ra.length]; exact hlen, m, Nat.lt_succ_self m, by omega, _, α6, acc ++ [y], vacc ++ [v], rp, st.trans t36, (Rvs.stay t36 _ _ ra).append (.single (Rv.stay tp _ _ rvy)), by simp; omega, back_no no, ?_⟩
                    cases eq : dLcGo vs g ft fe (ds.drop (i + 1)) { δ := backD s'.δ s6.δ vs, μ := s6.μ } <;> rw [eq] at k <;> simp only [Res.bind] at k ⊢
                    · rw [List.append_assoc]
                      exact fun a H' α' r' t' rf => k a H' α' r' (t36.trans t') rf
                    · exact k
                    · exact k
    · exact q.elim
theorem pf_lc (hc : X.calm = true) (hN : X.N.Nodup) (ok : blkC X.N X.env.scope scope own = true) (hi : PID X tg iter fi) (hg : ∀ b, PGD (CxB X scope b) tg ws g) (ht : ∀ b, PTsD (CxB X scope b) ifs ft) (he : ∀ b, PED (CxB X scope b) elt fe) (hw : ws.all (fun i => (own.map (·.2)).contains i) = true := by rfl)
    (hs : ∀ x, foldedSetIterable iter X.env x = pure x := by intro _; rfl) : PFD X (.ListComp elt [⟨tg, iter, ifs, 0⟩] scope pos) (dLc (own.map (·.2)) fi g ft fe) := by
  refine ⟨fun W tk => ?_⟩
  obtain ⟨wi, tg', tt, te, h1, h2, h3, h4, h5⟩ := lc_ex hi hw hg ht he W tk
  exact ⟨_, pe_lc hc hN h1 (blkOk_by ok) (fun s H C cl fp => h2 ⟨s, H, C, cl, fp⟩) (fun s H C cl fp => h3 ⟨s, H, C, cl, fp⟩) (fun s H C cl fp => h4 ⟨s, H, C, cl, fp⟩) hs, h5⟩
/-- name = [..] on one line: the name's own -/
theorem sd_setLc {i : Nat} {y : Str} {py spos : Pos} (hc : X.calm = true) (hN : X.N.Nodup) (hy : X.N[i]? = some y) (hyl : X.env.scope.names.lookup y = some .local) (hsw : swapsWith (.ListComp elt [⟨tg, iter, ifs, 0⟩] scope pos) (some (.Name y py)) spos.line X.env = pure true)
    (ok : blkC X.N X.env.scope scope own = true) (hi : PID X tg iter fi) (hg : ∀ b, PGD (CxB X scope b) tg ws g) (ht : ∀ b, PTsD (CxB X scope b) ifs ft) (he : ∀ b, PED (CxB X scope b) elt fe) (hw : ws.all (fun i => (own.map (·.2)).contains i) = true := by rfl)
    (hs : ∀ x, foldedSetIterable iter X.env x = pure x := by intro _; rfl) : PSD X (.Assign [.Name y py] (.ListComp elt [⟨tg, iter, ifs, 0⟩] scope pos) spos) (dAsgO i (dLc (own.map (·.2)) fi g ft fe)) := by
  refine ⟨fun W tk => ?_⟩
  obtain ⟨wi, tg', tt, te, h1, h2, h3, h4, h5⟩ := lc_ex hi hw hg ht he W tk
  refine ⟨_, ps_setLc hc hN hy hyl hsw h1 (blkOk_by ok) (fun s H C cl fp => h2 ⟨s, H, C, cl, fp⟩) (fun s H C cl fp => h3 ⟨s, H, C, cl, fp⟩) (fun s H C cl fp => h4 ⟨s, H, C, cl, fp⟩) hs, fun H0 α0 σ H α s D r k => h5 H0 α0 σ H α s _ r ?_⟩
  unfold dAsgO at k
  cases ea : dLc (own.map (·.2)) fi g ft fe s with
  | bad => rw [ea] at k; exact k.elim
  | exc e s1 => rw [ea] at k; exact fun cls dd H' α' r' x => k cls dd σ H' α' r' x
  | ok c s1 =>
    rw [ea] at k
    exact fun a H1 α1 r1 t1 rf => k _ H1 α1 (r1.setO rf) t1
end
end DL

namespace DL
open PySem PySem.Spec PyProof.Rows L2
variable [DLX]
/-! ### 27. Things that change: methods, stores -/
def mutAt (s : S) : D → Option Cell
  | .own i => (match s.δ[i]? with | some (.own c) => some c | _ => none)
  | .ref n => s.μ[n]?
  | _ => none
def setAt (s : S) (o : D) (c : Cell) : S := match o with
  | .own i => { s with δ := s.δ.set i (.own c) }
  | .ref n => { s with μ := s.μ.set n c }
  | _ => s
theorem cell_mut {K : PySem.W.Frag} {H : Hp} {α : List Addr} {a : Addr} {c : Cell} (h : CellOk K H α a c) (nd : c ≠ .dead) : ∃ u, H a = some u ∧ ¬ Fixed u := by
  cases c with
  | lst xs => obtain ⟨vs, h, _⟩ := h; exact ⟨_, h, fun z => z⟩
  | dct kvs =>
    rcases h with ⟨kv, h, _⟩ | ⟨kv, _, h, _⟩
    · exact ⟨_, h, fun z => z⟩
    · exact ⟨_, h, fun z => z⟩
  | ins C fs => obtain ⟨_, _, h, _⟩ := h; exact ⟨_, h, fun z => z⟩
  | dead => exact absurd rfl nd
  | tab n => obtain ⟨_, _, _, h, _⟩ := h; exact ⟨_, h, fun z => z⟩
section
variable {K : PySem.W.Frag} {H0 H H' : Hp} {α0 α : List Addr} {σ : Sg} {s : S}
theorem stay_mut {a : Addr} {u : HO} (hu : H a = some u) (nf : ¬ Fixed u) (k : ∀ b o, b ≠ a → H b = some o → H' b = some o) (dm : ∀ b, H' b = none → H b = none) : Stay H α H' α :=
  ⟨fun b o e f => k b o (fun z => by subst z; rw [hu] at e; cases e; exact nf f) e, List.prefix_rfl, dm⟩
theorem mut_at {o : D} {v : V} {c : Cell} (r : Rel K H0 α0 H α σ s) (rx : Rx K H α σ o v) (e : mutAt s o = some c) : ∃ a, v = .ref a ∧ CellOk K H α a c ∧
    ∀ H' c', (∀ b u, b ≠ a → H b = some u → H' b = some u) → Stay H α H' α → CellOk K H' α a c' → Rel K H0 α0 H' α σ (setAt s o c') := by
  unfold mutAt at e
  split at e
  · rename_i i
    split at e
    · rename_i c0 hc
      cases e
      obtain ⟨a, h1, h2, h3, h4⟩ := r.slots.own i c hc
      have h' : σ[i]? = some (some v) := rx
      rw [h1] at h'
      cases h'
      refine ⟨a, rfl, h4, fun H' c' k t hc' => ?_⟩
      refine ⟨⟨r.cells.len, r.cells.nd, fun n b x e1 e2 => ?_⟩, ⟨by simpa [setAt] using r.slots.len, fun j d e => ?_, fun j x e => ?_, fun j l x y b e1 e2 e3 e4 => ?_⟩, fun b u e m => ?_, r.nw, r.st.trans t⟩
      · exact (r.cells.at_ n b x e1 e2).stay t fun u hu _ => k b u (fun z => h2 (z ▸ List.mem_of_getElem? e1)) hu
      · rcases get_set e with ⟨_, z, _⟩ | ⟨ne, z⟩
        · cases z
        · obtain ⟨w, e1, e2⟩ := r.slots.val j d z
          exact ⟨w, e1, Rv.stay t _ _ e2⟩
      · rcases get_set e with ⟨rfl, z, _⟩ | ⟨ne, z⟩
        · cases z
          exact ⟨a, h1, h2, h3, hc'⟩
        · obtain ⟨b, e1, e2, e3, e4⟩ := r.slots.own j x z
          refine ⟨b, e1, e2, e3, e4.stay t fun u hu _ => k b u (fun w => ?_) hu⟩
          subst w
          exact ne (r.slots.inj i j c x b hc z h1 e1)
      · have back : ∀ {j : Nat} {x : Cell}, (s.δ.set i (.own c'))[j]? = some (.own x) → ∃ y, s.δ[j]? = some (.own y) := fun {j x} e => by
          rcases get_set e with ⟨rfl, _, _⟩ | ⟨_, z⟩
          · exact ⟨_, hc⟩
          · exact ⟨_, z⟩
        obtain ⟨x', z1⟩ := back e1
        obtain ⟨y', z2⟩ := back e2
        exact r.slots.inj j l x' y' b z1 z2 e3 e4
      · exact k b u (fun z => by subst z; rw [h3] at e; cases e) (r.ot b u e m)
    · cases e
  · rename_i n
    have h' : Rv K H α (.ref n) v := rx
    simp only [Rv] at h'
    obtain ⟨a, ha, rfl⟩ := h'
    refine ⟨a, rfl, r.cells.at_ n a c ha e, fun H' c' k t hc' => ?_⟩
    have hm := List.mem_of_getElem? ha
    refine ⟨⟨by simpa [setAt] using r.cells.len, r.cells.nd, fun m b x e1 e2 => ?_⟩, ⟨r.slots.len, fun j d e => ?_, fun j x e => ?_, r.slots.inj⟩, fun b u e m => ?_, r.nw, r.st.trans t⟩
    · rcases get_set e2 with ⟨rfl, z, _⟩ | ⟨ne, z⟩
      · rw [ha] at e1
        cases e1
        rw [z]
        exact hc'
      · refine (r.cells.at_ m b x e1 z).stay t fun u hu _ => k b u (fun w => ?_) hu
        subst w
        exact ne ((List.getElem?_inj (List.getElem?_eq_some_iff.mp ha).1 r.cells.nd).mp (ha.trans e1.symm))
    · obtain ⟨w, e1, e2⟩ := r.slots.val j d e
      exact ⟨w, e1, Rv.stay t _ _ e2⟩
    · obtain ⟨b, e1, e2, e3, e4⟩ := r.slots.own j x e
      exact ⟨b, e1, e2, e3, e4.stay t fun u hu _ => k b u (fun w => e2 (w ▸ hm)) hu⟩
    · refine k b u (fun z => ?_) (r.ot b u e m)
      subst z
      rcases r.nw b hm with w | w
      · exact m w
      · rw [w] at e; cases e
  · cases e
/-- the thing at a becomes o -/
theorem mut_upd {a : Addr} {u o : HO} (hu : H a = some u) (nf : ¬ Fixed u) : (∀ b w, b ≠ a → H b = some w → upd H a o b = some w) ∧ Stay H α (upd H a o) α := by
  have k : ∀ b w, b ≠ a → H b = some w → upd H a o b = some w := fun b w ne e => by rw [upd_ne ne]; exact e
  refine ⟨k, stay_mut hu nf k fun b e => ?_⟩
  by_cases z : b = a
  · subst z; rw [upd_same] at e; cases e
  · rw [upd_ne z] at e; exact e
end
/-- a method does g -/
def MB (X : Cx) (id : String) (g : S → D → List D → Option (D × S)) : Prop :=
  ∀ (pins : List (Addr × Obj)) (s : Shared) (σ0 : Sg) (H : Hp) (xv : V) (xs : List V) (v : Value) (us : List Value) (Q : VK) (H0 : Hp) (σ : Sg) (α0 α : List Addr) (st : S) (o : D) (ds : List D) (d : D) (st' : S), Inv X pins σ0 H s → Rel X.K H0 α0 H α σ st → Rx X.K H α σ o xv → Rxs X.K H α σ ds xs → RelV xv v → Vals xs us → g st o ds = some (d, st') →
    (∀ w H' α', Rel X.K H0 α0 H' α' σ st' → Stay H α H' α' → Rx X.K H' α' σ d w → Q w H') → wpAny (model X.prog X.w) X.A (call (.builtin id) (v :: us)) (EP X pins σ0 Q) X.xe s
def rMB (K : PySem.W.Frag) (g : S → D → List D → Option (D × S)) : V → List V → Hp → VK → Prop := fun xv xs H Q => ∃ H0 σ α0 α st o ds d st', Rel K H0 α0 H α σ st ∧ Rx K H α σ o xv ∧ Rxs K H α σ ds xs ∧ g st o ds = some (d, st') ∧ ∀ w H' α', Rel K H0 α0 H' α' σ st' → Stay H α H' α' → Rx K H' α' σ d w → Q w H'
theorem MB.mt {X : Cx} {id : String} {g : S → D → List D → Option (D × S)} (h : MB X id g) : MtM X id (rMB X.K g) := fun pins s σ0 H xv xs v us Q I rv rvs ⟨H0, σ, α0, α, st, o, ds, d, st', rl, rx, rxs, e, q⟩ => h pins s σ0 H xv xs v us Q H0 σ α0 α st o ds d st' I rl rx rxs rv rvs e q
theorem MB.of {X : Cx} {id : String} {r : V → List V → Hp → VK → Prop} {g : S → D → List D → Option (D × S)} (hm : MtM X id r)
    (h : ∀ (H0 : Hp) (α0 : List Addr) (σ : Sg) (H : Hp) (α : List Addr) (s : S) (xv : V) (xs : List V) (o : D) (ds : List D) (d : D) (s' : S) (Q : VK), Rel X.K H0 α0 H α σ s → Rx X.K H α σ o xv → Rxs X.K H α σ ds xs → g s o ds = some (d, s') →
      (∀ w H' α', Rel X.K H0 α0 H' α' σ s' → Stay H α H' α' → Rx X.K H' α' σ d w → Q w H') → r xv xs H Q) : MB X id g :=
  fun pins s σ0 H xv xs v us Q H0 σ α0 α st o ds d st' I rl rx rxs rv rvs e q => hm pins s σ0 H xv xs v us Q I rv rvs (h H0 α0 σ H α st xv xs o ds d st' Q rl rx rxs e q)
theorem MB.or {X : Cx} {id : String} {g g' : S → D → List D → Option (D × S)} (h : MB X id g) (h' : MB X id g') : MB X id (fun s o ds => (g s o ds).or (g' s o ds)) := fun pins s σ0 H xv xs v us Q H0 σ α0 α st o ds d st' I rl rx rxs rv rvs eg q => by
  dsimp only at eg
  cases e : g st o ds with
  | some d' =>
    rw [e] at eg
    obtain rfl : d' = (d, st') := Option.some.inj eg
    exact h pins s σ0 H xv xs v us Q H0 σ α0 α st o ds d st' I rl rx rxs rv rvs e q
  | none =>
    rw [e] at eg
    exact h' pins s σ0 H xv xs v us Q H0 σ α0 α st o ds d st' I rl rx rxs rv rvs eg q
/-- the type of data, as a method call reads it -/
theorem typ_d {X : Cx} {pins : List (Addr × Obj)} {s : Shared} {σ0 σ : Sg} {H H0 : Hp} {α0 α : List Addr} {st : S} {d : D} {v : V} {u : Value} {T : String} (I : Inv X pins σ0 H s) (rl : Rel X.K H0 α0 H α σ st) (h : Rx X.K H α σ d v) (r : RelV v u) (e : tyD st d = some T) (ne : T = "list" ∨ T = "dict" ∨ T = "str" ∨ T = "int") :
    s.TypeIs u T ∧ ∀ a, u = .ref a → ∃ ob, s.heap.get? a = some ob ∧ ob.dict = none := by
  have lst : ∀ {a : Addr} {vs : List V}, SqL X.K H a vs → s.TypeIs (.ref a) "list" ∧ ∀ b, (Value.ref a) = .ref b → ∃ ob, s.heap.get? b = some ob ∧ ob.dict = none := fun {a vs} hq => by
    obtain ⟨its, _, pl, _⟩ := I.list hq
    refine ⟨pl.isList.typeIs, fun b e => ?_⟩
    cases e
    obtain ⟨o, n, e, c, hd, _⟩ := pl
    exact ⟨o, e, hd⟩
  have dct : ∀ {a : Addr}, (∃ o, s.heap.get? a = some o ∧ o.ExactDict) → s.TypeIs (.ref a) "dict" ∧ ∀ b, (Value.ref a) = .ref b → ∃ ob, s.heap.get? b = some ob ∧ ob.dict = none := fun {a} ⟨o, e, ex⟩ => by
    refine ⟨⟨o, e, ex.1⟩, fun b e2 => ?_⟩
    cases e2
    exact ⟨o, e, ex.2.1⟩
  have viaC : ∀ (a : Addr) (c : Cell), CellOk X.K H α a c → (match c with | .lst _ => some "list" | .dct _ => some "dict" | _ => none) = some T → s.TypeIs (.ref a) T ∧ ∀ b, (Value.ref a) = .ref b → ∃ ob, s.heap.get? b = some ob ∧ ob.dict = none := by
    intro a c hc e
    cases c <;> simp only [Option.some.injEq, reduceCtorEq] at e
    · subst e
      obtain ⟨vs, ha, _⟩ := hc
      exact lst (.of ha)
    · subst e
      rcases hc with ⟨kv, ha, _⟩ | ⟨kv, _, ha, _⟩
      · obtain ⟨_, _, _, _, o, _, _, e, ex, _⟩ := I.hok a _ ha
        exact dct ⟨o, e, ex⟩
      · obtain ⟨_, _, _, _, o, _, _, e, ex, _⟩ := I.hok a _ ha
        exact dct ⟨o, e, ex⟩
  cases d <;> simp only [tyD, Option.some.injEq, reduceCtorEq] at e
  case non => subst e; simp at ne
  case bl b => subst e; simp at ne
  case tup b => subst e; simp at ne
  case int i =>
    subst e
    rw [rx_int h] at r
    obtain ⟨t, rfl⟩ := r
    exact ⟨typeIs_int s i t, fun _ e => nomatch e⟩
  case str z =>
    subst e
    rw [rx_str h] at r
    obtain ⟨t, rfl⟩ := r
    exact ⟨typeIs_str s z t, fun _ e => nomatch e⟩
  case ref n =>
    have h' : Rv X.K H α (.ref n) v := h
    simp only [Rv] at h'
    obtain ⟨a, ha, rfl⟩ := h'
    cases r
    simp only [cellAt] at e
    cases hc : st.μ[n]? with
    | none => rw [hc] at e; cases e
    | some c =>
      rw [hc] at e
      exact viaC a c (rl.cells.at_ n a c ha hc) (by cases c <;> simpa using e)
  case own n =>
    have h' : σ[n]? = some (some v) := h
    simp only [cellAt] at e
    cases hc : st.δ[n]? with
    | none => rw [hc] at e; simp at e
    | some c =>
      rw [hc] at e
      cases c with
      | no => simp at e
      | val _ => simp at e
      | own c =>
        obtain ⟨a, ha, _, _, q⟩ := rl.slots.own n c hc
        rw [h'] at ha
        cases ha
        cases r
        exact viaC a c q (by cases c <;> simpa using e)
  case lst xs =>
    subst e
    have h' : Rv X.K H α (.lst xs) v := h
    simp only [Rv] at h'
    obtain ⟨a, vs, rfl, hs, _⟩ := h'
    cases r
    exact lst hs.sq
  case dct kvs =>
    subst e
    have h' : Rv X.K H α (.dct kvs) v := h
    simp only [Rv] at h'
    obtain ⟨a, o, rfl, ⟨kv, hf, _⟩ | ⟨kv, _, hf, _⟩⟩ := h'
    · cases r
      obtain ⟨_, h2, h3, _⟩ := I.frzK hf
      exact dct ⟨o, h2, h3⟩
    · cases r
      obtain ⟨_, h2, h3, _⟩ := I.frzT hf
      exact dct ⟨o, h2, h3⟩
/-- o.m(..) -/
def dM (T : String) (g : S → D → List D → Option (D × S)) (fo : FE) (fa : FA) : FE := fun s => (fo s).bind fun o s1 => if tyD s1 o = some T then (fa s1).bind fun ds s2 => match g s2 o ds with | some (d, s3) => .ok d s3 | none => .bad else .bad
def tDM (X : Cx) (T : String) (r : V → List V → Hp → VK → Prop) (to : TE) (t : TA) : TE := fun σ H Q => to σ H fun x H1 => (∀ (pins : List (Addr × Obj)) (s : Shared) (u : Value), Inv X pins σ H1 s → RelV x u → s.TypeIs u T ∧ ∀ a, u = .ref a → ∃ ob, s.heap.get? a = some ob ∧ ob.dict = none) ∧ t σ H1 fun xs H2 => r x xs H2 Q
section
variable {X : Cx} {o e : Expr} {es : List Expr} {name : Str} {apos cpos : Pos} {T id : String}
theorem pe_dm0 {to : TE} {r : V → List V → Hp → VK → Prop} (pa : PlainAttrs T) (slot : PySem.Slot T name id) (hty : typeOf (.builtin id) = pure (.type "method_descriptor")) (hm : MtM X id r) (ho : PE X o to)
    (hbase : attributeBase o name X.env (eval o X.env) = eval o X.env := by rfl) (hline : (apos.endLine == cpos.line) = true := by rfl) : PE X (.Call (.Attribute o name apos) [] [] cpos) (tDM X T r to tNil) := by
  refine ⟨fun pins s σ H Q I h => ?_⟩
  refine wpAny_Call_method0_late hbase hline (thn (ho.run pins s σ H _ I h) fun v s1 ⟨x, H1, I1, r1, ty, q1⟩ => ?_)
  obtain ⟨h1, h2⟩ := ty pins s1 v I1 r1
  exact ⟨T, id, pa, slot, hty, h1, h2, Calls.callWith_builtin rfl (PySem.evalArgs_none (hm pins s1 σ H1 x [] v [] Q I1 r1 .nil q1))⟩
theorem pe_dm {to : TE} {t : TA} {r : V → List V → Hp → VK → Prop} (pa : PlainAttrs T) (slot : PySem.Slot T name id) (hty : typeOf (.builtin id) = pure (.type "method_descriptor")) (hm : MtM X id r) (ho : PE X o to) (ha : PA X (e :: es) t)
    (hbase : attributeBase o name X.env (eval o X.env) = eval o X.env := by rfl)
    (hfew : ((backTo cpos (starEach (e :: es) X.env)).all (fun x => !x.1) && (backToKw cpos (keywordEach [] X.env)).all (fun x => x.1.isSome)
      && decide ((e :: es).length + ([] : List Keyword).length + (if ([] : List Keyword).isEmpty then 0 else 1) < 30)) = true := by rfl)
    (hline : (apos.endLine == cpos.line) = true := by rfl) (hs : starEach (e :: es) X.env = (false, eval e X.env) :: starEach es X.env := by rfl) (hplain : (backTo cpos (starEach es X.env)).any (·.1) = false := by rfl) :
    PE X (.Call (.Attribute o name apos) (e :: es) [] cpos) (tDM X T r to t) := by
  refine ⟨fun pins s σ H Q I h => ?_⟩
  refine wpAny_Call_method_late hbase hfew hline rfl (thn (ho.run pins s σ H _ I h) fun v s1 ⟨x, H1, I1, r1, ty, q1⟩ => ?_)
  obtain ⟨h1, h2⟩ := ty pins s1 v I1 r1
  refine ⟨T, id, pa, slot, hty, h1, h2, ?_⟩
  have hA := ha.run cpos pins s1 σ H1 _ I1 q1
  rw [hs] at hA ⊢
  refine Calls.callWith_builtin (by show (false || (backTo cpos (starEach es X.env)).any (·.1)) = false; rw [hplain] <;> rfl) (Calls.evalArgs_plain ?_)
  exact thn hA fun us s2 ⟨vs, H2, I2, r2, q2⟩ => hm pins s2 σ H2 x vs v us Q I2 r1 r2 q2
theorem dm_core {fo : FE} {fa : FA} {g : S → D → List D → Option (D × S)} {to : TE} {t : TA} {W : WX} {H0 : Hp} {α0 : List Addr} (hT : T = "list" ∨ T = "dict" ∨ T = "str" ∨ T = "int")
    (qo : ∀ H0 α0 σ H α s Q, Rel X.K H0 α0 H α σ s → PostE X.K H0 α0 σ W H α Q (fo s) → to σ H Q) (qa : ∀ H0 α0 σ H α s Q, Rel X.K H0 α0 H α σ s → PostA X.K H0 α0 σ W H α Q (fa s) → t σ H Q)
    {σ : Sg} {H : Hp} {α : List Addr} {s : S} {Q : VK} (r : Rel X.K H0 α0 H α σ s) (q : PostE X.K H0 α0 σ W H α Q (dM T g fo fa s)) : tDM X T (rMB X.K g) to t σ H Q := by
  refine qo H0 α0 σ H α s _ r ?_
  unfold dM at q
  cases eo : fo s with
  | bad => rw [eo] at q; exact q.elim
  | exc e s1 => rw [eo] at q; exact q
  | ok o s1 =>
    rw [eo] at q
    intro x H1 α1 r1 t1 rx
    simp only [Res.bind] at q
    split at q
    · rename_i hty
      refine ⟨fun pins s u I ru => typ_d I r1 rx ru hty hT, ?_⟩
      refine qa H0 α0 σ H1 α1 s1 _ r1 ?_
      cases ea : fa s1 with
      | bad => rw [ea] at q; exact q.elim
      | exc e s2 => rw [ea] at q; exact q
      | ok ds s2 =>
        rw [ea] at q
        intro vs H2 α2 r2 t2 rv
        simp only at q
        split at q
        · rename_i d s3 eg
          exact ⟨H0, σ, α0, α2, s2, o, ds, d, s3, r2, rx.stay t2, rv, eg, fun w H' α' r' t' rx' => q w H' α' r' ((t1.trans t2).trans t') rx'⟩
        · exact q.elim
    · exact q.elim
theorem pd_m {fo : FE} {fa : FA} {g : S → D → List D → Option (D × S)} (hT : T = "list" ∨ T = "dict" ∨ T = "str" ∨ T = "int") (pa : PlainAttrs T) (slot : PySem.Slot T name id) (hty : typeOf (.builtin id) = pure (.type "method_descriptor")) (hm : MB X id g) (ho : PED X o fo) (ha : PAD X (e :: es) fa)
    (hbase : attributeBase o name X.env (eval o X.env) = eval o X.env := by rfl)
    (hfew : ((backTo cpos (starEach (e :: es) X.env)).all (fun x => !x.1) && (backToKw cpos (keywordEach [] X.env)).all (fun x => x.1.isSome)
      && decide ((e :: es).length + ([] : List Keyword).length + (if ([] : List Keyword).isEmpty then 0 else 1) < 30)) = true := by rfl)
    (hline : (apos.endLine == cpos.line) = true := by rfl) (hs : starEach (e :: es) X.env = (false, eval e X.env) :: starEach es X.env := by rfl) (hplain : (backTo cpos (starEach es X.env)).any (·.1) = false := by rfl) :
    PED X (.Call (.Attribute o name apos) (e :: es) [] cpos) (dM T g fo fa) := by
  refine ⟨fun W tk => ?_⟩
  obtain ⟨to, po, qo⟩ := ho.run W tk
  obtain ⟨t, p, qa⟩ := ha.run W tk
  exact ⟨_, pe_dm pa slot hty hm.mt po p hbase hfew hline hs hplain, fun H0 α0 σ H α s Q r q => dm_core hT qo qa r q⟩
theorem pd_m0 {fo : FE} {g : S → D → List D → Option (D × S)} (hT : T = "list" ∨ T = "dict" ∨ T = "str" ∨ T = "int") (pa : PlainAttrs T) (slot : PySem.Slot T name id) (hty : typeOf (.builtin id) = pure (.type "method_descriptor")) (hm : MB X id g) (ho : PED X o fo)
    (hbase : attributeBase o name X.env (eval o X.env) = eval o X.env := by rfl) (hline : (apos.endLine == cpos.line) = true := by rfl) : PED X (.Call (.Attribute o name apos) [] [] cpos) (dM T g fo dNil) := by
  refine ⟨fun W tk => ?_⟩
  obtain ⟨to, po, qo⟩ := ho.run W tk
  exact ⟨_, pe_dm0 pa slot hty hm.mt po hbase hline, fun H0 α0 σ H α s Q r q => dm_core hT qo (t := tNil) (W := W) (fa := dNil) (fun H0 α0 σ H α s Q r (q : PostA X.K H0 α0 σ W H α Q (.ok [] s)) => q [] H α r (Stay.refl _ _) .nil) r q⟩
/-! the list's methods -/
def gAppend : S → D → List D → Option (D × S) := fun s o ds => match ds, mutAt s o with
  | [d], some (.lst xs) => if noOwn d && decide (xs.length < 16777216) then some (.non, setAt s o (.lst (xs ++ [d]))) else none
  | _, _ => none
theorem mb_append : MB X "list.append" gAppend := .of mt_append fun H0 α0 σ H α s xv xs o ds d s' Q r rx rxs e q => by
  unfold gAppend at e
  split at e
  · rename_i x ys em
    split at e
    · rename_i hc
      cases e
      rw [Bool.and_eq_true, decide_eq_true_eq, ← sizeLine_eq] at hc
      obtain ⟨w, rfl, rw⟩ := rxs.one
      obtain ⟨a, rfl, hcell, k⟩ := mut_at r rx em
      obtain ⟨vs, hv, rr⟩ := hcell
      obtain ⟨k1, t⟩ := mut_upd (α := α) (o := .lst (vs ++ [w])) hv (fun z => z)
      exact ⟨a, vs, w, rfl, rfl, hv, by rw [rr.length]; exact hc.2, q .non _ α (k _ _ k1 t ⟨_, upd_same, (Rvs.stay t _ _ rr).append (.single (Rv.stay t _ _ (noOwn_rv rw hc.1)))⟩) t ox_non⟩
    · cases e
  · cases e
theorem pd_append {fo : FE} {fa : FA} (ho : PED X o fo) (ha : PAD X (e :: es) fa) (hbase : attributeBase o "append" X.env (eval o X.env) = eval o X.env := by rfl)
    (hfew : ((backTo cpos (starEach (e :: es) X.env)).all (fun x => !x.1) && (backToKw cpos (keywordEach [] X.env)).all (fun x => x.1.isSome)
      && decide ((e :: es).length + ([] : List Keyword).length + (if ([] : List Keyword).isEmpty then 0 else 1) < 30)) = true := by rfl)
    (hline : (apos.endLine == cpos.line) = true := by rfl) (hs : starEach (e :: es) X.env = (false, eval e X.env) :: starEach es X.env := by rfl) (hplain : (backTo cpos (starEach es X.env)).any (·.1) = false := by rfl) :
    PED X (.Call (.Attribute o "append" apos) (e :: es) [] cpos) (dM "list" gAppend fo fa) := pd_m (.inl rfl) F.plainAttrs_list F.slot_list_append F.type_list_append mb_append ho ha hbase hfew hline hs hplain
def gPop0 : S → D → List D → Option (D × S) := fun s o ds => match ds, mutAt s o with
  | [], some (.lst xs) => xs.getLast?.map fun d => (d, setAt s o (.lst xs.dropLast))
  | _, _ => none
theorem Rvs.dropLast {K : PySem.W.Frag} {H : Hp} {α : List Addr} {ds : List D} {vs : List V} (h : Rvs K H α ds vs) : Rvs K H α ds.dropLast vs.dropLast := by
  rw [List.dropLast_eq_take, List.dropLast_eq_take, h.length]
  exact h.take _
theorem mb_pop0 : MB X "list.pop" gPop0 := .of mt_pop fun H0 α0 σ H α s xv xs o ds d s' Q r rx rxs e q => by
  unfold gPop0 at e
  split at e
  · rename_i ys em
    simp only [Option.map_eq_some_iff, Prod.mk.injEq] at e
    obtain ⟨d', e, rfl, rfl⟩ := e
    cases rxs
    obtain ⟨a, rfl, hcell, k⟩ := mut_at r rx em
    obtain ⟨vs, hv, rr⟩ := hcell
    rw [List.getLast?_eq_getElem?] at e
    obtain ⟨w, ew, rw⟩ := rr.at_ e
    obtain ⟨k1, t⟩ := mut_upd (α := α) (o := .lst vs.dropLast) hv (fun z => z)
    exact ⟨a, vs, w, rfl, rfl, hv, by rw [rr.length]; exact ew, q w _ α (k _ _ k1 t ⟨_, upd_same, (Rvs.stay t _ _ rr).dropLast⟩) t (Rv.x (Rv.stay t _ _ rw))⟩
  · cases e
/-! o[i] = e -/
def gSetI : S → D → D → D → Option S := fun s o i d => match i, mutAt s o with
  | .int k, some (.lst xs) => (ixN xs.length k).map fun j => setAt s o (.lst (xs.set j d))
  | _, _ => none
def SetS (X : Cx) (r : TSet) (g : S → D → D → D → Option S) : Prop :=
  ∀ (H0 : Hp) (α0 : List Addr) (σ : Sg) (H : Hp) (α : List Addr) (s : S) (x y v : V) (a b d : D) (s' : S) (Q : Hp → Prop), Rel X.K H0 α0 H α σ s → Rx X.K H α σ a x → Rx X.K H α σ b y → Rv X.K H α d v → g s a b d = some s' → (∀ H' α', Rel X.K H0 α0 H' α' σ s' → Stay H α H' α' → Q H') → r x y v H Q
theorem ss_list : SetS X rSetL gSetI := fun H0 α0 σ H α s x y v a b d s' Q r rx ry rv e q => by
  unfold gSetI at e
  split at e
  · rename_i k xs em
    simp only [Option.map_eq_some_iff] at e
    obtain ⟨j, ej, rfl⟩ := e
    obtain ⟨p, rfl, hcell, kk⟩ := mut_at r rx em
    obtain ⟨vs, hv, rr⟩ := hcell
    obtain ⟨k1, t⟩ := mut_upd (α := α) (o := .lst (vs.set j v)) hv (fun z => z)
    rw [rx_int ry]
    exact ⟨p, vs, k, j, rfl, rfl, hv, by rw [rr.length]; exact ej, q _ α (kk _ _ k1 t ⟨_, upd_same, (Rvs.stay t _ _ rr).set (Rv.stay t _ _ rv) j⟩) t⟩
  · cases e
def dSetI (g : S → D → D → D → Option S) (fe fo fi : FE) : FS := fun s => match fe s with
  | .ok d s1 => if noOwn d then (match ((fo s1).bind fun o s2 => (fi s2).bind fun i s3 => match g s3 o i d with | some s4 => Res.ok () s4 | none => Res.bad) with
    | .ok _ s4 => .nx s4
    | .exc e s1 => .exc e s1
    | .bad => .bad) else .bad
  | .exc e s1 => .exc e s1
  | .bad => .bad
theorem sd_setI {a b : Expr} {st : Stmt} {r : TSet} {g : S → D → D → D → Option S} {tpos : Pos} {fe fo fi : FE} (hp : ∀ te t, PE X e te → PG X (.Subscript a b tpos) t → PS X st (tAsg te t)) (hr : PSet X r) (hs : SetS X r g) (he : PED X e fe) (ho : PED X a fo) (hi : PED X b fi)
    (ha : ∀ v, assign (.Subscript a b tpos) X.env v = (do
      let ov ← holding [v] (eval a X.env)
      let iv ← holding [v, ov] (eval b X.env)
      standAt tpos
      holding [v, ov, iv] (setItem ov iv v)
      release [v, ov, iv] []) := by intro _; rfl) : PSD X st (dSetI g fe fo fi) := by
  refine ⟨fun W tk => ?_⟩
  obtain ⟨te, pe, qe⟩ := he.run W tk
  obtain ⟨to, po, qo⟩ := ho.run W tk
  obtain ⟨ti, pi, qi⟩ := hi.run W tk
  refine ⟨_, hp te _ pe (pg_sub po pi hr ha), fun H0 α0 σ H α s D rl k => qe H0 α0 σ H α s _ rl ?_⟩
  unfold dSetI at k
  cases ee : fe s with
  | bad => rw [ee] at k; exact k.elim
  | exc e s1 => rw [ee] at k; exact fun cls dd H' α' r' x => k cls dd σ H' α' r' x
  | ok d s1 =>
    rw [ee] at k
    simp only at k
    intro v H1 α1 r1 t1 rv
    split at k
    · rename_i hn
      refine qo H0 α0 σ H1 α1 s1 _ r1 ?_
      cases eo : fo s1 with
      | bad => rw [eo] at k; exact k.elim
      | exc e s2 => rw [eo] at k; exact fun cls dd H' α' r' x => k cls dd σ H' α' r' x
      | ok o s2 =>
        rw [eo] at k
        intro x H2 α2 r2 t2 rx
        refine qi H0 α0 σ H2 α2 s2 _ r2 ?_
        simp only [Res.bind] at k
        cases ei : fi s2 with
        | bad => rw [ei] at k; exact k.elim
        | exc e s3 => rw [ei] at k; exact fun cls dd H' α' r' x => k cls dd σ H' α' r' x
        | ok i s3 =>
          rw [ei] at k
          intro y H3 α3 r3 t3 ry
          simp only at k
          cases eg : g s3 o i d with
          | none => rw [eg] at k; exact k.elim
          | some s4 =>
            rw [eg] at k
            exact hs H0 α0 σ H3 α3 s3 x y v o i d s4 _ r3 (rx.stay t3) ry (Rv.stay (t2.trans t3) _ _ (noOwn_rv rv hn)) eg fun H' α' r' t' => k σ H' α' r' (((t1.trans t2).trans t3).trans t')
    · exact k.elim
end
end DL

namespace DL
open PySem PySem.Spec PyProof.Rows L2
variable [DLX]
/-! ### 28. Chains, minus, turned around, times -/
def dChain (g g' : S → D → D → Option D) (fa fb fc : FE) : FE := fun s => (fa s).bind fun a s1 => (fb s1).bind fun b s2 => match g s2 a b with
  | some (.bl true) => (fc s2).bind fun c s3 => (match g' s3 b c with | some d => .ok d s3 | none => .bad)
  | some (.bl false) => .ok (.bl false) s2
  | _ => .bad
def dChainT (g g' : S → D → D → Option D) (fa fb fc : FE) : FT := fun s => match dChain g g' fa fb fc s with | .ok (.bl b) s1 => .ok b s1 | .exc e s1 => .exc e s1 | _ => .bad
def rOpS (K : PySem.W.Frag) (g : S → D → D → Option D) (r : R2) : R2 := r
section
variable {X : Cx}
theorem chain_core {r r' : R2} {g g' : S → D → D → Option D} {fa fb fc : FE} {ta tb tc : TE} {W : WX} (hs : OpS X r g) (hs' : OpS X r' g')
    (qa : ∀ H0 α0 σ H α s Q, Rel X.K H0 α0 H α σ s → PostE X.K H0 α0 σ W H α Q (fa s) → ta σ H Q) (qb : ∀ H0 α0 σ H α s Q, Rel X.K H0 α0 H α σ s → PostE X.K H0 α0 σ W H α Q (fb s) → tb σ H Q)
    (qc : ∀ H0 α0 σ H α s Q, Rel X.K H0 α0 H α σ s → PostE X.K H0 α0 σ W H α Q (fc s) → tc σ H Q) {H0 : Hp} {α0 : List Addr} {σ : Sg} {H : Hp} {α : List Addr} {s : S} {Q : VK} (r0 : Rel X.K H0 α0 H α σ s)
    (q : PostE X.K H0 α0 σ W H α Q (dChain g g' fa fb fc s)) : tChain (fun x y H Q => r x y H fun v H1 => Gh H1 (Q v)) (fun x y H Q => r' x y H fun v H1 => Gh H1 (Q v)) ta tb tc σ H Q := by
  unfold dChain at q
  refine two_run (a := .Constant .none 0 default) (b := .Constant .none 0 default) (W := W) qa qb r0 q fun u w x y s2 H2 α2 r2 t2 rx ry q2 => ?_
  split at q2
  · rename_i eg
    refine hs H0 α0 σ H2 α2 s2 x y u w _ _ r2 rx ry eg fun v H3 α3 r3 t3 rv => ?_
    rw [rx_bl rv]
    refine ⟨true, rfl, ?_⟩
    rw [if_pos rfl]
    refine qc H0 α0 σ H3 α3 s2 _ r3 ?_
    cases ec : fc s2 with
    | bad => rw [ec] at q2; exact q2.elim
    | exc e s4 => rw [ec] at q2; exact q2
    | ok c s4 =>
      rw [ec] at q2
      intro z H4 α4 r4 t4 rz
      simp only [Res.bind] at q2
      cases eg2 : g' s4 w c with
      | none => rw [eg2] at q2; exact q2.elim
      | some d =>
        rw [eg2] at q2
        exact hs' H0 α0 σ H4 α4 s4 y z w c d _ r4 (ry.stay (t3.trans t4)) rz eg2 fun v H' α' r' t' rv => q2 v H' α' r' (((t2.trans t3).trans t4).trans t') rv
  · rename_i eg
    refine hs H0 α0 σ H2 α2 s2 x y u w _ _ r2 rx ry eg fun v H3 α3 r3 t3 rv => ?_
    rw [rx_bl rv]
    refine ⟨false, rfl, ?_⟩
    rw [if_neg Bool.false_ne_true]
    exact q2 _ H3 α3 r3 (t2.trans t3) ox_bl
  · exact q2.elim
theorem pd_chain {op op' : CmpOp} {a b c : Expr} {pos : Pos} {g g' : S → D → D → Option D} {fa fb fc : FE} (h1 : Cmp X op g) (h2 : Cmp X op' g') (ha : PED X a fa) (hb : PED X b fb) (hc : PED X c fc)
    (hm : lastMarks [op, op'] [b, c] = false := by with_unfolding_all rfl) : PED X (.Compare a [op, op'] [b, c] pos) (dChain g g' fa fb fc) := by
  obtain ⟨r, o1, s1⟩ := h1.ex
  obtain ⟨r', o2, s2⟩ := h2.ex
  refine ⟨fun W tk => ?_⟩
  obtain ⟨ta, pa, qa⟩ := ha.run W tk
  obtain ⟨tb, pb, qb⟩ := hb.run W tk
  obtain ⟨tc, pc, qc⟩ := hc.run W tk
  exact ⟨_, pe_chain (opGh o1) (opGh o2) pa pb pc hm, fun H0 α0 σ H α s Q r q => chain_core s1 s2 qa qb qc r q⟩
theorem pt_chain {op op' : CmpOp} {a b c : Expr} {pos : Pos} {g g' : S → D → D → Option D} {fa fb fc : FE} (h1 : Cmp X op g) (h2 : Cmp X op' g') (ha : PED X a fa) (hb : PED X b fb) (hc : PED X c fc)
    (hm : lastMarks [op, op'] [b, c] = false := by with_unfolding_all rfl) : PTD X (.Compare a [op, op'] [b, c] pos) (dChainT g g' fa fb fc) := by
  obtain ⟨r, o1, s1⟩ := h1.ex
  obtain ⟨r', o2, s2⟩ := h2.ex
  refine ⟨fun W tk => ?_⟩
  obtain ⟨ta, pa, qa⟩ := ha.run W tk
  obtain ⟨tb, pb, qb⟩ := hb.run W tk
  obtain ⟨tc, pc, qc⟩ := hc.run W tk
  refine ⟨_, L2.pt_chain (opGh o1) (opGh o2) pa pb pc hm, fun H0 α0 σ H α s Q r q => chain_core s1 s2 qa qb qc r ?_⟩
  unfold dChainT at q
  cases e : dChain g g' fa fb fc s with
  | bad => rw [e] at q; exact q.elim
  | exc x s1 => rw [e] at q; exact q
  | ok d s1 =>
    rw [e] at q
    cases d <;> try exact q.elim
    intro v H' α' r' t' rv
    rw [rx_bl rv]
    exact ⟨_, rfl, q H' α' r' t'⟩
/-! -e -/
def dNeg (fa : FE) : FE := fun s => (fa s).bind fun a s1 => match a with | .int i => .ok (.int (-i)) s1 | _ => .bad
theorem pd_neg {a : Expr} {pos : Pos} {fa : FE} (ha : PED X a fa) : PED X (.UnaryOp .USub a pos) (dNeg fa) := by
  refine ⟨fun W tk => ?_⟩
  obtain ⟨t, p, q⟩ := ha.run W tk
  refine ⟨_, pe_un un_neg p, fun H0 α0 σ H α s Q r k => q H0 α0 σ H α s _ r ?_⟩
  unfold dNeg at k
  cases ea : fa s with
  | bad => rw [ea] at k; exact k.elim
  | exc e s1 => rw [ea] at k; exact k
  | ok d s1 =>
    rw [ea] at k
    simp only [Res.bind] at k
    intro v H1 α1 r1 t1 rv
    cases d <;> simp only at k <;> try exact k.elim
    rw [rx_int rv]
    exact ⟨_, rfl, k _ H1 α1 r1 t1 ox_int⟩
end
/-! t[::-1] -/
theorem rev_places (n : Nat) : Builtin.Slice.slicePlaces ((n : Int) - 1) (-1) (-1) = n := by
  unfold Builtin.Slice.slicePlaces
  rw [if_neg (by decide)]
  by_cases h : (n : Int) - 1 > -1
  · rw [if_pos h, show (- -1 : Int) = 1 from rfl, Int.ediv_one]
    omega
  · rw [if_neg h]
    omega
theorem fm_congr {α β : Type} {f g : α → Option β} : ∀ {l : List α}, (∀ x ∈ l, f x = g x) → l.filterMap f = l.filterMap g
  | [], _ => rfl
  | x :: l, h => by rw [List.filterMap_cons, List.filterMap_cons, h x (by simp), fm_congr fun y hy => h y (by simp [hy])]
theorem rev_pick (xs : Array Value) : ((List.range xs.size).filterMap fun (m : Nat) => xs[((xs.size : Int) - 1 + (m : Int) * (-1)).toNat]?).toArray = xs.toList.reverse.toArray := by
  congr 1
  have e : ∀ m ∈ List.range xs.size, xs[((xs.size : Int) - 1 + (m : Int) * (-1)).toNat]? = (fun i => xs[i]?) (xs.size - 1 - m) := fun m hm => by
    have := List.mem_range.mp hm
    show xs[_]? = xs[_]?
    congr 1
    omega
  rw [fm_congr e]
  have := PySem.W.krv_range xs.size
  have e2 : (List.range xs.size).filterMap (fun m => (fun i => xs[i]?) (xs.size - 1 - m)) = ((List.range xs.size).map (fun k => xs.size - 1 - k)).filterMap (fun i => xs[i]?) := by
    rw [List.filterMap_map]
    rfl
  rw [e2, this, List.filterMap_reverse, PySem.W.krv_all]
theorem applied_rev {prog : Program} {w : World} {A : Around} {E : Value → Shared → Prop} {s : Shared} {sl : Addr} {vl vu vs : Value} {n : Nat} {Q : Int × Int × Nat → Shared → Prop} (hs : s.heap.IsSliceOf sl vl vu vs) (pl : IsPart vl none) (pu : IsPart vu none) (ps : IsPart vs (some (-1)))
    (h : Q ((n : Int) - 1, -1, n) s) : wpAny (model prog w) A (Builtin.Slice.sliceApplied (.ref sl) (pure (n : Int))) Q E s := by
  obtain ⟨os, hos, hcs, hds⟩ := id hs
  unfold Builtin.Slice.sliceApplied Builtin.Slice.sliceFields
  refine wpAny_bind (wpAny_bind (wpAny_field hos hds (x := vl) rfl (wpAny_bind (wpAny_field hos hds (x := vu) rfl (wpAny_bind (wpAny_field hos hds (x := vs) rfl (wpAny_pure ?_)))))))
  refine wpAny_bind (HT.slicePart_ ps ?_)
  show wpAny _ _ (if ((-1 : Int) == 0) = true then _ else _) _ _ s
  rw [if_neg (by decide)]
  refine wpAny_bind (HT.slicePart_ pl (wpAny_bind (HT.slicePart_ pu (wpAny_bind (wpAny_pure ?_)))))
  show wpAny _ _ (match Builtin.Slice.sliceAdjust none none (-1) (n : Int) with | (lo, hi) => pure (lo, (-1 : Int), Builtin.Slice.slicePlaces lo hi (-1))) _ _ s
  show wpAny _ _ (pure ((n : Int) - 1, (-1 : Int), Builtin.Slice.slicePlaces ((n : Int) - 1) (-1) (-1))) _ _ s
  rw [rev_places]
  exact wpAny_pure h
theorem getItem_tuple_rev {prog : Program} {w : World} {A : Around} {E : Value → Shared → Prop} {s : Shared} {t sl : Addr} {items : Array Value} {vl vu vs : Value} {Q : Value → Shared → Prop} (ht : IsTup s.heap t items) (hs : s.heap.IsSliceOf sl vl vu vs) (pl : IsPart vl none) (pu : IsPart vu none) (ps : IsPart vs (some (-1)))
    (h : Q (.ref s.heap.objs.size) { s with heap := s.heap.push { cls := .type "tuple", data := .seq items.toList.reverse.toArray } }) (hsz : items.size ≤ sizeLine) : wpAny (model prog w) A (getItem (.ref t) (.ref sl)) Q E s := by
  have htake : sizeOk (.seq items.toList.reverse.toArray) := by
    show items.toList.reverse.toArray.size ≤ sizeLine
    simpa using hsz
  obtain ⟨os, hos, hcs, hds⟩ := id hs
  have hTs : s.TypeIs (.ref sl) "slice" := ⟨os, hos, hcs⟩
  unfold getItem
  try with_reducible refine wpAny_holding ?_
  first | refine wpAny_bind (wpAny_pure ?_) | skip
  refine wpAny_bind (wpAny_sequenceKey ht.typeIs (by decide) ?_)
  refine wpAny_bind (wpAny_callSpecial?_slot (name := Str.ofString "__getitem__") ht.typeIs PyProof.Rows.slot_tuple_getitem
    (wpAny_call_entry PyProof.Rows.slot_tuple_getitem ht.typeIs entry_tuple_getitem ?_ (args_tuple_getitem _ _)))
  show wpAny _ _ (Builtin.Tuple.tupleItemsOf (.ref t) >>= _) _ _ s
  refine wpAny_bind (tupleItemsOf_ ht ?_)
  refine wpAny_bind (wpAny_typeOf hTs ?_)
  rw [if_pos (by decide)]
  refine wpAny_bind (applied_rev hs pl pu ps ?_)
  have hno : ¬ ((((items.size : Nat) : Int) - 1 == 0 && (-1 : Int) == 1 && items.size == items.size) = true) := by
    rw [show ((-1 : Int) == 1) = false from rfl, Bool.and_false, Bool.false_and]
    exact Bool.false_ne_true
  show wpAny _ _ (if ((((items.size : Nat) : Int) - 1 == 0 && (-1 : Int) == 1 && items.size == items.size)) = true then _ else _) _ _ s
  rw [if_neg hno, rev_pick]
  first
    | exact wpAny_bind (m := Builtin.Tuple.tupleExact _) (wpAny_newObj_type (wpAny_pure ⟨_, rfl, wpAny_pure h⟩) htake)
    | exact wpAny_bind (m := Builtin.Tuple.tupleExact _) (wpAny_newObj_type (wpAny_bind (wpAny_pure (wpAny_pure ⟨_, rfl, wpAny_pure h⟩))) htake)
    | exact wpAny_bind (wpAny_bind (m := Builtin.Tuple.tupleExact _) (wpAny_newObj_type (wpAny_pure (wpAny_pure ⟨_, rfl, wpAny_pure h⟩)) htake))
    | exact wpAny_bind (wpAny_bind (m := Builtin.Tuple.tupleExact _) (wpAny_newObj_type (wpAny_pure ⟨_, rfl, wpAny_pure h⟩) htake))
def tRevB (K : PySem.W.Frag) (te : TE) : TE := fun σ H Q => te σ H fun x H1 => ∃ a xs, x = .ref a ∧ ((SqL K H1 a xs ∧ ∀ p, H1 p = none → Q (.ref p) (upd H1 p (.lst xs.reverse))) ∨ (SqT K H1 a xs ∧ ∀ p, H1 p = none → Q (.ref p) (upd H1 p (.tup xs.reverse))))
def dRev (fa : FE) : FE := fun s => (fa s).bind fun a s1 => match a with
  | .tup xs => .ok (.tup xs.reverse) s1
  | a => match asL s1 a with | some xs => .ok (.lst xs.reverse) s1 | none => .bad
theorem Rvs.reverse {K : PySem.W.Frag} {H : Hp} {α : List Addr} : ∀ {ds : List D} {vs : List V}, Rvs K H α ds vs → Rvs K H α ds.reverse vs.reverse
  | [], _, h => by simp only [Rvs] at h; subst h; simp [Rvs]
  | d :: ds, l, h => by
    simp only [Rvs] at h
    obtain ⟨v, r, rfl, h1, h2⟩ := h
    rw [List.reverse_cons, List.reverse_cons]
    exact (Rvs.reverse h2).append (.single h1)
section
variable {X : Cx}
theorem pe_revB {e : Expr} {te : TE} {k : Nat} {p1 p2 p3 pos : Pos} (he : PE X e te) : PE X (.Subscript e (.Slice none none (some (.UnaryOp .USub (.Constant (.int 1) k p1) p2)) p3) pos) (tRevB X.K te) := by
  refine ⟨fun pins s σ H Q I h => ?_⟩
  refine Subscript_ (thn (he.run pins s σ H _ I h) fun v s1 ⟨x, H1, I1, r1, q1⟩ => ?_)
  obtain ⟨a, xs, rfl, q⟩ := q1
  cases r1
  have hst : PO X (some (.UnaryOp .USub (.Constant (.int 1) k p1) p2)) (tPart (tUn (rU fun i => .int (-i)) (tC (.int 1)))) := po_some (pe_un un_neg pe_int)
  refine wpAny_Slice (thn (po_none.run pins s1 σ H1 (fun o H2 => o = none ∧ H2 = H1) I1 ⟨rfl, rfl⟩) fun vl s2 ⟨l, H2, I2, pl, el, e2⟩ => ?_)
  subst el e2
  refine thn (po_none.run pins s2 σ H2 (fun o H3 => o = none ∧ H3 = H2) I2 ⟨rfl, rfl⟩) fun vu s3 ⟨u, H3, I3, pu, eu, e3⟩ => ?_
  subst eu e3
  refine thn (hst.run pins s3 σ H3 (fun o H4 => o = some (-1) ∧ H4 = H3) I3 ⟨1, rfl, -1, rfl, rfl, rfl⟩) fun vs s4 ⟨o, H4, I4, ps, eo, e4⟩ => ?_
  subst eo e4
  have I5 : Inv X pins σ H4 { s4 with heap := s4.heap.push { cls := .type "slice", data := .fields #[vl, vu, vs] } } := I4.kept (t' := s4.toks) fun b ob q => Heap.get?_push_of_some _ q
  show wpAny (model X.prog X.w) X.A (subscriptTail e (.Slice none none (some (.UnaryOp .USub (.Constant (.int 1) k p1) p2)) p3) (.ref a) (.ref s4.heap.objs.size)) (EP X pins σ Q) X.xe { s4 with heap := s4.heap.push { cls := .type "slice", data := .fields #[vl, vu, vs] } }
  rcases q with ⟨hx, q⟩ | ⟨hx, q⟩
  · obtain ⟨its, r, ht, hz⟩ := I5.list hx
    have hlen := r.length
    refine tail_any (ops := [.ref a, .ref s4.heap.objs.size]) ht.isList.typeIs (PySem.slot_list_getitem.lookup) ?_ (by with_unfolding_all rfl)
    refine wpAny_getItem_list_slice ht.isList (Heap.IsSliceOf.new _ vl vu vs) pl pu ps (by decide) ?_ (by rw [List.size_toArray]; omega)
    rw [PySem.W.krv_pick]
    refine ⟨.ref _, _, I5.laid (t' := s4.toks) (o := .lst xs.reverse) (fun b ob q => Heap.get?_push_of_some _ q) (Nat.le_refl _) ?_, rfl, q _ (I5.hok.fresh (Nat.le_refl _))⟩
    exact ⟨by rw [List.length_reverse]; exact hz, _, 0, r.reverse, Heap.get?_push_size _ rfl⟩
  · obtain ⟨its, r, ht, hz⟩ := I5.tuple hx
    have hlen := r.length
    refine tail_any (ops := [.ref a, .ref s4.heap.objs.size]) ht.typeIs (PyProof.Rows.slot_tuple_getitem.lookup) ?_ (by with_unfolding_all rfl)
    refine getItem_tuple_rev ht (Heap.IsSliceOf.new _ vl vu vs) pl pu ps ?_ (by rw [List.size_toArray]; omega)
    refine ⟨.ref _, _, I5.laid (t' := s4.toks) (o := .tup xs.reverse) (fun b ob q => Heap.get?_push_of_some _ q) (Nat.le_refl _) ?_, rfl, q _ (I5.hok.fresh (Nat.le_refl _))⟩
    exact ⟨by rw [List.length_reverse]; exact hz, _, r.reverse, IsTup.new _ _⟩
theorem pd_rev {e : Expr} {fa : FE} {k : Nat} {p1 p2 p3 pos : Pos} (ha : PED X e fa) : PED X (.Subscript e (.Slice none none (some (.UnaryOp .USub (.Constant (.int 1) k p1) p2)) p3) pos) (dRev fa) := by
  refine ⟨fun W tk => ?_⟩
  obtain ⟨t, p, q⟩ := ha.run W tk
  refine ⟨_, peGh (pe_revB p), fun H0 α0 σ H α s Q r k => q H0 α0 σ H α s _ r ?_⟩
  unfold dRev at k
  cases ea : fa s with
  | bad => rw [ea] at k; exact k.elim
  | exc e s1 => rw [ea] at k; exact k
  | ok d s1 =>
    rw [ea] at k
    simp only [Res.bind] at k
    intro v H1 α1 r1 t1 rv
    split at k
    · obtain ⟨a, vs, rfl, h1, rr⟩ := asT_ok rv
      exact ⟨a, vs, rfl, .inr ⟨h1, fun p hp => .inl (new_tup r1 hp rr.reverse fun v H' α' r' t' rx => k v H' α' r' (t1.trans t') rx)⟩⟩
    · cases ex : asL s1 d with
      | none => rw [ex] at k; exact k.elim
      | some xs =>
        rw [ex] at k
        obtain ⟨a, vs, rfl, h1, rr⟩ := asL_ok r1 rv ex
        exact ⟨a, vs, rfl, .inl ⟨h1, fun p hp => gh_list r1 hp rr.reverse fun v H' α' r' t' rx => k v H' α' r' (t1.trans t') rx⟩⟩
end
/-! times -/
theorem tuple_mul_self (l : Addr) (items : Array Value) (n : Nat) (dd : Option Addr) (sl : Array (Option Value)) (x : Int) (u : Tok) (c0 : (decide (x < -(2 ^ 63)) || decide (x ≥ 2 ^ 63)) = false) (c1 : (items.isEmpty || x == 1) = true) :
    Meets (Builtin.«tuple.__mul__» ⟨[.ref l, .int x u], []⟩) (fun _ R s => s.heap.get? l = some { cls := .type "tuple", dict := dd, data := .seq items n, slots := sl } ∧ R (.ok (.ret (.ref l))) s) :=
  .of_wp fun prog w A R s h => by
    obtain ⟨hp, g, d, tk, os⟩ := s
    obtain ⟨hl, h⟩ := h
    have f1 := AutoSeq1.idx_int
    wp_walk using wpAny_loadPart' hl
    repeat (first
      | (refine wpAny_ite_false (decide_eq_false (by rw [c0]; exact Bool.false_ne_true)) ?_; wp_walk using wpAny_loadPart' hl)
      | (refine wpAny_ite_true (decide_eq_true (by rw [c1])) ?_; wp_walk using wpAny_loadPart' hl))
    exact ⟨_, rfl, h⟩
def rRepS (K : PySem.W.Frag) : R2 := fun x y H Q => ∃ l k xs, x = .ref l ∧ y = .int k ∧ SqT K H l xs ∧ (xs = [] ∨ k = 1) ∧ -(2 ^ 63) ≤ k ∧ k < 2 ^ 63 ∧ Q (.ref l) H
section
variable {X : Cx}
theorem op_repS : OpR X (binaryOp .Mult) (rRepS X.K) := by
  intro pins s σ H x y v u Q I rx ry h
  obtain ⟨l, k, xs, rfl, rfl, hT, hne, h1, h2, q⟩ := h
  cases rx
  obtain ⟨t, rfl⟩ := ry
  obtain ⟨its, r, ⟨⟨cls, dd, data, sl⟩, ho, hc, n, hd⟩, hs⟩ := I.tuple hT
  simp only at hc hd
  subst hc hd
  have hle : its.length = xs.length := r.length.symm
  have c0 : (decide (k < -(2 ^ 63)) || decide (k ≥ 2 ^ 63)) = false := by
    rw [decide_eq_false (by omega), decide_eq_false (by omega)] <;> rfl
  have c1 : (its.toArray.isEmpty || k == 1) = true := by
    rcases hne with rfl | rfl
    · cases its with
      | nil => rfl
      | cons a b => simp at hle
    · simp
  exact wpAny_binaryOp_repeat_ref (T := "tuple") (U := "int") (by decide) ⟨_, ho, rfl⟩ (fun s' => typeIs_int s' k t) noFill_tuple_mul F.fills_int_mul F.slot_int_rmul repeat_tuple F.slot_int_index.lookup
    (call_meets F.slot_int_rmul (typeIs_int s k t) F.entry_int_rmul (F.args_int_rmul_2 _ _) (int_rmul_tuple k t l its.toArray n dd sl)
      ⟨ho, rfl, ⟨_, ho, rfl⟩, call_meets F.slot_tuple_mul ⟨_, ho, rfl⟩ F.entry_tuple_mul (F.args_tuple_mul_2 _ _) (tuple_mul_self l its.toArray n dd sl k t c0 c1) ⟨ho, ⟨.ref l, H, I, rfl, q⟩⟩⟩)
end
theorem tuple_mul_nil (l : Addr) (items : Array Value) (n : Nat) (dd : Option Addr) (sl : Array (Option Value)) (x : Int) (u : Tok) (c0 : (decide (x < -(2 ^ 63)) || decide (x ≥ 2 ^ 63)) = false) (c1 : (items.isEmpty || x == 1) = false) (c2 : (decide (x ≤ 0) || items.isEmpty) = true) :
    Meets (Builtin.«tuple.__mul__» ⟨[.ref l, .int x u], []⟩) (fun _ R s => s.heap.get? l = some { cls := .type "tuple", dict := dd, data := .seq items n, slots := sl } ∧
      R (.ok (.ret (Value.ref s.heap.objs.size))) { s with heap := s.heap.push { cls := Value.type "tuple", data := Data.seq #[] }, toks := s.toks }) :=
  .of_wp fun prog w A R s h => by
    obtain ⟨hp, g, d, tk, os⟩ := s
    obtain ⟨hl, h⟩ := h
    have f1 := AutoSeq1.idx_int
    wp_walk using wpAny_loadPart' hl
    repeat (first
      | (refine wpAny_ite_false (decide_eq_false (by rw [c0]; exact Bool.false_ne_true)) ?_; wp_walk using wpAny_loadPart' hl)
      | (refine wpAny_ite_false (decide_eq_false (by rw [c1]; exact Bool.false_ne_true)) ?_; wp_walk using wpAny_loadPart' hl)
      | (refine wpAny_ite_true (decide_eq_true (by rw [c2])) ?_; wp_walk using wpAny_loadPart' hl)
      | (refine wpAny_ite_false (decide_eq_false (by simp)) ?_; wp_walk using wpAny_loadPart' hl))
    exact ⟨_, rfl, h⟩
def rRepN (K : PySem.W.Frag) : R2 := fun x y H Q => ∃ l k xs, x = .ref l ∧ y = .int k ∧ SqT K H l xs ∧ xs ≠ [] ∧ k ≤ 0 ∧ -(2 ^ 63) ≤ k ∧ ∀ p, H p = none → Q (.ref p) (upd H p (.tup []))
section
variable {X : Cx}
theorem op_repN : OpR X (binaryOp .Mult) (rRepN X.K) := by
  intro pins s σ H x y v u Q I rx ry h
  obtain ⟨l, k, xs, rfl, rfl, hT, hne, h1, h2, q⟩ := h
  cases rx
  obtain ⟨t, rfl⟩ := ry
  obtain ⟨its, r, ⟨⟨cls, dd, data, sl⟩, ho, hc, n, hd⟩, hs⟩ := I.tuple hT
  simp only at hc hd
  subst hc hd
  have hle : its.length = xs.length := r.length.symm
  have hn : its ≠ [] := fun e => hne (by
    rw [e] at hle
    exact List.eq_nil_of_length_eq_zero hle.symm)
  have hi : its.toArray.isEmpty = false := by
    cases its with
    | nil => exact absurd rfl hn
    | cons a b => rfl
  have c0 : (decide (k < -(2 ^ 63)) || decide (k ≥ 2 ^ 63)) = false := by
    rw [decide_eq_false (by omega), decide_eq_false (by omega)] <;> rfl
  have c1 : (its.toArray.isEmpty || k == 1) = false := by
    rw [hi, Bool.false_or]
    exact beq_eq_false_iff_ne.mpr (by omega)
  have c2 : (decide (k ≤ 0) || its.toArray.isEmpty) = true := by
    rw [decide_eq_true h1]; rfl
  refine wpAny_binaryOp_repeat_ref (T := "tuple") (U := "int") (by decide) ⟨_, ho, rfl⟩ (fun s' => typeIs_int s' k t) noFill_tuple_mul F.fills_int_mul F.slot_int_rmul repeat_tuple F.slot_int_index.lookup
    (call_meets F.slot_int_rmul (typeIs_int s k t) F.entry_int_rmul (F.args_int_rmul_2 _ _) (int_rmul_tuple k t l its.toArray n dd sl)
      ⟨ho, rfl, ⟨_, ho, rfl⟩, call_meets F.slot_tuple_mul ⟨_, ho, rfl⟩ F.entry_tuple_mul (F.args_tuple_mul_2 _ _) (tuple_mul_nil l its.toArray n dd sl k t c0 c1 c2) ⟨ho, ?_⟩⟩)
  refine ⟨.ref s.heap.objs.size, _, I.laid (t' := s.toks) (o := .tup []) (fun b ob q => Heap.get?_push_of_some _ q) (Nat.le_refl _) ?_, rfl, q _ (I.hok.fresh (Nat.le_refl _))⟩
  exact ⟨by simp, [], .nil, IsTup.new _ _⟩
end
section
variable {X : Cx}
def gMul : S → D → D → Option D := fun s a b => match a, b with
  | .int i, .int j => if mulOk i j then some (.int (i * j)) else none
  | .tup xs, .int k => if xs.isEmpty || k == 1 then (if decide (-(2 ^ 63) ≤ k) && decide (k < 2 ^ 63) then some (.tup xs) else none)
    else if decide (2 ≤ k) && decide (k ≤ 1000) && decide (xs.length ≤ 1000) then some (.tup (List.replicate k.toNat xs).flatten)
    else if decide (k ≤ 0) && decide (-(2 ^ 63) ≤ k) then some (.tup []) else none
  | _, _ => none
theorem Rvs.rep {K : PySem.W.Frag} {H : Hp} {α : List Addr} {ds : List D} {vs : List V} (h : Rvs K H α ds vs) : ∀ n : Nat, Rvs K H α (List.replicate n ds).flatten (List.replicate n vs).flatten
  | 0 => by simp [Rvs]
  | n + 1 => by
    rw [List.replicate_succ, List.replicate_succ, List.flatten_cons, List.flatten_cons]
    exact h.append (Rvs.rep h n)
def rMul3 (K : PySem.W.Frag) : R2 := fun x y H Q => rI (fun i j => mulOk i j = true) (fun i j => .int (i * j)) x y H Q ∨ rRepT K x y H Q ∨ rRepS K x y H Q ∨ rRepN K x y H Q
theorem op_mul3 : OpR X (binaryOp .Mult) (rMul3 X.K) := op_mulY.or (OpR.or (r := rRepT X.K) op_repT (OpR.or (r := rRepS X.K) op_repS op_repN))
theorem os_mul : OpS X (rMul3 X.K) gMul := fun H0 α0 σ H α s x y a b d Q r rx ry e q => by
  unfold gMul at e
  split at e
  · split at e
    · rename_i hc
      cases e
      rw [rx_int rx, rx_int ry]
      exact .inl ⟨_, _, rfl, rfl, hc, .inl (q _ _ _ r (Stay.refl _ _) ox_int)⟩
    · cases e
  · rename_i xs k
    obtain ⟨p, vs, rfl, h1, r1⟩ := asT_ok rx
    rw [rx_int ry]
    split at e
    · rename_i h2
      split at e
      · rename_i h3
        cases e
        rw [Bool.and_eq_true, decide_eq_true_eq, decide_eq_true_eq] at h3
        refine .inr (.inr (.inl ⟨p, k, vs, rfl, rfl, h1, ?_, h3.1, h3.2, .inl (q _ _ _ r (Stay.refl _ _) rx)⟩))
        rw [Bool.or_eq_true, List.isEmpty_iff] at h2
        rcases h2 with h2 | h2
        · exact .inl (r1.nil_iff.mpr h2)
        · exact .inr (by simpa using h2)
      · cases e
    · rename_i h2
      split at e
      · rename_i h3
        cases e
        simp only [Bool.and_eq_true, decide_eq_true_eq] at h3
        refine .inr (.inl ⟨p, k, vs, rfl, rfl, h1, fun z => ?_, h3.1.1, h3.1.2, by rw [r1.length]; exact h3.2, fun l hl => .inl (new_tup r hl (r1.rep _) q)⟩)
        have := r1.nil_iff.mp z
        subst this
        simp at h2
      · rename_i h4
        split at e
        · rename_i h3
          cases e
          simp only [Bool.and_eq_true, decide_eq_true_eq] at h3
          refine .inr (.inr (.inr ⟨p, k, vs, rfl, rfl, h1, fun z => ?_, h3.1, h3.2, fun l hl => .inl (new_tup r hl (by simp only [Rvs]) q)⟩))
          have := r1.nil_iff.mp z
          subst this
          simp at h2
        · cases e
  · cases e
theorem pd_mul {a b : Expr} {pos : Pos} {fa fb : FE} (ha : PED X a fa) (hb : PED X b fb) : PED X (.BinOp a .Mult b pos) (dOp gMul fa fb) := pd_op op_mul3 os_mul ha hb
end
/-! a fresh list times an int -/
theorem Rel.pinF {K : PySem.W.Frag} {H0 H : Hp} {α0 α : List Addr} {σ : Sg} {s : S} {a : Addr} {c : Cell} {o : HO} (r : Rel K H0 α0 H α σ s) (h : RF K H0 H α σ s a c) (ho : H a = some o) (nf : ¬ Fixed o) : Rel K (upd H0 a o) α0 H α σ s ∧ a ∉ α0 ∧ H0 a = none := by
  obtain ⟨h1, h2, h3, h4⟩ := h
  have n0 : a ∉ α0 := fun z => h2 (r.st.pre.subset z)
  refine ⟨⟨r.cells, ⟨r.slots.len, r.slots.val, fun i c e => ?_, r.slots.inj⟩, fun b u e m => ?_, fun b hb => ?_, ⟨fun b u e f => ?_, r.st.pre, fun b e => ?_⟩⟩, n0, h3⟩
  · obtain ⟨b, e1, e2, e3, e4⟩ := r.slots.own i c e
    refine ⟨b, e1, e2, ?_, e4⟩
    rw [upd_ne]
    · exact e3
    · rintro rfl
      exact h4 i c e e1
  · by_cases z : b = a
    · subst z
      rw [upd_same] at e
      rw [← e]
      exact ho
    · rw [upd_ne z] at e
      exact r.ot b u e m
  · rcases r.nw b hb with z | z
    · exact .inl z
    · refine .inr ?_
      rw [upd_ne]
      · exact z
      · rintro rfl
        exact h2 hb
  · by_cases z : b = a
    · subst z
      rw [upd_same] at e
      cases e
      exact (nf f).elim
    · rw [upd_ne z] at e
      exact r.st.im b u e f
  · by_cases z : b = a
    · subst z
      rw [ho] at e
      cases e
    · rw [upd_ne z]
      exact r.st.dom b e
def repD (c : Cell) (b : D) : Option (List D) := match c, b with
  | .lst xs, .int k => if decide (-(2 ^ 63) ≤ k) && decide (k < 2 ^ 63) && decide (xs.length * k.toNat ≤ 16777216) then some (List.replicate k.toNat xs).flatten else none
  | _, _ => none
def dRepF (fa : FC) (fb : FE) : FC := fun s => (fa s).bind fun c s1 => (fb s1).bind fun b s2 => match repD c b with | some ys => .ok (.lst ys) s2 | none => .bad
section
variable {X : Cx}
theorem pf_rep {a b : Expr} {pos : Pos} {fa : FC} {fb : FE} (ha : PFD X a fa) (hb : PED X b fb) : PFD X (.BinOp a .Mult b pos) (dRepF fa fb) := by
  refine ⟨fun W tk => ?_⟩
  obtain ⟨t, p, q⟩ := ha.run W tk
  obtain ⟨tb, pb, qb⟩ := hb.run W tk
  refine ⟨_, pe_op op_rep p pb, fun H0 α0 σ H α s Q r k => q H0 α0 σ H α s _ r ?_⟩
  unfold dRepF at k
  cases ea : fa s with
  | bad => rw [ea] at k; exact k.elim
  | exc e s1 => rw [ea] at k; exact k
  | ok c s1 =>
    rw [ea] at k
    intro l H1 α1 r1 t1 rf
    have k : PostF X.K H0 α0 σ W H α Q ((fb s1).bind fun b s2 => match repD c b with | some ys => .ok (.lst ys) s2 | none => .bad) := k
    have fin : ∀ (o : HO), H1 l = some o → ¬ Fixed o → (∀ H' α', Stay H1 α1 H' α' → H' l = some o → CellOk X.K H' α' l c) → tb σ H1 fun y H2 => rRep (.ref l) y H2 Q := fun o ho nf hcell => by
      obtain ⟨rp, n0, h0⟩ := r1.pinF rf ho nf
      refine qb _ α0 σ H1 α1 s1 _ rp ?_
      cases eb : fb s1 with
      | bad => rw [eb] at k; exact k.elim
      | exc e s2 => rw [eb] at k; exact fun cls dd H' α' r' x => k cls dd H' α' (r'.unpin h0) x
      | ok b s2 =>
        rw [eb] at k
        simp only [Res.bind] at k
        intro y H2 α2 r2 t2 ry
        have hl := r2.pinned n0
        cases er : repD c b with
        | none => rw [er] at k; exact k.elim
        | some ys =>
          rw [er] at k
          unfold repD at er
          split at er
          · rename_i xs kk
            split at er
            · rename_i hk
              cases er
              simp only [Bool.and_eq_true, decide_eq_true_eq] at hk
              obtain ⟨vs, hv, rr⟩ := hcell H2 α2 t2 hl
              rw [rx_int ry]
              refine ⟨l, kk, vs, rfl, rfl, hv, hk.1.1, hk.1.2, by rw [rr.length, sizeLine_eq]; exact hk.2, fun p hp => ?_⟩
              exact new_lst (r2.unpin h0) hp (rr.rep _) fun a H' α' r' t' rf' => k a H' α' r' ((t1.trans t2).trans t') rf'
            · cases er
          · cases er
    cases c with
    | lst xs =>
      obtain ⟨vs, hv, rr⟩ := rf.1
      exact fin _ hv (fun z => z) fun H' α' t h => ⟨vs, h, Rvs.stay t _ _ rr⟩
    | dct kvs =>
      rcases rf.1 with ⟨kv, hv, rr⟩ | ⟨kv, nn, hv, rr⟩
      · exact fin _ hv (fun z => z) fun H' α' t h => .inl ⟨kv, h, Rkv.stay t _ _ rr⟩
      · exact fin _ hv (fun z => z) fun H' α' t h => .inr ⟨kv, nn, h, RkT.stay t _ _ rr⟩
    | ins C fs =>
      obtain ⟨dx, vs, hv, rr⟩ := rf.1
      exact fin _ hv (fun z => z) fun H' α' t h => ⟨dx, vs, h, Rfs.stay t _ _ rr⟩
    | tab n =>
      refine qb _ α0 σ H1 α1 s1 _ r1 ?_
      cases eb : fb s1 with
      | bad => rw [eb] at k; exact k.elim
      | exc e s2 => rw [eb] at k; exact k
      | ok b s2 => rw [eb] at k; simp only [Res.bind, repD] at k; exact k.elim
    | dead =>
      obtain ⟨o, ho⟩ := rf.1
      refine qb _ α0 σ H1 α1 s1 _ r1 ?_
      cases eb : fb s1 with
      | bad => rw [eb] at k; exact k.elim
      | exc e s2 => rw [eb] at k; exact k
      | ok b s2 => rw [eb] at k; simp only [Res.bind, repD] at k; exact k.elim
end
end DL

namespace DL
open PySem PySem.Spec PyProof.Rows L2
variable [DLX]
/-! ### 29. Built-ins that give a fresh thing -/
def BIF (X : Cx) (f : Value) (g : S → List D → Option Cell) : Prop :=
  ∀ (pins : List (Addr × Obj)) (s : Shared) (σ0 : Sg) (H : Hp) (xs : List V) (us : List Value) (Q : VK) (H0 : Hp) (σ : Sg) (α0 α : List Addr) (st : S) (ds : List D) (c : Cell), Inv X pins σ0 H s → Rel X.K H0 α0 H α σ st → Rxs X.K H α σ ds xs → Vals xs us → g st ds = some c →
    (∀ a H' α', Rel X.K H0 α0 H' α' σ st → Stay H α H' α' → RF X.K H0 H' α' σ st a c → Q (.ref a) H') → wpAny (model X.prog X.w) X.A (call f us) (EP X pins σ0 Q) X.xe s
def rBIF (K : PySem.W.Frag) (g : S → List D → Option Cell) : List V → Hp → VK → Prop := fun xs H Q => ∃ H0 σ α0 α st ds c, Rel K H0 α0 H α σ st ∧ Rxs K H α σ ds xs ∧ g st ds = some c ∧ ∀ a H' α', Rel K H0 α0 H' α' σ st → Stay H α H' α' → RF K H0 H' α' σ st a c → Q (.ref a) H'
theorem BIF.call {X : Cx} {f : Value} {g : S → List D → Option Cell} (h : BIF X f g) : CallR X f (rBIF X.K g) := fun pins s σ0 H xs us Q I rv ⟨H0, σ, α0, α, st, ds, d, rl, rx, eg, q⟩ => h pins s σ0 H xs us Q H0 σ α0 α st ds d I rl rx rv eg q
theorem BIF.of {X : Cx} {f : Value} {r : List V → Hp → VK → Prop} {g : S → List D → Option Cell} (hc : CallR X f r)
    (h : ∀ (H0 : Hp) (α0 : List Addr) (σ : Sg) (H : Hp) (α : List Addr) (s : S) (xs : List V) (ds : List D) (c : Cell) (Q : VK), Rel X.K H0 α0 H α σ s → Rxs X.K H α σ ds xs → g s ds = some c →
      (∀ a H' α', Rel X.K H0 α0 H' α' σ s → Stay H α H' α' → RF X.K H0 H' α' σ s a c → Q (.ref a) H') → r xs H Q) : BIF X f g :=
  fun pins s σ0 H xs us Q H0 σ α0 α st ds d I rl rx rv eg q => hc pins s σ0 H xs us Q I rv (h H0 α0 σ H α st xs ds d Q rl rx eg q)
theorem BIF.or {X : Cx} {f : Value} {g g' : S → List D → Option Cell} (h : BIF X f g) (h' : BIF X f g') : BIF X f (fun s ds => (g s ds).or (g' s ds)) := fun pins s σ0 H xs us Q H0 σ α0 α st ds d I rl rx rv eg q => by
  dsimp only at eg
  cases e : g st ds with
  | some d' =>
    rw [e] at eg
    obtain rfl : d' = d := Option.some.inj eg
    exact h pins s σ0 H xs us Q H0 σ α0 α st ds d' I rl rx rv e q
  | none =>
    rw [e] at eg
    have eg : g' st ds = some d := eg
    exact h' pins s σ0 H xs us Q H0 σ α0 α st ds d I rl rx rv eg q
def dBF (g : S → List D → Option Cell) (fa : FA) : FC := fun s => (fa s).bind fun ds s1 => match g s1 ds with | some d => .ok d s1 | none => .bad
section
variable {X : Cx} {x : Str} {p pos : Pos} {e : Expr} {es : List Expr} {fa : FA} {g : S → List D → Option Cell} {id T : String}
theorem bif_core {t : TA} {W : WX} {H0 : Hp} {α0 : List Addr} (qa : ∀ H0 α0 σ H α s Q, Rel X.K H0 α0 H α σ s → PostA X.K H0 α0 σ W H α Q (fa s) → t σ H Q) {σ : Sg} {H : Hp} {α : List Addr} {s : S} {Q : VK} (r : Rel X.K H0 α0 H α σ s) (q : PostF X.K H0 α0 σ W H α Q (dBF g fa s)) : tCB (rBIF X.K g) t σ H Q := by
  refine qa H0 α0 σ H α s _ r ?_
  unfold dBF at q
  cases ea : fa s with
  | bad => rw [ea] at q; exact q.elim
  | exc e s1 => rw [ea] at q; exact q
  | ok ds s1 =>
    rw [ea] at q
    intro vs H1 α1 r1 t1 rv
    simp only [Res.bind] at q
    split at q
    · rename_i d eg
      exact ⟨H0, σ, α0, α1, s1, ds, d, r1, rv, eg, fun a H' α' r' t' rx => q a H' α' r' (t1.trans t') rx⟩
    · exact q.elim
theorem pf_b (hc : BIF X (.builtin id) g) (hg : Gl X x) (hm : X.mg x = none) (hv : bootBuiltins x = some (.builtin id)) (ha : PAD X (e :: es) fa) (hn : x ≠ "__name__" := by decide) (hdb : (x == ("__debug__" : Str)) = false := by decide)
    (he : starEach (e :: es) X.env = (false, eval e X.env) :: starEach es X.env := by rfl) (hpl : (backTo pos (starEach es X.env)).any (·.1) = false := by rfl) : PFD X (.Call (.Name x p) (e :: es) [] pos) (dBF g fa) := by
  refine ⟨fun W tk => ?_⟩
  obtain ⟨t, pa, qa⟩ := ha.run W tk
  exact ⟨_, pe_callB hc.call hg hm hv pa hn hdb he hpl, fun H0 α0 σ H α s Q r q => bif_core qa r q⟩
theorem pf_ty (hc : BIF X (.type T) g) (hg : Gl X x) (hm : X.mg x = none) (hv : bootBuiltins x = some (.type T)) (ha : PAD X (e :: es) fa) (hn : x ≠ "__name__" := by decide) (hdb : (x == ("__debug__" : Str)) = false := by decide)
    (he : starEach (e :: es) X.env = (false, eval e X.env) :: starEach es X.env := by rfl) (hpl : (backTo pos (starEach es X.env)).any (·.1) = false := by rfl) : PFD X (.Call (.Name x p) (e :: es) [] pos) (dBF g fa) := by
  refine ⟨fun W tk => ?_⟩
  obtain ⟨t, pa, qa⟩ := ha.run W tk
  exact ⟨_, pe_callTy hc.call hg hm hv pa hn hdb he hpl, fun H0 α0 σ H α s Q r q => bif_core qa r q⟩
/-- list(x) of a list, a tuple -/
def gList : S → List D → Option Cell := fun s ds => match ds with | [d] => (asSeq s d).map .lst | _ => none
theorem bif_list : BIF X (.type "list") gList := .of L2.call_list_of fun H0 α0 σ H α s xs ds c Q r rx e q => by
  unfold gList at e
  split at e
  · obtain ⟨v, rfl, rv⟩ := rx.one
    simp only [Option.map_eq_some_iff] at e
    obtain ⟨ys, e, rfl⟩ := e
    obtain ⟨a, vs, rfl, hs, rr⟩ := asSeq_ok r rv e
    exact ⟨a, vs, rfl, hs, fun l hl => new_lst r hl rr q⟩
  · cases e
/-! min, max of a list of ints -/
def minD : List Int → Option D | [] => none | n :: ns => some (.int (ns.foldl min n))
def maxD : List Int → Option D | [] => none | n :: ns => some (.int (ns.foldl max n))
def gMin : S → List D → Option D := fun s ds => match ds with | [d] => (asL s d).bind fun xs => (intsD xs).bind minD | _ => none
def gMax : S → List D → Option D := fun s ds => match ds with | [d] => (asL s d).bind fun xs => (intsD xs).bind maxD | _ => none
theorem foldl_min_le : ∀ (ns : List Int) (n : Int), ns.foldl min n ≤ n ∧ (∀ y ∈ ns, ns.foldl min n ≤ y) ∧ (ns.foldl min n = n ∨ ns.foldl min n ∈ ns)
  | [], n => ⟨Int.le_refl _, by simp, .inl rfl⟩
  | m :: ns, n => by
    obtain ⟨h1, h2, h3⟩ := foldl_min_le ns (min n m)
    rw [List.foldl_cons]
    refine ⟨by omega, fun y hy => ?_, ?_⟩
    · rcases List.mem_cons.mp hy with rfl | hy
      · omega
      · exact h2 y hy
    · rcases h3 with h3 | h3
      · by_cases e : n ≤ m
        · exact .inl (by rw [h3]; omega)
        · exact .inr (by rw [h3, show min n m = m from by omega]; simp)
      · exact .inr (List.mem_cons_of_mem _ h3)
theorem foldl_max_le : ∀ (ns : List Int) (n : Int), n ≤ ns.foldl max n ∧ (∀ y ∈ ns, y ≤ ns.foldl max n) ∧ (ns.foldl max n = n ∨ ns.foldl max n ∈ ns)
  | [], n => ⟨Int.le_refl _, by simp, .inl rfl⟩
  | m :: ns, n => by
    obtain ⟨h1, h2, h3⟩ := foldl_max_le ns (max n m)
    rw [List.foldl_cons]
    refine ⟨by omega, fun y hy => ?_, ?_⟩
    · rcases List.mem_cons.mp hy with rfl | hy
      · omega
      · exact h2 y hy
    · rcases h3 with h3 | h3
      · by_cases e : m ≤ n
        · exact .inl (by rw [h3]; omega)
        · exact .inr (by rw [h3, show max n m = m from by omega]; simp)
      · exact .inr (List.mem_cons_of_mem _ h3)
theorem bi_min (hc : X.calm = true) : BI X (.builtin "min") gMin := .of (L2.cr_min hc) fun H0 α0 σ H α s xs ds d Q r rx e q => by
  unfold gMin at e
  split at e
  · obtain ⟨v, rfl, rv⟩ := rx.one
    simp only [Option.bind_eq_some_iff] at e
    obtain ⟨ys, e1, ns, e2, e3⟩ := e
    obtain ⟨a, vs, rfl, hs, rr⟩ := asL_ok r rv e1
    obtain rfl := rvs_ints ys e2 rr
    cases ns with
    | nil => cases e3
    | cons n ns =>
      cases e3
      refine ⟨a, n :: ns, rfl, hs, by simp, fun m hm hle => ?_⟩
      obtain ⟨h1, h2, h3⟩ := foldl_min_le ns n
      have : m = ns.foldl min n := by
        have a1 : m ≤ ns.foldl min n := hle _ (by rcases h3 with h3 | h3; · rw [h3]; simp
                                                  · exact List.mem_cons_of_mem _ h3)
        have a2 : ns.foldl min n ≤ m := by
          rcases List.mem_cons.mp hm with rfl | hm
          · exact h1
          · exact h2 m hm
        omega
      subst this
      exact .inl (q _ _ _ r (Stay.refl _ _) ox_int)
  · cases e
theorem bi_max (hc : X.calm = true) : BI X (.builtin "max") gMax := .of (L2.cr_max hc) fun H0 α0 σ H α s xs ds d Q r rx e q => by
  unfold gMax at e
  split at e
  · obtain ⟨v, rfl, rv⟩ := rx.one
    simp only [Option.bind_eq_some_iff] at e
    obtain ⟨ys, e1, ns, e2, e3⟩ := e
    obtain ⟨a, vs, rfl, hs, rr⟩ := asL_ok r rv e1
    obtain rfl := rvs_ints ys e2 rr
    cases ns with
    | nil => cases e3
    | cons n ns =>
      cases e3
      refine ⟨a, n :: ns, rfl, hs, by simp, fun m hm hle => ?_⟩
      obtain ⟨h1, h2, h3⟩ := foldl_max_le ns n
      have : m = ns.foldl max n := by
        have a1 : ns.foldl max n ≤ m := hle _ (by rcases h3 with h3 | h3; · rw [h3]; simp
                                                  · exact List.mem_cons_of_mem _ h3)
        have a2 : m ≤ ns.foldl max n := by
          rcases List.mem_cons.mp hm with rfl | hm
          · exact h1
          · exact h2 m hm
        omega
      subst this
      exact .inl (q _ _ _ r (Stay.refl _ _) ox_int)
  · cases e
/-! {} -/
def dEmp : FC := fun s => .ok (.dct []) s
theorem pf_emp {pos : Pos} : PFD X (.Dict [] [] pos) dEmp := ⟨fun W tk => ⟨_, pe_dnewK, fun H0 α0 σ H α s Q r q p hp => by
  have t : Stay H α (upd H p (.dK [])) α := Stay.upd_new hp
  refine q p _ α (r.new hp) t ⟨.inl ⟨[], upd_same, by simp only [Rkv]⟩, r.nota hp, r.free0 hp, fun i c' h1 h2 => ?_⟩
  obtain ⟨a, e1, _, _, e2⟩ := r.slots.own i c' h1
  rw [h2] at e1
  cases e1
  obtain ⟨o, e3⟩ := e2.some
  rw [hp] at e3
  cases e3⟩⟩
/-! sorted(xs) by what data says -/
def encD (d : D) : PyData := match toPy d with | some p => p | none => .none
def sortOk (ps : List PyData) : Bool := ps.all (fun p => ps.all fun q => PySem.W.alike p q) && (ps.all (fun p => match p with | .tuple (_ :: _) => true | _ => false) || ps.all (fun p => match p with | .tuple _ => false | .none => false | _ => true)) && ps.all (fun p => decide (p.depth ≤ 60))
def gSorted : S → List D → Option Cell := fun s ds => match ds with
  | [d] => (asL s d).bind fun xs => (toPyL xs).bind fun ps => if sortOk ps && decide (xs.length ≤ 16777216) then some (.lst (xs.mergeSort (PySem.W.dataLe false encD))) else none
  | _ => none
theorem toPyL_map : ∀ {xs : List D} {ps : List PyData}, toPyL xs = some ps → ps = xs.map encD
  | [], ps, h => by simp only [toPyL, Option.some.injEq] at h; subst h; rfl
  | x :: xs, ps, h => by
    unfold toPyL at h
    split at h
    · rename_i y ys h1 h2
      cases h
      rw [List.map_cons, ← toPyL_map h2]
      unfold encD
      rw [h1]
    · cases h
theorem each_of {K : PySem.W.Frag} {H : Hp} {α : List Addr} : ∀ {xs : List D} {vs : List V} {us : List Value}, Rvs K H α xs vs → Vals vs us → PySem.W.EachIs (fun u d => ∃ v, RelV v u ∧ Rv K H α d v) us xs
  | [], vs, us, h, r => by
    simp only [Rvs] at h
    subst h
    cases r
    exact .nil
  | d :: ds, vs, us, h, r => by
    simp only [Rvs] at h
    obtain ⟨v, l, rfl, h1, h2⟩ := h
    cases r with
    | cons a b => exact .cons ⟨v, a, h1⟩ (each_of h2 b)
theorem of_each {K : PySem.W.Frag} {H : Hp} {α : List Addr} : ∀ {xs : List D} {us : List Value}, PySem.W.EachIs (fun u d => ∃ v, RelV v u ∧ Rv K H α d v) us xs → ∃ vs, Rvs K H α xs vs ∧ Vals vs us
  | _, _, .nil => ⟨[], .nil, .nil⟩
  | _, _, .cons ⟨v, a, b⟩ t => by
    obtain ⟨vs, h1, h2⟩ := of_each t
    exact ⟨v :: vs, .cons b h1, .cons a h2⟩
theorem each_reads {h : Heap} : ∀ {xs : List D} {us : List Value} {as : List Addr}, ReadsAll h us (xs.map encD) as → PySem.W.EachIs (fun v b => ∃ as, Reads h v (encD b) as) us xs := fun h => PySem.W.readsAll_each encD h
theorem bif_sorted (hu : X.A.units + 65 < cLine) : BIF X (.builtin "sorted") gSorted := by
  intro pins s σ0 H xs us Q H0 σ α0 α st ds c I rl rx rv eg q
  unfold gSorted at eg
  split at eg
  · simp only [Option.bind_eq_some_iff] at eg
    obtain ⟨ys, e1, ps, e2, e3⟩ := eg
    split at e3
    · rename_i hc
      cases e3
      rw [Bool.and_eq_true, decide_eq_true_eq] at hc
      obtain ⟨hs, hl⟩ := hc
      obtain ⟨v, rfl, rx1⟩ := rx.one
      obtain ⟨u, rfl, rv1⟩ := vals1 rv
      obtain ⟨a, vs, rfl, hq, rr⟩ := asL_ok rl rx1 e1
      cases (show u = Value.ref a from rv1)
      obtain ⟨its, rv2, pl, hz⟩ := I.list hq
      obtain ⟨as, rd, _⟩ := readsL_ok I ys vs its ps rr rv2 e2
      have ep := toPyL_map e2
      subst ep
      unfold sortOk at hs
      simp only [Bool.and_eq_true, Bool.or_eq_true, List.all_eq_true, decide_eq_true_eq] at hs
      obtain ⟨⟨h1, h2⟩, h3⟩ := hs
      refine PySem.W.sorted_data (β := D) (enc := encD) (bs := ys) pl.isList (each_of rr rv2) (each_reads rd) (fun d hd d' hd' => h1 d hd d' hd') ?_ (by rw [sizeLine_eq]; exact hl) (fun b hb => ?_) fun out hlen hout => ?_
      · rcases h2 with h2 | h2
        · refine .inl fun d hd => ?_
          have := h2 d hd
          split at this
          · exact ⟨_, _, rfl⟩
          · cases this
        · refine .inr fun d hd => ?_
          have := h2 d hd
          refine ⟨fun z => ?_, fun xs z => ?_⟩ <;> rw [z] at this <;> cases this
      · have := h3 _ (List.mem_map_of_mem hb)
        omega
      · obtain ⟨ws, r1, r2⟩ := of_each hout
        obtain ⟨ep, he'⟩ := PyProof.Rows.sortedAll_at s.heap its out.toArray
        have hlen2 : ws.length ≤ sizeLine := by rw [r1.length, List.length_mergeSort, sizeLine_eq]; exact hl
        have hn : H (s.heap.objs.size + 1) = none := I.hok.fresh (Nat.le_succ _)
        refine ⟨.ref _, upd H (s.heap.objs.size + 1) (.lst ws), I.laid (t' := s.toks) (fun _ _ => PyProof.Rows.sortedAll_old) (Nat.le_succ _) ⟨hlen2, out, ep, r2, he'⟩, rfl, ?_⟩
        exact new_lst rl hn r1 q
    · cases e3
  · cases eg
end
/-! set of ints, sorted at once -/
def gSortSet : S → D → Option (List Int) := fun s d => (asL s d).bind fun xs => (intsD xs).bind fun ns => if ns.length < 63 then some ns else none
end DL

namespace DL
open PySem PySem.Spec PyProof.Rows L2
variable [DLX]
open Builtin in
/-- the empty set's object -/
abbrev set0 (w : World) : Obj := { cls := .type "set", dict := none, data := .set #[] 0 (.fresh 0 0 (!w.params.followText "set-order")) }
/-- set(l), l a list of ints -/
theorem set_of_list {P : Program} {w : World} {A : Around} {E : Value → Shared → Prop} {s : Shared} {l : Addr} {items : Array Value} (ns : List Int) {Q : Value → Shared → Prop} (hh : A.handled = none) (hl : s.heap.IsList l items) (hit : IntsAre items.toList ns) (hb : ns.length + 1 < scanBound)
    (h : ∀ (h' : Heap) (tk c : Nat), SetR w h' s.heap.objs.size (fun j => decide (j ∈ ns)) c → c ≤ ns.length → (∀ b o, s.heap.get? b = some o → h'.get? b = some o) → Q (.ref s.heap.objs.size) { s with heap := h', toks := tk }) :
    wpAny (model P w) A (call (.type "set") [.ref l]) Q E s := by
  have hisz : items.size = ns.length := by
    have q := IntsAre.length hit
    rwa [Array.length_toList] at q
  obtain ⟨c, tl, hmro⟩ := F.called_set.mro
  have hmade := F.called_set.made
  have hsub := F.called_set.sub
  refine wpAny_call (codeAny_of_tree ?_)
  show wpAny _ _ (callAny (.type "set") _) _ _ _
  refine wpAny_pure ⟨Code.quiet_builtin _ (by decide +kernel), codeAny_builtin F.entry_type_call ?_⟩
  rw [Around.under_plain (weight_type_call_type "set" [.ref l] []) rfl]
  have h1 := F.called_set.notType
  have h2 := F.called_set.canCreate
  have hct := F.typeCall_set_1 (.ref l)
  repeat (any_goals (first | assumption | wp_step))
  refine codeAny_mono (code_set_led1 (.ref l) (E := E) (Q₁ := fun obj s₁ => obj = .ref s.heap.objs.size ∧ s₁ = { s with heap := s.heap.push (set0 w) }) ⟨rfl, rfl⟩) fun r s₁ hr => ?_
  cases r with
  | error e => exact hr
  | ok fl =>
    cases fl with
    | ret obj =>
      obtain ⟨rfl, rfl⟩ := hr
      have hS : (s.heap.push (set0 w)).get? s.heap.objs.size = some (set0 w) := Heap.get?_push_size _ rfl
      have hT : Shared.TypeIs { s with heap := s.heap.push (set0 w) } (.ref s.heap.objs.size) "set" := ⟨_, hS, rfl⟩
      have hli := F.called_set.init.lookup
      have hbi := F.called_set.init.bind (.ref s.heap.objs.size)
      repeat (any_goals (first | assumption | wp_step))
      refine codeAny_mono (codeAny_call_builtin (R := wants (fun r s₂ => r = .none ∧ ∃ h' tk c, s₂ = { s with heap := h', toks := tk } ∧ SetR w h' s.heap.objs.size (fun j => decide (j ∈ ns)) c ∧ c ≤ ns.length ∧
          (∀ b o, s.heap.get? b = some o → h'.get? b = some o)) E) F.called_set.init.plain F.entry_set_init (check_set_init_1 hT ?_)) fun r₂ s₂ hr₂ => ?_
      · obtain ⟨⟨ocls, odict, odata, oslots⟩, hol, hcl, nl, hdl⟩ := hl
        simp only at hcl hdl
        subst hcl hdl
        have hl1 : (s.heap.push (set0 w)).IsList l items := ⟨_, Heap.get?_push_of_some _ hol, rfl, nl, rfl⟩
        have hol' := hl1
        have hsls := F.sub_list_set
        have hslf := F.sub_list_frozenset
        have hne : (Value.type "list" == Value.type "dict") = false := by decide
        have hol2 : (s.heap.push (set0 w)).get? l = some { cls := .type "list", dict := odict, data := .seq items nl, slots := oslots } := Heap.get?_push_of_some _ hol
        unfold Builtin.«set.__init__» noKeywords Builtin.Frozenset.updateFrom
        generalize hPI : pyIter = PI
        wp_walk
        subst hPI
        refine wpAny_pyIter_list hl1 ?_
        refine wpAny_bind (wpAny_runValue ?_)
        have hlS : l < s.heap.objs.size := Heap.lt_size hol
        have hz1 : (s.heap.push (set0 w)).objs.size = s.heap.objs.size + 1 := Heap.size_push ..
        have hval : ∀ (i : Nat) (v : Value), items[i]? = some v → ∃ k t, ns[i]? = some k ∧ v = .int k t := fun i v hv => by
          have hi : i < ns.length := by rw [← hisz]; exact (Array.getElem?_eq_some_iff.mp hv).1
          obtain ⟨t, e⟩ := PyProof.Rows.IntsAre.int_at hit i v (by rw [Array.getElem?_toList]; exact hv)
          refine ⟨ns[i], t, List.getElem?_eq_getElem hi, ?_⟩
          rw [e, List.getD_eq_getElem?_getD, List.getElem?_eq_getElem hi] <;> rfl
        refine set_update_ints ((Walks.list (A := A.in1.in1.in1) (by simp [hh]) _ l (by rw [hz1]; exact nlt 1 hlS) items).toS) s.heap.objs.size
          (by rw [hz1]; intro z; rcases mem2 z with z | z; exact nad 0 1 (by decide) z; exact nlt 0 hlS z.symm) ns hisz hb hval (items.size - 0) 0 _ (by omega) (Nat.zero_le _)
          ⟨⟨_, Heap.get?_push_size _ rfl, rfl, rfl⟩, (hl1.push _)⟩ ⟨0, Nat.le_refl 0, setR_new_at (Heap.get?_push_of_some _ hS)⟩ ?_
        intro s' c' hm hc' hS'
        obtain ⟨h', g2, d', tk', os'⟩ := s'
        have eg : g2 = s.gens := hm.gens
        have ed : d' = s.drawn := hm.drawn
        have eo : os' = s.os := hm.os
        subst eg ed eo
        show wpAny _ _ _ _ _ _
        refine wpAny_pure ?_
        show wpAny _ _ (ret Value.none) _ _ _
        rw [hisz] at hc'
        refine wpAny_pure ⟨rfl, h', tk', c', rfl, hS', hc', fun b o e => ?_⟩
        have hb0 : b < s.heap.objs.size := Heap.lt_size e
        refine hm.heap b o (fun z => ?_) (Heap.get?_push_of_some _ (Heap.get?_push_of_some _ e))
        simp only [List.mem_cons, List.not_mem_nil, or_false] at z
        rcases z with z | z
        · exact nlt 0 hb0 z
        · rw [hz1] at z
          exact nlt 1 hb0 z
      · cases r₂ with
        | error e => exact hr₂
        | ok fl₂ =>
          cases fl₂ with
          | ret r =>
            obtain ⟨rfl, h', tk, c', rfl, hS', hc', hk'⟩ := hr₂
            repeat (any_goals (first | assumption | wp_step))
            exact h _ _ _ hS' hc' hk'
          | next => exact hr₂.elim
          | brk => exact hr₂.elim
          | cont => exact hr₂.elim
    | next => exact hr.elim
    | brk => exact hr.elim
    | cont => exact hr.elim
end DL

namespace DL
open PySem PySem.Spec PyProof.Rows L2
variable [DLX]
def rSetI (K : PySem.W.Frag) (w : World) : List V → Hp → VK → Prop := fun xs H Q => ∃ (l : Addr) (ns : List Int), xs = [.ref l] ∧ SqL K H l (ns.map V.int) ∧ ns.length < 63 ∧ ∀ p c, H p = none → c ≤ ns.length → Q (.ref p) (upd H p (SetO w p (fun j => decide (j ∈ ns)) c))
section
variable {X : Cx}
theorem cr_setI (hc : X.calm = true) : CallR X (.type "set") (rSetI X.K X.w) := by
  intro pins s σ H xs us Q I r h
  obtain ⟨l, ns, rfl, hq, hl, q⟩ := h
  rw [Vals.ref1 r]
  obtain ⟨its, rv, pl, hz⟩ := I.list hq
  refine set_of_list ns (I.ok.hd hc) pl.isList (by simpa using rv.ints) (by unfold scanBound; omega) fun h' tk c R hcn k => ?_
  exact ⟨.ref _, _, I.laid (t' := tk) k (Nat.le_refl _) (setO_new R), rfl, q _ c (I.hok.fresh (Nat.le_refl _)) hcn⟩
end
/-- the members, rising -/
def insU (k : Int) : List Int → List Int
  | [] => [k]
  | n :: ns => if k < n then k :: n :: ns else if k = n then n :: ns else n :: insU k ns
def sortU (ns : List Int) : List Int := ns.foldr insU []
theorem insU_mem {k j : Int} : ∀ {ns : List Int}, j ∈ insU k ns ↔ j = k ∨ j ∈ ns
  | [] => by simp [insU]
  | n :: ns => by
    unfold insU
    split
    · simp
    · split
      · rename_i h
        subst h
        simp
      · simp only [List.mem_cons, insU_mem]
        constructor
        · rintro (h | h | h) <;> simp [h]
        · rintro (h | h | h) <;> simp [h]
theorem insU_sorted {k : Int} : ∀ {ns : List Int}, ns.Pairwise (· < ·) → (insU k ns).Pairwise (· < ·)
  | [], _ => by simp [insU]
  | n :: ns, h => by
    rw [List.pairwise_cons] at h
    unfold insU
    split
    · rename_i hk
      rw [List.pairwise_cons]
      refine ⟨fun a ha => ?_, List.pairwise_cons.mpr h⟩
      rcases List.mem_cons.mp ha with rfl | ha
      · exact hk
      · have := h.1 a ha
        omega
    · split
      · exact List.pairwise_cons.mpr h
      · rename_i h1 h2
        rw [List.pairwise_cons]
        refine ⟨fun a ha => ?_, insU_sorted h.2⟩
        rcases insU_mem.mp ha with rfl | ha
        · omega
        · exact h.1 a ha
theorem sortU_mem {j : Int} : ∀ {ns : List Int}, j ∈ sortU ns ↔ j ∈ ns
  | [] => by simp [sortU]
  | n :: ns => by
    show j ∈ insU n (sortU ns) ↔ _
    rw [insU_mem, sortU_mem, List.mem_cons]
theorem sortU_sorted : ∀ {ns : List Int}, (sortU ns).Pairwise (· < ·)
  | [] => List.Pairwise.nil
  | n :: ns => insU_sorted (ns := sortU ns) sortU_sorted
theorem rising_uniq : ∀ {as bs : List Int}, as.Pairwise (· < ·) → bs.Pairwise (· < ·) → (∀ j, j ∈ as ↔ j ∈ bs) → as = bs
  | [], [], _, _, _ => rfl
  | [], b :: bs, _, _, h => by have := (h b).mpr (by simp); simp at this
  | a :: as, [], _, _, h => by have := (h a).mp (by simp); simp at this
  | a :: as, b :: bs, h1, h2, h => by
    rw [List.pairwise_cons] at h1 h2
    have e : a = b := by
      have x := (h a).mp (by simp)
      have y := (h b).mpr (by simp)
      rcases List.mem_cons.mp x with x | x
      · exact x
      · rcases List.mem_cons.mp y with y | y
        · exact y.symm
        · have := h2.1 a x
          have := h1.1 b y
          omega
    subst e
    congr 1
    refine rising_uniq h1.2 h2.2 fun j => ⟨fun hj => ?_, fun hj => ?_⟩
    · rcases List.mem_cons.mp ((h j).mp (List.mem_cons_of_mem _ hj)) with z | z
      · have := h1.1 j hj
        omega
      · exact z
    · rcases List.mem_cons.mp ((h j).mpr (List.mem_cons_of_mem _ hj)) with z | z
      · have := h2.1 j hj
        omega
      · exact z
/-- sorted(set(e)) -/
def dSortSet (fa : FE) : FC := fun s => (fa s).bind fun d s1 => match (asL s1 d).bind intsD with | some ns => if ns.length < 63 then .ok (.lst ((sortU ns).map .int)) s1 else .bad | none => .bad
section
variable {X : Cx}
theorem rvs_map_int {K : PySem.W.Frag} {H : Hp} {α : List Addr} : ∀ (ns : List Int), Rvs K H α (ns.map D.int) (ns.map V.int)
  | [] => .nil
  | n :: ns => .cons (by simp only [Rv]) (rvs_map_int ns)
theorem pf_sortSet {e : Expr} {p p2 q pos : Pos} {fa : FE} (hc : X.calm = true) (hg : Gl X "sorted") (hm : X.mg "sorted" = none) (hg2 : Gl X "set") (hm2 : X.mg "set" = none) (ha : PED X e fa)
    (he1 : starEach [.Call (.Name "set" p2) [e] [] q] X.env = (false, eval (.Call (.Name "set" p2) [e] [] q) X.env) :: starEach [] X.env := by rfl)
    (he : starEach [e] X.env = (false, eval e X.env) :: starEach [] X.env := by rfl) : PFD X (.Call (.Name "sorted" p) [.Call (.Name "set" p2) [e] [] q] [] pos) (dSortSet fa) := by
  refine ⟨fun W tk => ?_⟩
  obtain ⟨t, pe, qe⟩ := ha.run W tk
  refine ⟨_, pe_callB (cr_sortedSet hc) hg hm rfl (pa_cons (pe_callTy (cr_setI hc) hg2 hm2 rfl (pa_cons pe pa_nil he) (by decide) (by decide) he rfl) pa_nil he1) (by decide) (by decide) he1 rfl, fun H0 α0 σ H α s Q r k => qe H0 α0 σ H α s _ r ?_⟩
  unfold dSortSet at k
  cases ea : fa s with
  | bad => rw [ea] at k; exact k.elim
  | exc e s1 => rw [ea] at k; exact k
  | ok d s1 =>
    rw [ea] at k
    intro v H1 α1 r1 t1 rv
    simp only [Res.bind] at k
    cases en : (asL s1 d).bind intsD with
    | none => rw [en] at k; exact k.elim
    | some ns =>
      rw [en] at k
      simp only at k
      split at k
      · rename_i hl
        rw [Option.bind_eq_some_iff] at en
        obtain ⟨ys, e1, e2⟩ := en
        obtain ⟨a, vs, rfl, hs, rr⟩ := asL_ok r1 rv e1
        obtain rfl := rvs_ints ys e2 rr
        refine ⟨a, ns, rfl, hs, hl, fun p c hp hcl => ?_⟩
        have t2 : Stay H1 α1 (upd H1 p (SetO X.w p (fun j => decide (j ∈ ns)) c)) α1 := Stay.upd_new hp
        have r2 := r1.new (o := SetO X.w p (fun j => decide (j ∈ ns)) c) hp
        refine ⟨p, _, c, rfl, upd_same, by omega, fun ns' l h1 h2 h3 hl => ?_⟩
        have e : ns' = sortU ns := rising_uniq h1 sortU_sorted fun j => by rw [h2 j, sortU_mem, decide_eq_true_eq]
        subst e
        exact new_lst r2 hl (rvs_map_int _) fun a H' α' r' t' rf => k a H' α' r' ((t1.trans t2).trans t') rf
      · exact k.elim
end
end DL

namespace DL
open PySem PySem.Spec PyProof.Rows L2
variable [DLX]
/-! ### 30. A slot's thing given away; three targets at once -/
def dTake (i : Nat) : FC := fun s => match s.δ[i]? with
  | some (.own c) => .ok c { s with δ := s.δ.set i .no }
  | _ => .bad
section
variable {X : Cx}
theorem pf_take (i : Nat) {e : Expr} (h : PE X e (tVar i)) : PFD X e (dTake i) := ⟨fun W _ => ⟨_, h, fun H0 α0 σ H α s Q r q => by
  unfold dTake at q
  cases e : s.δ[i]? with
  | none => rw [e] at q; exact q.elim
  | some sl =>
    rw [e] at q
    cases sl with
    | no => exact q.elim
    | val d => exact q.elim
    | own c =>
      obtain ⟨a, h1, h2, h3⟩ := r.giveUp e
      exact ⟨_, h1, q a H α h2 (Stay.refl _ _) h3⟩⟩⟩
def dPar3 (i j l : Nat) (fa : FA) : FS := fun s => match fa s with
  | .ok [a, b, c] s1 => if noOwn a && noOwn b && noOwn c then .nx { s1 with δ := ((s1.δ.set i (.val a)).set j (.val b)).set l (.val c) } else .bad
  | .exc e s1 => .exc e s1
  | _ => .bad
theorem sd_par3 {es : List Expr} {st : Stmt} {i j l : Nat} {fa : FA} (hp : ∀ ta, PA X es ta → PS X st (tPar3 i j l ta)) (ha : PAD X es fa) : PSD X st (dPar3 i j l fa) := by
  refine ⟨fun W tk => ?_⟩
  obtain ⟨t, p, q⟩ := ha.run W tk
  refine ⟨_, hp t p, fun H0 α0 σ H α s D r k => q H0 α0 σ H α s _ r ?_⟩
  unfold dPar3 at k
  cases ea : fa s with
  | bad => rw [ea] at k; exact k.elim
  | exc e s1 => rw [ea] at k; exact fun cls dd H' α' r' x => k cls dd σ H' α' r' x
  | ok ds s1 =>
    rw [ea] at k
    intro vs H1 α1 r1 t1 rv
    match ds, vs, rv with
    | [], _, _ => exact k.elim
    | [_], _, _ => exact k.elim
    | [_, _], _, _ => exact k.elim
    | [a, b, c], [u, v, w], .cons ra (.cons rb (.cons rc .nil)) =>
      simp only at k
      split at k
      · rename_i hn
        simp only [Bool.and_eq_true] at hn
        exact ⟨u, v, w, rfl, k _ H1 α1 (((r1.setV (noOwn_rv ra hn.1.1)).setV (noOwn_rv rb hn.1.2)).setV (noOwn_rv rc hn.2)) t1⟩
      · exact k.elim
    | _ :: _ :: _ :: _ :: _, _, _ => exact k.elim
end
end DL

namespace DL
open PySem PySem.Spec PyProof.Rows L2
variable [DLX]
theorem room_u {k : Nat} {A : Around} (h : Room k A) : A.units + 65 < cLine := by
  have := h.un
  omega
/-! ### 31. A fresh sum of lists; sorted with a key -/
def dCat (fa fb : FE) : FC := fun s => (fa s).bind fun a s1 => (fb s1).bind fun b s2 => match asL s2 a, asL s2 b with
  | some x, some y => if x.length + y.length ≤ 16777216 then .ok (.lst (x ++ y)) s2 else .bad
  | _, _ => .bad
/-- two expressions, then k, to a fresh thing -/
theorem two_runF {X : Cx} {fa fb : FE} {W : WX} {ta tb : TE} (ha : ∀ H0 α0 σ H α s Q, Rel X.K H0 α0 H α σ s → PostE X.K H0 α0 σ W H α Q (fa s) → ta σ H Q)
    (hb : ∀ H0 α0 σ H α s Q, Rel X.K H0 α0 H α σ s → PostE X.K H0 α0 σ W H α Q (fb s) → tb σ H Q) {H0 : Hp} {α0 : List Addr} {σ : Sg} {H : Hp} {α : List Addr} {s : S} {Q : VK} {k : D → D → S → Res Cell} {R : V → V → Hp → Prop} (r : Rel X.K H0 α0 H α σ s)
    (q : PostF X.K H0 α0 σ W H α Q ((fa s).bind fun a s1 => (fb s1).bind fun b s2 => k a b s2))
    (hk : ∀ a b x y s2 H2 α2, Rel X.K H0 α0 H2 α2 σ s2 → Stay H α H2 α2 → Rx X.K H2 α2 σ a x → Rx X.K H2 α2 σ b y → PostF X.K H0 α0 σ W H α Q (k a b s2) → R x y H2) : ta σ H fun x H1 => tb σ H1 fun y H2 => R x y H2 := by
  refine ha H0 α0 σ H α s _ r ?_
  cases ea : fa s with
  | bad => rw [ea] at q; exact q.elim
  | exc e s1 => rw [ea] at q; exact q
  | ok a s1 =>
    rw [ea] at q
    intro x H1 α1 r1 t1 rx
    refine hb H0 α0 σ H1 α1 s1 _ r1 ?_
    have q' : PostF X.K H0 α0 σ W H α Q ((fb s1).bind fun b s2 => k a b s2) := q
    cases eb : fb s1 with
    | bad => rw [eb] at q'; exact q'.elim
    | exc e s2 => rw [eb] at q'; exact q'
    | ok b s2 =>
      rw [eb] at q'
      intro y H2 α2 r2 t2 ry
      exact hk a b x y s2 H2 α2 r2 (t1.trans t2) (rx.stay t2) ry q'
section
variable {X : Cx}
theorem pf_cat {a b : Expr} {pos : Pos} {fa fb : FE} (ha : PED X a fa) (hb : PED X b fb) : PFD X (.BinOp a .Add b pos) (dCat fa fb) := by
  refine ⟨fun W tk => ?_⟩
  obtain ⟨ta, pa, qa⟩ := ha.run W tk
  obtain ⟨tb, pb, qb⟩ := hb.run W tk
  refine ⟨_, pe_op op_catS pa pb, fun H0 α0 σ H α s Q r q => ?_⟩
  refine two_runF (W := W) qa qb r q fun u w x y s2 H2 α2 r2 t2 rx ry q2 => ?_
  split at q2
  · rename_i xs ys e1 e2
    split at q2
    · rename_i hz
      rw [← sizeLine_eq] at hz
      obtain ⟨p, vs, rfl, h1, r1⟩ := asL_ok r2 rx e1
      obtain ⟨p2, vs2, rfl, h2, r2'⟩ := asL_ok r2 ry e2
      exact ⟨p, p2, vs, vs2, rfl, rfl, h1, h2, by rw [r1.length, r2'.length]; exact hz, fun l hl => new_lst r2 hl (r1.append r2') fun a H' α' r' t' rf => q2 a H' α' r' (t2.trans t') rf⟩
    · exact q2.elim
  · exact q2.elim
end
def keysI (F : FF) : List D → List Cell → Option (List Int × List Cell)
  | [], μ => some ([], μ)
  | x :: xs, μ => match F [x] μ with
    | .ok (.int k) μ' => (keysI F xs μ').map fun r => (k :: r.1, r.2)
    | _ => none
def dSortKey (F : FF) (fa : FE) : FC := fun s => (fa s).bind fun d s1 => match asL s1 d with
  | some xs => if xs.length ≤ 16777216 then (match keysI F xs s1.μ with
    | some (ks, μ) => .ok (.lst (((ks.zip xs).mergeSort fun p q => decide (p.1 ≤ q.1)).map (·.2))) { s1 with μ := μ }
    | none => .bad) else .bad
  | none => .bad
end DL

namespace DL
open PySem PySem.Spec PyProof.Rows L2
variable [DLX]
/-! ### 33. sorted(xs, key=f), f a def -/
/-- the context within a built-in's work, where nothing is raised -/
def inn (X : Cx) : Cx := { X with A := X.A.in1.in1, xe := fun _ _ => False }
section
variable {X : Cx} {pins : List (Addr × Obj)} {σ0 : Sg} {H : Hp} {s : Shared}
theorem inn_to (I : Inv X pins σ0 H s) : Inv (inn X) pins σ0 H s :=
  ⟨⟨I.ok.mod, I.ok.kind, I.ok.glob, I.ok.blt, I.ok.above, I.ok.inj, I.ok.has, I.ok.cab, I.ok.hd, I.ok.frames, I.ok.stk, I.ok.exf, I.ok.bs, I.ok.bsz, I.ok.noex, I.ok.exfs, I.ok.funs, I.ok.frf⟩, I.os, I.bare, I.base, I.loc, I.cell, I.free, I.freeC, I.pin, I.hok, I.len⟩
theorem inn_of (ok : X.Ok) (I : Inv (inn X) pins σ0 H s) : Inv X pins σ0 H s := ⟨ok, I.os, I.bare, I.base, I.loc, I.cell, I.free, I.freeC, I.pin, I.hok, I.len⟩
theorem key_call {k : Nat} {f : Addr} {fd : FuncData} {ps : List Str} {F : FF} (F3 : FnG X.prog X.w X.K X.mg X.base k f fd ps (spD X.K 1 F)) (hb : Binds X.K fd ps []) (hr : Room k (inn X).A) (hgu : X.A.guards = some []) {H0 : Hp} {α0 α : List Addr} {σ : Sg} {st : S} {d : D} {v : V} {u : Value} {i : Int} {μ' : List Cell}
    (I : Inv (inn X) pins σ0 H s) (rl : Rel X.K H0 α0 H α σ st) (rv : Rv X.K H α d v) (ru : RelV v u) (e : F [d] st.μ = .ok (.int i) μ') :
    wpAny (model X.prog X.w) X.A.in1.in1 (call (.ref f) [u]) (fun w s' => ∃ t H' α', w = .int i t ∧ Inv (inn X) pins σ0 H' s' ∧ Rel X.K H0 α0 H' α' σ { st with μ := μ' } ∧ Stay H α H' α') (fun _ _ => False) s := by
  refine wpAny_mono (run_fnG (X := inn X) (E := WE fun _ _ _ _ => False) (Q := fun w H' => w = .int i ∧ ∃ α', Rel X.K H0 α0 H' α' σ { st with μ := μ' } ∧ Stay H α H' α') F3 hr hgu hb (passAt Takes.none σ0) I (.cons ru .nil) ⟨rfl, α, [d], st.μ, rl.cells, .single rv, ?_⟩) (fun w s' h => ?_) fun _ _ z => z
  · rw [e]
    intro w H' α' tc rc rw
    simp only [Rv] at rw
    exact ⟨rw, α', rl.after tc rc, tc.st⟩
  · obtain ⟨w', H', I', r', rfl, α', h1, h2⟩ := h
    obtain ⟨t, rfl⟩ := r'
    exact ⟨t, H', α', rfl, I', h1, h2⟩
end
theorem hok_add {P : Program} {w : World} {H : Hp} {h : Heap} {a : Addr} {o : HO} (x : HOk P w H h) (hn : H a = none) (new : ObjOk P w (upd H a o) h a o) : HOk P w (upd H a o) h := fun b u e => by
  by_cases hb : b = a
  · subst hb
    rw [upd_same] at e
    cases e
    exact new
  · rw [upd_ne hb] at e
    refine (x b u e).stay (fun c v _ q => q) (fun c q => ?_) fun c xs q => ?_
    · rw [upd_ne (ne_of_none q hn)]; exact q
    · rw [upd_ne (ne_of_none q hn)]; exact q
theorem vals_get' : ∀ {xs : List V} {us : List Value} {i : Nat} {u : Value}, Vals xs us → us[i]? = some u → ∃ x, xs[i]? = some x ∧ RelV x u
  | _, _, i, u, .nil, e => by simp at e
  | _, _, 0, u, .cons a b, e => by simp at e; subst e; exact ⟨_, rfl, a⟩
  | _, _, i + 1, u, .cons a b, e => by simpa using vals_get' (i := i) b (by simpa using e)
theorem keysI_len {F : FF} : ∀ {xs : List D} {μ : List Cell} {ks : List Int} {μ' : List Cell}, keysI F xs μ = some (ks, μ') → ks.length = xs.length
  | [], μ, ks, μ', h => by cases h; rfl
  | x :: xs, μ, ks, μ', h => by
    unfold keysI at h
    split at h
    · simp only [Option.map_eq_some_iff] at h
      obtain ⟨r, h1, h2⟩ := h
      cases h2
      simp [keysI_len (μ' := r.2) (ks := r.1) h1]
    · cases h
theorem keysI_cons {F : FF} {x : D} {xs : List D} {μ : List Cell} {ks : List Int} {μ' : List Cell} (h : keysI F (x :: xs) μ = some (ks, μ')) : ∃ k r μ1, ks = k :: r ∧ F [x] μ = .ok (.int k) μ1 ∧ keysI F xs μ1 = some (r, μ') := by
  unfold keysI at h
  split at h
  · rename_i k μ1 e
    simp only [Option.map_eq_some_iff] at h
    obtain ⟨r, h1, h2⟩ := h
    cases h2
    exact ⟨k, r.1, μ1, rfl, e, h1⟩
  · cases h
theorem each_zip {K : PySem.W.Frag} {H : Hp} {α : List Addr} : ∀ {xs : List D} {vs : List V} {us : List Value} (ks : List Int), ks.length = xs.length → Rvs K H α xs vs → Vals vs us → PySem.W.EachIs (fun u (p : Int × D) => ∃ v, RelV v u ∧ Rv K H α p.2 v) us (ks.zip xs)
  | [], vs, us, ks, hl, h, r => by
    simp only [Rvs] at h
    subst h
    cases r
    rw [List.zip_nil_right]
    exact .nil
  | d :: ds, vs, us, [], hl, h, r => by simp at hl
  | d :: ds, vs, us, k :: ks, hl, h, r => by
    simp only [Rvs] at h
    obtain ⟨v, l, rfl, h1, h2⟩ := h
    cases r with
    | cons a b =>
      rw [List.zip_cons_cons]
      exact .cons ⟨v, a, h1⟩ (each_zip ks (by simpa using hl) h2 b)
theorem of_zip {K : PySem.W.Frag} {H : Hp} {α : List Addr} : ∀ {ps : List (Int × D)} {us : List Value}, PySem.W.EachIs (fun u (p : Int × D) => ∃ v, RelV v u ∧ Rv K H α p.2 v) us ps → ∃ vs, Rvs K H α (ps.map (·.2)) vs ∧ Vals vs us
  | _, _, .nil => ⟨[], .nil, .nil⟩
  | _, _, .cons ⟨v, a, b⟩ t => by
    obtain ⟨vs, h1, h2⟩ := of_zip t
    exact ⟨v :: vs, .cons b h1, .cons a h2⟩
theorem ints_reads {h : Heap} : ∀ {vs : List Value} {ks : List Int}, IntsAre vs ks → PySem.W.EachIs (fun v d => ∃ as, Reads h v d as) vs (ks.map PyData.int)
  | _, _, .nil => .nil
  | _, _, .cons n t r => .cons ⟨[], .int n t⟩ (ints_reads r)
/-- what sorted(xs, key=f) wants -/
def rSK (K : PySem.W.Frag) (F : FF) (f : Addr) : List V → List V → Hp → VK → Prop := fun vs zs H Q => zs = [.ref f] ∧ ∃ H0 σ α0 α st d xs ks μ', Rel K H0 α0 H α σ st ∧ Rxs K H α σ [d] vs ∧ asL st d = some xs ∧ xs.length ≤ 16777216 ∧ keysI F xs st.μ = some (ks, μ') ∧
  ∀ a H' α', Rel K H0 α0 H' α' σ { st with μ := μ' } → Stay H α H' α' → RF K H0 H' α' σ { st with μ := μ' } a (.lst (((ks.zip xs).mergeSort fun p q => decide (p.1 ≤ q.1)).map (·.2))) → Q (.ref a) H'
theorem cr_sk {X : Cx} {k : Nat} {f : Addr} {fd : FuncData} {ps : List Str} {F : FF} (F3 : FnG X.prog X.w X.K X.mg X.base k f fd ps (spD X.K 1 F)) (hb : Binds X.K fd ps []) (hr : Room (k + 1) X.A) (hgu : X.A.guards = some []) : CallRK X (.builtin "sorted") [Str.ofString "key"] (rSK X.K F f) := by
  intro pins s σ0 H xs0 zs us ws Q I rv rz h
  obtain ⟨rfl, H0, σ, α0, α, st, d, xs, ks, μ', rl, rx, ea, hlen, ek, q⟩ := h
  obtain ⟨v, rfl, rx1⟩ := rx.one
  obtain ⟨u, rfl, rv1⟩ := vals1 rv
  obtain ⟨z, rfl, rz1⟩ := vals1 rz
  cases (show z = Value.ref f from rz1)
  obtain ⟨l, vs, rfl, hq, rr⟩ := asL_ok rl rx1 ea
  cases (show u = Value.ref l from rv1)
  obtain ⟨its, rv2, pl, hz⟩ := I.list hq
  have kl := keysI_len ek
  have il : its.length = xs.length := by rw [← rv2.length, rr.length]
  have hL : its.length ≤ sizeLine := by rw [il, sizeLine_eq]; exact hlen
  have hr' : Room k (inn X).A := ⟨hr.hd, by have := hr.dp; show X.A.depth + 3 * k + 5 < _; omega, by have := hr.un; show X.A.units + 1 + 1 + 16 * k + 200 < _; omega⟩
  show wpAny (model X.prog X.w) X.A (call (.builtin "sorted") [.ref l] [(Str.ofString "key", .ref f)]) _ _ _
  refine PySem.W.sorted_of_sort pl.isList hL (by unfold argsOk; kernel_rfl) (fun x => by unfold argsOk; kernel_rfl) fun E' => ?_
  rw [ksk_t1]
  have ho := PySem.W.copyHeap_at s.heap its
  generalize ha : s.heap.objs.size + 1 = a at ho ⊢
  have old0 : ∀ b o, s.heap.get? b = some o → (PySem.W.copyHeap s.heap its).get? b = some o := fun b o e => PySem.W.copyHeap_old e
  generalize PySem.W.copyHeap s.heap its = hc at ho old0 ⊢
  have alt : a < hc.objs.size := Heap.lt_size ho
  obtain ⟨e1, ho1⟩ : ∃ e1, (hc.update a (Obj.mapSeq fun _ => (#[] : Array Value))).get? a = some (seqObj "list" #[] e1) := ⟨_, get?_update_seq ho fun _ => #[]⟩
  have sz : ((hc.update a (Obj.mapSeq fun _ => (#[] : Array Value))).push (seqObj "tuple" its.toArray 0)).objs.size = hc.objs.size + 1 := by rw [size_push', Heap.size_update]
  unfold ksk_tree
  refine wpAny_bind (listItems_at ho rfl ?_)
  refine wpAny_bind (listUpdate_at ho rfl ?_ (by rw [List.size_toArray]; exact hL) (Nat.zero_le _))
  refine wpAny_bind (seqEpoch_at ho1 rfl ?_)
  refine wpAny_bind (wpAny_newTuple ?_ (by show its.length ≤ _; exact hL))
  refine wpAny_bind (wpAny_newList ?_ (Nat.zero_le _))
  refine wpAny_holding ?_
  have nk0 := Heap.get?_push_size ((hc.update a (Obj.mapSeq fun _ => (#[] : Array Value))).push (seqObj "tuple" its.toArray 0)) (o := seqObj "list" #[] 0) rfl
  have na0 : (((hc.update a (Obj.mapSeq fun _ => (#[] : Array Value))).push (seqObj "tuple" its.toArray 0)).push (seqObj "list" #[] 0)).get? a = some (seqObj "list" #[] e1) := Heap.get?_push_of_some _ (Heap.get?_push_of_some _ ho1)
  have old2 : ∀ b o, s.heap.get? b = some o → (((hc.update a (Obj.mapSeq fun _ => (#[] : Array Value))).push (seqObj "tuple" its.toArray 0)).push (seqObj "list" #[] 0)).get? b = some o := fun b o e => by
    have nb : b ≠ a := by rw [← ha]; exact nlt 1 (Heap.lt_size e)
    exact Heap.get?_push_of_some _ (Heap.get?_push_of_some _ ((Heap.get?_update_ne _ _ _ _ nb).trans (old0 b o e)))
  rw [sz] at nk0 ⊢
  generalize ((hc.update a (Obj.mapSeq fun _ => (#[] : Array Value))).push (seqObj "tuple" its.toArray 0)).push (seqObj "list" #[] 0) = h2 at nk0 na0 old2 ⊢
  generalize hkS : hc.objs.size + 1 = kS at nk0 ⊢
  have hka : kS ≠ a := by rw [← hkS]; exact (nlt 1 alt).symm
  have ka : s.heap.objs.size ≤ a := by rw [← ha]; exact Nat.le_add_right _ _
  have kk : s.heap.objs.size ≤ kS := Nat.le_trans ka (by rw [← hkS]; exact Nat.le_succ_of_le (Nat.le_of_lt alt))
  have fpa : ∀ (b : Addr) (H' : Hp), s.heap.objs.size ≤ b → H' b = none → FpOk X pins H' b := fun b H' h1 h2 => I.fpOk h1 h2
  have I2 : Inv (inn X) pins σ0 H { s with heap := h2 } := inn_to (I.kept (t' := s.toks) old2)
  have seqNo : ∀ (n : String) (xs : Array Value) (e : Nat) (w : Option Value), (seqObj n xs e).data ≠ .cell w := fun n xs e w z => nomatch z
  have pinned : ∀ {H' : Hp} {s' : Shared} {kA : Array Value} {e : Nat}, Inv (inn X) pins σ0 H' s' → H' kS = none → H' a = none → s'.heap.get? kS = some (seqObj "list" kA e) → s'.heap.get? a = some (seqObj "list" #[] e1) → Inv (inn X) ((kS, seqObj "list" kA e) :: (a, seqObj "list" #[] e1) :: pins) σ0 H' s' := fun {H' s' kA e} J n1 n2 g1 g2 => J.pins_of fun p hp => by
    rcases List.mem_cons.mp hp with rfl | hp
    · have q := fpa kS H' kk n1
      exact ⟨g1, q.1, q.2.1, q.2.2.1, seqNo _ _ _⟩
    · rcases List.mem_cons.mp hp with rfl | hp
      · have q := fpa a H' ka n2
        exact ⟨g2, q.1, q.2.1, q.2.2.1, seqNo _ _ _⟩
      · exact J.pin p (List.mem_append_right _ hp)
  have unp : ∀ {H' : Hp} {s' : Shared} {kA : Array Value} {e : Nat}, Inv (inn X) ((kS, seqObj "list" kA e) :: (a, seqObj "list" #[] e1) :: pins) σ0 H' s' → Inv (inn X) pins σ0 H' s' ∧ H' kS = none ∧ H' a = none ∧ s'.heap.get? kS = some (seqObj "list" kA e) ∧ s'.heap.get? a = some (seqObj "list" #[] e1) := fun {H' s' kA e} J =>
    ⟨J.pins_of fun p hp => J.pin p (List.mem_append_right _ (List.mem_cons_of_mem _ (List.mem_cons_of_mem _ hp))), (J.pin _ (List.mem_append_right _ List.mem_cons_self)).2.1, (J.pin _ (List.mem_append_right _ (List.mem_cons_of_mem _ List.mem_cons_self))).2.1,
      (J.pin _ (List.mem_append_right _ List.mem_cons_self)).1, (J.pin _ (List.mem_append_right _ (List.mem_cons_of_mem _ List.mem_cons_self))).1⟩
  unfold ksk_rest
  refine wpAny_bind (wpAny_rule ?_)
  first
    | rw [List.forIn_toArray]
    | (rw [← Array.forIn_toList]; simp only [List.toList_toArray])
  refine wpAny_bind (ksk_fold (fun i s' => ∃ H' α' μi kA e, Inv (inn X) ((kS, seqObj "list" kA e) :: (a, seqObj "list" #[] e1) :: pins) σ0 H' s' ∧ Rel X.K H0 α0 H' α' σ { st with μ := μi } ∧ Stay H α H' α' ∧ IntsAre kA.toList (ks.take i) ∧ keysI F (xs.drop i) μi = some (ks.drop i, μ')) its 0 _
    ⟨H, α, st.μ, #[], 0, pinned I2 (I.hok.fresh kk) (I.hok.fresh ka) nk0 na0, rl, Stay.refl _ _, by rw [List.take_zero]; exact .nil, by rw [List.drop_zero, List.drop_zero]; exact ek⟩ ?step ?done)
  case step =>
    rintro j x s' hx ⟨H', α', μi, kA, e, J, rl', t', hk, ek'⟩
    simp only [Nat.zero_add] at hk ek' ⊢
    have hj : j < its.length := (List.getElem?_eq_some_iff.mp hx).1
    obtain ⟨v, ev, rvx⟩ := vals_get' rv2 hx
    obtain ⟨dx, ed, rdx⟩ := rr.at' ev
    have hdx : xs.drop j = dx :: xs.drop (j + 1) := by
      have hj' := (List.getElem?_eq_some_iff.mp ed)
      rw [List.drop_eq_getElem_cons hj'.1, hj'.2]
    rw [hdx] at ek'
    obtain ⟨k1, r1, μ1, e3, e4, e5⟩ := keysI_cons ek'
    have hkz : kA.size ≤ its.length := by
      have h1 := hk.length
      rw [Array.length_toList, List.length_take] at h1
      omega
    refine wpAny_bind (wpAny_attempt (wpAny_mono (key_call F3 hb hr' hgu J rl' (Rv.stay t' _ _ rdx) rvx e4) (fun w s'' he => ?_) fun _ _ z => z.elim))
    obtain ⟨tk, H2, α2, rfl, J2, rl2, t2⟩ := he
    obtain ⟨J3, n1, n2, g1, g2⟩ := unp J2
    have s1 := Heap.SameBut.update s''.heap kS (Obj.mapSeq (·.push (.int k1 tk)))
    obtain ⟨c2, hc2⟩ : ∃ c2, (s''.heap.update kS (Obj.mapSeq (·.push (.int k1 tk)))).get? kS = some (seqObj "list" (kA.push (.int k1 tk)) c2) := ⟨_, get?_update_seq g1 (·.push (.int k1 tk))⟩
    refine wpAny_bind (listUpdate_at g1 rfl ?_ (Nat.le_trans hkz hL) (Nat.le_trans (Nat.le_of_eq (Array.size_push ..)) (Nat.succ_le_succ (Nat.le_trans hkz hL))))
    refine wpAny_pure ⟨rfl, H2, α2, μ1, kA.push (.int k1 tk), c2, pinned ?_ n1 n2 hc2 ((s1.2 a hka.symm).trans g2), rl2, t'.trans t2, ?_, ?_⟩
    · exact J3.turnedL (t' := s''.toks) (ch := [kS]) (fun b o hb e => (s1.2 b (fun z => hb (by simp [z]))).trans e) fun b hb => by
        have : b = kS := by simpa using hb
        subst this
        exact fpa b H2 kk n1
    · have ekj : ks[j]? = some k1 := by
        have := congrArg (·[0]?) e3
        simpa using this
      have ea2 : (kA.push (.int k1 tk)).toList = kA.toList ++ [.int k1 tk] := by simp
      rw [ea2, List.take_add_one, ekj]
      exact ksk_snoc hk
    · have : ks.drop (j + 1) = r1 := by
        have := congrArg (·.drop 1) e3
        simpa using this
      rw [this]
      exact e5
  case done =>
    rintro s' ⟨H', α', μi, kA, e, J, rl', t', hk, ek'⟩
    simp only [Nat.zero_add] at hk ek'
    rw [show xs.drop its.length = [] from List.drop_of_length_le (by omega)] at ek'
    have em : μi = μ' := by
      have h9 := Option.some.inj ek'
      exact (Prod.ext_iff.mp h9).2
    subst em
    rw [List.take_of_length_le (by omega)] at hk
    obtain ⟨J3, n1, n2, g1, g2⟩ := unp J
    have hsz : kA.size = its.length := by
      have h1 := hk.length
      rw [Array.length_toList] at h1
      omega
    obtain ⟨G, gp, gn⟩ := restrict s'.heap fun b => decide (b ≠ kS)
    refine wpAny_bind (listItems_at g1 rfl ?_)
    have al : PySem.W.AllAlike (ks.map PyData.int) := fun d hd d' hd' => by
      obtain ⟨i, _, rfl⟩ := List.mem_map.mp hd
      obtain ⟨i', _, rfl⟩ := List.mem_map.mp hd'
      rfl
    have hur : X.A.units + 1 + 1 < cLine := by have := hr.un; omega
    refine PySem.W.keyH_end (κ := PySem.W.dataKind s'.heap (ks.map PyData.int)) (h₁ := G) (fun b o _ e => ?_) (gn kS (by simp)) g1 g2 hka (PySem.W.SortsAt.data (s := s') (ints_reads hk) al (.inr fun d hd => ?_) fun d hd => ?_) hsz hL fun h3 tk3 c k3 n3 => ⟨rfl, ?_⟩
    · by_cases hb : b = kS
      · subst hb
        rw [gn b (by simp)] at e
        cases e
      · rw [gp b (by simpa using hb)] at e
        exact e
    · obtain ⟨i, _, rfl⟩ := List.mem_map.mp hd
      exact ⟨(fun z => nomatch z), (fun _ z => nomatch z)⟩
    · obtain ⟨i, _, rfl⟩ := List.mem_map.mp hd
      show X.A.units + 1 + 1 + 0 < cLine
      omega
    · have keep : ∀ b o, b ≠ kS → b ≠ a → s'.heap.get? b = some o → h3.get? b = some o := fun b o h1 h2 e => k3 b o h2 (by rw [gp b (by simpa using h1)]; exact e)
      have J4 : Inv (inn X) pins σ0 H' { s' with heap := h3, toks := tk3 } := J3.turnedL (t' := tk3) (ch := [kS, a]) (fun b o hb e => keep b o (fun z => hb (by simp [z])) (fun z => hb (by simp [z])) e) fun b hb => by
        rcases mem2 hb with z | z
        · rw [z]; exact fpa kS H' kk n1
        · rw [z]; exact fpa a H' ka n2
      have bm : (ks.zip xs).map (fun p : Int × D => PyData.int p.1) = ks.map PyData.int := by
        show (ks.zip xs).map (PyData.int ∘ Prod.fst) = _
        rw [← List.map_map, List.map_fst_zip (by omega)]
      have outE := PySem.W.keyedOut_each (rev := false) (fun p : Int × D => PyData.int p.1) (bs := ks.zip xs) (R := fun u p => ∃ v, RelV v u ∧ Rv X.K H' α' p.2 v) (vs := its) (out := PySem.W.sortVals (PySem.W.dataKind s'.heap (ks.map PyData.int)) false kA.toList its) (by rw [bm]; exact ⟨s'.heap, kA.toList, al, rfl, ints_reads hk⟩) ((each_zip ks kl rr rv2).mono fun u p ⟨v, h1, h2⟩ => ⟨v, h1, Rv.stay t' _ _ h2⟩)
      rw [PySem.W.dataLe_int] at outE
      obtain ⟨ws, w1, w2⟩ := of_zip outE
      have wl : ws.length ≤ sizeLine := by
        rw [w1.length, List.length_map, List.length_mergeSort, List.length_zip]
        omega
      have J5 : Inv (inn X) pins σ0 (upd H' a (.lst ws)) { s' with heap := h3, toks := tk3 } := by
        have hf := fpa a H' ka n2
        refine L2.Inv.step (s := { s' with heap := h3, toks := tk3 }) (h' := h3) (g' := s'.gens) (d' := s'.drawn) (t' := tk3) (ch := [a]) J4 (fun b hb => ?_) (fun b o _ _ _ e _ => e) (fun b o _ _ _ e _ => ⟨o.slots, e⟩) (fun b o hb e n => ?_) (fun b o _ e => ⟨o, e⟩) (fun b ys e => ?_) (fun b o u e => ?_) (fun b ps e => ⟨#[], ?_⟩) (fun m hm => hm) (hok_add J4.hok n2 ⟨wl, _, c, w2, n3⟩) J4.bare
        · have : b = a := by simpa using hb
          subst this
          exact ⟨hf.2.2.2.1, hf.2.1, hf.2.2.2.2.1, hf.2.2.2.2.2⟩
        · rw [upd_ne (fun z => hb (by simp [z]))]
          exact n
        · rw [upd_ne (ne_of_none e n2)]; exact e
        · rw [upd_ne (ne_of_none e n2)]; exact e
        · rw [upd_ne (ne_of_none e n2), e]; simp
      exact ⟨.ref a, upd H' a (.lst ws), inn_of I.ok J5, rfl, new_lst rl' n2 w1 fun b H'' α'' r'' t'' rf => q b H'' α'' r'' (t'.trans t'') rf⟩
theorem pf_sortKey {X : Cx} {x : Str} {k : Nat} {F : FF} {e : Expr} {p p2 q pos : Pos} {fa : FE} (f : FnD X.prog X.w X.K X.mg X.base x k 1 F) (hr : Room (k + 1) X.A) (hgu : X.A.guards = some []) (hg : Gl X x) (hgs : Gl X "sorted") (hms : X.mg "sorted" = none) (ha : PED X e fa) (hdb : (x == ("__debug__" : Str)) = false := by decide)
    (he : backTo pos (starEach [e] X.env) = (false, eval e X.env) :: backTo pos (starEach [] X.env) := by rfl) (hpl : (backTo pos (starEach [e] X.env)).any (·.1) = false := by rfl) (he2 : starEach [e] X.env = (false, eval e X.env) :: starEach [] X.env := by rfl)
    (hall : (backToKw pos (keywordEach [⟨some "key", .Name x p2, q⟩] X.env)).all (·.1.isSome) = true := by rfl) (hnone : (backToKw pos (keywordEach [⟨some "key", .Name x p2, q⟩] X.env)).any (·.1.isNone) = false := by rfl) (hks : (backToKw pos (keywordEach [⟨some "key", .Name x p2, q⟩] X.env)).filterMap (·.1) = [Str.ofString "key"] := by rfl) :
    PFD X (.Call (.Name "sorted" p) [e] [⟨some "key", .Name x p2, q⟩] pos) (dSortKey F fa) := by
  obtain ⟨a, fd, ps, h1, h2, h3, h4⟩ := f.ex
  refine ⟨fun W tk => ?_⟩
  obtain ⟨t, pa, qa⟩ := ha.run W tk
  refine ⟨_, pe_callBK (cr_sk h3 h4 hr hgu) hgs hms rfl (pa_cons pa pa_nil he2) (pk_cons (pe_glob (v := .ref a) hg h1 rfl hdb) pk_nil) (by decide) (by decide) he hpl hall hnone hks, fun H0 α0 σ H α s Q r k => qa H0 α0 σ H α s _ r ?_⟩
  unfold dSortKey at k
  cases ea : fa s with
  | bad => rw [ea] at k; exact k.elim
  | exc e s1 => rw [ea] at k; exact k
  | ok d s1 =>
    rw [ea] at k
    intro v H1 α1 r1 t1 rv
    simp only [Res.bind] at k
    split at k
    · rename_i xs exs
      split at k
      · rename_i hl
        split at k
        · rename_i ks μ ek
          exact ⟨rfl, H0, σ, α0, α1, s1, d, xs, ks, μ, r1, .cons rv .nil, exs, hl, ek, fun b H' α' r' t' rf => k b H' α' r' (t1.trans t') rf⟩
        · exact k.elim
      · exact k.elim
    · exact k.elim
end DL

namespace DL
open PySem PySem.Spec PyProof.Rows L2
variable [DLX]
/-! ### 32. The law's end -/
/-- where nothing but a locked list at a stands told, a def that gives True gives the row what it wants -/
theorem end_core {P : Program} {w : World} {K : PySem.W.Frag} {mg mb : Str → Option Value} {k : Nat} {fa a : Addr} {nm : Str} {FL : FF} {s₁ : Shared} {vs : List Value} {ns : List Int} {μ : List Cell} (KX : K.In s₁.heap) (hns : s₁.heap.Ns mainGlobals mg) (hb : s₁.heap.Ns builtinsNs mb)
    (hbb : ∀ x : Str, x ≠ "__name__" → mb x = bootBuiltins x) (hlim : s₁.heap.NoLimit) (hg : s₁.gens = #[]) (ha : s₁.heap.get? a = some { cls := .type "list", data := .seq vs.toArray }) (hr : Room k callerA) (hfa : mg nm = some (.ref fa))
    (F : ∀ base : Heap, K.In base → base.Ns mainGlobals mg → FnD P w K mg base nm k 1 FL) (hF : FL [.lst (ns.map .int)] [] = .ok (.bl true) μ)
    (H : Hp) (hO : ∀ b, H b = none ∨ ∃ xs, b = a ∧ H b = some (.frz { cls := .type "list", data := .seq vs.toArray } (.lst xs))) (hS : SqF K H a (ns.map V.int)) (hok : HOk P w H s₁.heap) (hK : H a ≠ none → K.lookup a = none) :
    codeAny (model P w) callerA (.call (.ref fa) ⟨[.ref a], []⟩) (fun r s' => r = .ok (.ret (.bool true)) ∧ OldK s₁.heap s'.heap ∧ s'.os = s₁.os ∧ AllBare s'.gens) s₁ := by
  have only : ∀ {b : Addr} {u : HO}, H b = some u → b = a := fun {b u} q => by
    rcases hO b with z | ⟨_, z, _⟩
    · rw [q] at z; cases z
    · exact z
  have dct : ∀ {b : Addr} {m : Str → Option Value}, s₁.heap.Ns b m → (hidT s₁.heap H).Ns b m := fun {b m} ⟨o, es, ep, e, d, r⟩ => by
    refine ⟨o, es, ep, hidT_get e ?_, d, r⟩
    cases q : H b with
    | none => rfl
    | some u =>
      cases only q
      rw [ha] at e
      cases e
      cases (show Data.seq vs.toArray _ = Data.dict es ep from d)
  have kin : K.In (hidT s₁.heap H) := fun b o e => hidT_get (KX b o e) <| by
    cases q : H b with
    | none => rfl
    | some u =>
      cases only q
      rw [hK (by rw [q]; exact fun z => nomatch z)] at e
      cases e
  obtain ⟨mc, l1, l2⟩ := hlim
  have e0 : Env0 P w K mg (hidT s₁.heap H) callerA [] s₁ H := ⟨rfl, ⟨kin, dct hns, ⟨mb, dct hb, hbb⟩, mc, dct l1, l2⟩, fun b o e => of_hidT e, Nat.le_of_eq (hidT_size _ _), trivial, fun b z => (nomatch z), hok, .of_eq hg⟩
  obtain ⟨f, fd, ps, h1, h2, h3, h4⟩ := (F _ kin (dct hns)).ex
  cases hfa.symm.trans h1
  have hsp : spD K 1 FL [V.ref a] H (fun v _ => v = .bl true) (fun _ _ _ => False) := by
    refine ⟨rfl, [], [.lst (ns.map .int)], [], ⟨rfl, List.nodup_nil, fun n b c e => by simp at e⟩, .single ?_, ?_⟩
    · simp only [Rv]
      exact ⟨a, _, rfl, hS, rvs_map_int ns⟩
    · rw [hF]
      intro v H' α' _ _ rv
      simpa only [Rv] using rv
  have hlen : ([Value.ref a] ++ ([] : List Value)).length = ps.length := h3.len _ _ _ _ hsp
  refine codeAny_mono (h3.run callerA [] s₁ H ⟨[.ref a], []⟩ [.ref a] [.ref a] _ _ hr rfl e0 (h4 s₁ [.ref a] KX hlen) (.cons rfl .nil) hsp) fun r s' h => ?_
  cases r with
  | error e =>
    obtain ⟨_, _, _, _, _, _, _, _, _, _, _, _, z⟩ := h
    exact z.elim
  | ok fl =>
    cases fl with
    | next => exact False.elim h
    | brk => exact False.elim h
    | cont => exact False.elim h
    | ret u =>
      obtain ⟨v, H', os, bare, un, hok', r', q⟩ := h
      cases (show v = .bl true from q)
      cases (show u = Value.bool true from r')
      refine ⟨rfl, OldK.of_keep fun b o e => ?_, os, bare⟩
      rcases hO b with z | ⟨xs, rfl, z⟩
      · exact un.keep b o e z (fun z => nomatch z) (fun z => nomatch z)
      · obtain ⟨e1, _⟩ := hok b _ z
        obtain ⟨e2, _⟩ := hok' b _ (un.frzs b _ _ z)
        rw [e] at e1
        cases e1
        exact e2
/-- the goal that k_head leaves (case hc) -/
theorem walkG {l : PySem.W.OpenLaw} {n k : Nat} {q : Program} {loose : List Str} {XP : (Str → Option Value) → Heap → Prop} {YP : World → Heap → Prop} {d : DefRec} {K : Params → PySem.W.Frag} {FL : FF} (hn : l.most = some n) (hn2 : n ≤ sizeLine) (hdf : d.params.defaults = []) (hr : Room k callerA)
    (hY : ∀ (w : World) (h : Heap), YP w h → (K w.params).In h)
    (F : ∀ (w : World) (mg : Str → Option Value) (fa : Addr) (h : Heap), (K w.params).In h → h.Ns mainGlobals mg → mg d.name = some (.ref fa) → ∀ base : Heap, (K w.params).In base → base.Ns mainGlobals mg → FnD l.prog w (K w.params) mg base d.name k 1 FL)
    (hL : ∀ ns : List Int, ns.length ≤ n → ∃ μ, FL [.lst (ns.map .int)] [] = .ok (.bl true) μ) : PySem.W.WalkO q loose XP YP l.row.toRowW d [] (fun f vs => PySem.call f vs) := by
  refine Att.attach_call hn hdf fun w s₀ s₁ mg mb fa o pm cd doc a vs ns G Y ho hd hcd hmg hobj hints hlen hg => ?_
  have KX := hY w _ Y
  have rv := vals_ints hints
  have lenV := hints.length
  have hl : ns.length ≤ sizeLine := Nat.le_trans hlen hn2
  obtain ⟨μ, hF⟩ := hL ns hlen
  have fin := end_core KX G.T.g G.T.b G.T.builtins G.T.nolimit hg hobj hr hmg (F w mg fa _ KX G.T.g hmg) hF
  cases hk : (K w.params).lookup a with
  | some o' =>
    have e := KX a o' hk
    rw [hobj] at e
    cases e
    exact fin (fun _ => none) (fun _ => .inl rfl) (.inr ⟨_, vs.toArray, _, hk, rfl, rfl, rfl, by rw [List.size_toArray, lenV]; exact hl, by simpa using rv⟩) (fun b u z => nomatch z) fun z => absurd rfl z
  | none =>
    refine fin (upd (fun _ => none) a (.frz { cls := .type "list", data := .seq vs.toArray } (.lst (ns.map V.int)))) (fun b => ?_) (.inl ⟨_, upd_same⟩) (fun b u z => ?_) fun _ => hk
    · by_cases hb : b = a
      · subst hb
        exact .inr ⟨_, rfl, upd_same⟩
      · exact .inl (upd_ne hb)
    · by_cases hb : b = a
      · subst hb
        rw [upd_same] at z
        cases z
        exact ⟨hobj, by rw [List.length_map]; exact hl, vs, _, rv, hobj⟩
      · rw [upd_ne hb] at z
        cases z
end DL

namespace DL
open PySem PySem.Spec PyProof.Rows L2
variable [DLX]
/-! ### 34. == and != that take any text -/
def twoStr : D → D → Option (Str × Str) | .str x, .str y => some (x, y) | _, _ => none
def eqS : S → D → D → Option D := fun s a b => match twoStr a b with | some (x, y) => some (.bl (x == y)) | none => gDat eqG s a b
def neS : S → D → D → Option D := fun s a b => match twoStr a b with | some (x, y) => some (.bl (!(x == y))) | none => gDat neG s a b
theorem twoStr_some {a b : D} {x y : Str} (h : twoStr a b = some (x, y)) : a = .str x ∧ b = .str y := by
  cases a <;> cases b <;> simp [twoStr] at h
  exact ⟨by rw [h.1], by rw [h.2]⟩
section
variable {X : Cx}
theorem dec_str (x y : Str) : decide (V.str x = V.str y) = (x == y) := by
  rw [Bool.eq_iff_iff]
  simp
theorem c_eqS (hu : X.A.units + 65 < cLine) : Cmp X .Eq eqS := by
  refine ⟨_, op_eq.or (op_eqX hu), fun H0 α0 σ H α s x y a b d Q r rx ry e q => ?_⟩
  unfold eqS at e
  split at e
  · rename_i u w h
    obtain ⟨rfl, rfl⟩ := twoStr_some h
    cases e
    rw [rx_str rx, rx_str ry]
    refine .inl ⟨rfl, ?_⟩
    rw [dec_str]
    exact .inl (q _ _ _ r (Stay.refl _ _) ox_bl)
  · exact .inr (os_dat H0 α0 σ H α s x y a b d Q r rx ry e q)
theorem c_neS (hu : X.A.units + 65 < cLine) : Cmp X .NotEq neS := by
  refine ⟨_, op_ne.or (op_neX hu), fun H0 α0 σ H α s x y a b d Q r rx ry e q => ?_⟩
  unfold neS at e
  split at e
  · rename_i u w h
    obtain ⟨rfl, rfl⟩ := twoStr_some h
    cases e
    rw [rx_str rx, rx_str ry]
    refine .inl ⟨rfl, ?_⟩
    rw [dec_str]
    exact .inl (q _ _ _ r (Stay.refl _ _) ox_bl)
  · exact .inr (os_dat H0 α0 σ H α s x y a b d Q r rx ry e q)
end
end DL

namespace DL
open PySem PySem.Spec PyProof.Rows L2
/-! ### 35. Reckoning with the plain functions -/
section
variable {α β : Type}
@[simp] theorem bind_ok (a : α) (s : S) (f : α → S → Res β) : Res.bind (.ok a s) f = f a s := rfl
@[simp] theorem bind_exc (e : EX) (s : S) (f : α → S → Res β) : Res.bind (.exc e s) f = .exc e s := rfl
@[simp] theorem bind_bad (f : α → S → Res β) : Res.bind .bad f = .bad := rfl
end
@[simp] theorem ap_C (d : D) (s : S) : dC d s = .ok d s := rfl
@[simp] theorem ap_Var (i : Nat) (s : S) : dVar i s = (match s.δ[i]? with | some (.val d) => .ok d s | some (.own _) => .ok (.own i) s | _ => .bad) := rfl
@[simp] theorem ap_Op (g : S → D → D → Option D) (fa fb : FE) (s : S) : dOp g fa fb s = (fa s).bind fun a s1 => (fb s1).bind fun b s2 => match g s2 a b with | some d => .ok d s2 | none => .bad := rfl
@[simp] theorem ap_CmpT (g : S → D → D → Option D) (fa fb : FE) (s : S) : dCmpT g fa fb s = (fa s).bind fun a s1 => (fb s1).bind fun b s2 => match g s2 a b with | some (.bl k) => .ok k s2 | _ => .bad := rfl
@[simp] theorem ap_Nil (s : S) : dNil s = .ok [] s := rfl
@[simp] theorem ap_Cons (fa : FE) (fr : FA) (s : S) : dCons fa fr s = (fa s).bind fun d s1 => (fr s1).bind fun ds s2 => .ok (d :: ds) s2 := rfl
@[simp] theorem ap_Tup (fa : FA) (s : S) : dTup fa s = (fa s).bind fun ds s1 => if ds.all noOwn && decide (ds.length ≤ 16777216) then .ok (.tup ds) s1 else .bad := rfl
@[simp] theorem ap_Lst (fa : FA) (s : S) : dLst fa s = (fa s).bind fun ds s1 => if ds.all noOwn && decide (ds.length ≤ 16777216) then .ok (.lst ds) s1 else .bad := rfl
@[simp] theorem ap_B (g : S → List D → Option D) (fa : FA) (s : S) : dB g fa s = (fa s).bind fun ds s1 => match g s1 ds with | some d => .ok d s1 | none => .bad := rfl
@[simp] theorem ap_BF (g : S → List D → Option Cell) (fa : FA) (s : S) : dBF g fa s = (fa s).bind fun ds s1 => match g s1 ds with | some d => .ok d s1 | none => .bad := rfl
@[simp] theorem ap_Call (F : FF) (fa : FA) (s : S) : dCall F fa s = (fa s).bind fun ds s1 => if ds.all noOwn then (match F ds s1.μ with | .ok d μ' => .ok d { s1 with μ := μ' } | .exc e μ' => .exc e { s1 with μ := μ' } | _ => .bad) else .bad := rfl
@[simp] theorem ap_CallF (F : FF) (fa : FA) (s : S) : dCallF F fa s = (fa s).bind fun ds s1 => if ds.all noOwn then (match F ds s1.μ with | .okc c μ' => .ok c { s1 with μ := μ' } | .exc e μ' => .exc e { s1 with μ := μ' } | _ => .bad) else .bad := rfl
@[simp] theorem ap_Frz (f : FC) (s : S) : dFrz f s = (f s).bind fun c s1 => match c with | .dead => .bad | .tab _ => .bad | c => .ok c.toD s1 := rfl
@[simp] theorem ap_Ret (fa : FE) (s : S) : dRet fa s = (match fa s with | .ok d s1 => if noOwn d then .rt d s1 else .bad | .exc e s1 => .exc e s1 | .bad => .bad) := rfl
@[simp] theorem ap_RetF (fa : FC) (s : S) : dRetF fa s = (match fa s with | .ok c s1 => .rtc c s1 | .exc e s1 => .exc e s1 | .bad => .bad) := rfl
@[simp] theorem ap_Skip (s : S) : dSkip s = .nx s := rfl
@[simp] theorem ap_Seq (f g : FS) (s : S) : dSeq f g s = (match f s with | .nx s1 => g s1 | r => r) := by
  unfold dSeq
  cases f s <;> rfl
@[simp] theorem ap_IfS (ft : FT) (f g : FS) (s : S) : dIfS ft f g s = (match ft s with | .ok true s1 => f s1 | .ok false s1 => g s1 | .exc e s1 => .exc e s1 | .bad => .bad) := rfl
@[simp] theorem ap_Asg (i : Nat) (fa : FE) (s : S) : dAsg i fa s = (match fa s with | .ok d s1 => if noOwn d then .nx { s1 with δ := s1.δ.set i (.val d) } else .bad | .exc e s1 => .exc e s1 | .bad => .bad) := rfl
@[simp] theorem ap_AsgO (i : Nat) (fa : FC) (s : S) : dAsgO i fa s = (match fa s with | .ok c s1 => .nx { s1 with δ := s1.δ.set i (.own c) } | .exc e s1 => .exc e s1 | .bad => .bad) := rfl
@[simp] theorem ap_Drop (fa : FE) (s : S) : dDrop fa s = (match fa s with | .ok _ s1 => .nx s1 | .exc e s1 => .exc e s1 | .bad => .bad) := by
  unfold dDrop
  cases fa s <;> rfl
@[simp] theorem ap_NotT (fa : FT) (s : S) : dNotT fa s = (fa s).bind fun b s1 => .ok (!b) s1 := rfl
@[simp] theorem ap_AndT (fa fb : FT) (s : S) : dAndT fa fb s = (fa s).bind fun b s1 => if b then fb s1 else .ok false s1 := rfl
@[simp] theorem ap_OrT (fa fb : FT) (s : S) : dOrT fa fb s = (fa s).bind fun b s1 => if b then .ok true s1 else fb s1 := rfl
@[simp] theorem ap_AndV (fa fb : FE) (s : S) : dAndV fa fb s = (fa s).bind fun d s1 => match truthD s1 d with | some true => fb s1 | some false => .ok d s1 | none => .bad := rfl
@[simp] theorem ap_OrV (fa fb : FE) (s : S) : dOrV fa fb s = (fa s).bind fun d s1 => match truthD s1 d with | some true => .ok d s1 | some false => fb s1 | none => .bad := rfl
@[simp] theorem ap_NotV (fa : FE) (s : S) : dNotV fa s = (fa s).bind fun d s1 => match truthD s1 d with | some b => .ok (.bl (!b)) s1 | none => .bad := rfl
@[simp] theorem ap_Truth (fa : FE) (s : S) : dTruth fa s = (fa s).bind fun d s1 => match truthD s1 d with | some b => .ok b s1 | none => .bad := rfl
@[simp] theorem ap_If (ft : FT) (fa fb : FE) (s : S) : dIf ft fa fb s = (ft s).bind fun b s1 => if b then fa s1 else fb s1 := rfl
@[simp] theorem ap_Yes (s : S) : dYes s = .ok true s := rfl
@[simp] theorem ap_Iter (fa : FE) (s : S) : dIter fa s = (fa s).bind fun d s1 => match fixSeq d with | some xs => .ok xs s1 | none => .bad := rfl
@[simp] theorem ap_IterEn (fa : FA) (s : S) : dIterEn fa s = (fa s).bind fun ds s1 => match ds with | [d] => (match fixSeq d with | some xs => .ok (enD 0 xs) s1 | none => .bad) | _ => .bad := rfl
@[simp] theorem ap_IterZp (fa : FA) (s : S) : dIterZp fa s = (fa s).bind fun ds s1 => match ds with | [d, e] => (match fixSeq d, fixSeq e with | some xs, some ys => .ok (zpD xs ys) s1 | _, _ => .bad) | _ => .bad := rfl
@[simp] theorem ap_Lc (vs : List Nat) (fi : FA) (g : FG) (ft : FT) (fe : FE) (s : S) : dLc vs fi g ft fe s = (fi s).bind fun ds s1 => if ds.length ≤ 16777216 && vs.all (fun v => !isOwn s1.δ v) then (match dLcGo vs g ft fe ds s1 with | .ok ys s2 => .ok (.lst ys) s2 | _ => .bad) else .bad := rfl
@[simp] theorem isOwn_c (δ : List Slot) (i : Nat) : isOwn δ i = (match δ[i]? with | some (.own _) => true | _ => false) := rfl
@[simp] theorem ap_gNm (i : Nat) (d : D) (s : S) : gNm i d s = some { s with δ := s.δ.set i (.val d) } := rfl
@[simp] theorem ap_gT (r : FGs) (ds : List D) (s : S) : gT r (.tup ds) s = r ds s := rfl
@[simp] theorem ap_gC (g : FG) (r : FGs) (d : D) (ds : List D) (s : S) : gC g r (d :: ds) s = (g d s).bind fun s1 => r ds s1 := rfl
@[simp] theorem ap_gN (s : S) : gN [] s = some s := rfl
@[simp] theorem ap_Neg (fa : FE) (s : S) : dNeg fa s = (fa s).bind fun a s1 => match a with | .int i => .ok (.int (-i)) s1 | _ => .bad := rfl
@[simp] theorem no_non : noOwn .non = true := rfl
@[simp] theorem no_bl (b : Bool) : noOwn (.bl b) = true := rfl
@[simp] theorem no_int (i : Int) : noOwn (.int i) = true := rfl
@[simp] theorem no_str (i : Str) : noOwn (.str i) = true := rfl
@[simp] theorem no_tup (i : List D) : noOwn (.tup i) = true := rfl
@[simp] theorem no_lst (i : List D) : noOwn (.lst i) = true := rfl
@[simp] theorem no_dct (i : List (D × D)) : noOwn (.dct i) = true := rfl
@[simp] theorem no_ref (i : Nat) : noOwn (.ref i) = true := rfl
@[simp] theorem no_ty (i : String) : noOwn (.ty i) = true := rfl
@[simp] theorem tr_bl (s : S) (b : Bool) : truthD s (.bl b) = some b := rfl
@[simp] theorem tr_int (s : S) (i : Int) : truthD s (.int i) = some (i != 0) := rfl
@[simp] theorem fs_tup (xs : List D) : fixSeq (.tup xs) = some xs := rfl
@[simp] theorem fs_lst (xs : List D) : fixSeq (.lst xs) = some xs := rfl
@[simp] theorem asq_tup (s : S) (xs : List D) : asSeq s (.tup xs) = some xs := rfl
@[simp] theorem asq_lst (s : S) (xs : List D) : asSeq s (.lst xs) = some xs := rfl
@[simp] theorem asl_lst (s : S) (xs : List D) : asL s (.lst xs) = some xs := rfl
@[simp] theorem toD_lst (xs : List D) : Cell.toD (.lst xs) = .lst xs := rfl
@[simp] theorem frz_lst (xs : List D) (s : S) : (match Cell.lst xs with | .dead => Res.bad | .tab _ => Res.bad | c => Res.ok c.toD s) = .ok (.lst xs) s := rfl
/-! data in plain words -/
theorem py_ints : ∀ xs : List Int, toPyL (xs.map .int) = some (xs.map .int)
  | [] => rfl
  | x :: xs => by simp [toPyL, toPy, py_ints xs]
@[simp] theorem pys_int (s : S) (i : Int) : toPyS s (.int i) = some (.int i) := rfl
@[simp] theorem pys_bl (s : S) (b : Bool) : toPyS s (.bl b) = some (.bool b) := rfl
@[simp] theorem pys_str (s : S) (x : Str) : toPyS s (.str x) = some (.str x) := rfl
@[simp] theorem pys_non (s : S) : toPyS s .non = some .none := rfl
@[simp] theorem pys_tup (s : S) (xs : List D) : toPyS s (.tup xs) = (toPyL xs).map .tuple := by simp [toPyS, toPy]
@[simp] theorem pys_lst (s : S) (xs : List D) : toPyS s (.lst xs) = (toPyL xs).map .list := by simp [toPyS, toPy]
theorem eqv_ints : ∀ xs ys : List Int, PyData.eqvAll (xs.map .int) (ys.map .int) = decide (xs = ys)
  | [], [] => by simp [PyData.eqvAll]
  | [], y :: ys => by simp [PyData.eqvAll]
  | x :: xs, [] => by simp [PyData.eqvAll]
  | x :: xs, y :: ys => by
    simp only [List.map_cons, PyData.eqvAll, PyData.eqv, eqv_ints xs ys, List.cons.injEq]
    by_cases h : x = y <;> simp [h]
theorem sh_int (i : Int) : SeqAt.shaped (.int i) = true := by simp [SeqAt.shaped, PyData.canLay0, PyData.depth]
@[simp] theorem eq_ii (s : S) (a b : Int) : eqS s (.int a) (.int b) = some (.bl (a == b)) := by
  simp [eqS, twoStr, gDat, eqG, sh_int, PyData.eqv]
@[simp] theorem ne_ii (s : S) (a b : Int) : neS s (.int a) (.int b) = some (.bl (!(a == b))) := by
  simp [neS, twoStr, gDat, neG, sh_int, PyData.eqv]
@[simp] theorem ne_ss (s : S) (a b : Str) : neS s (.str a) (.str b) = some (.bl (!(a == b))) := rfl
@[simp] theorem eq_ss (s : S) (a b : Str) : eqS s (.str a) (.str b) = some (.bl (a == b)) := rfl
theorem depth_ints : ∀ xs : List Int, PyData.depthAll (xs.map .int) = 0
  | [] => rfl
  | x :: xs => by simp [PyData.depthAll, PyData.depth, depth_ints xs]
theorem can_ints : ∀ xs : List Int, PyData.canLayAll0 (xs.map .int) = true
  | [] => by simp [PyData.canLayAll0]
  | x :: xs => by simp [PyData.canLayAll0, PyData.canLay0, can_ints xs]
/-- a row of ints -/
abbrev Ri (xs : List Int) : D := .tup (xs.map .int)
theorem sh_row (xs : List Int) : SeqAt.shaped (.tuple (xs.map .int)) = true := by simp [SeqAt.shaped, PyData.canLay0, PyData.depth, depth_ints, can_ints]
theorem sh_lsti (xs : List Int) : SeqAt.shaped (.list (xs.map .int)) = true := by simp [SeqAt.shaped, PyData.canLay0, PyData.depth, depth_ints, can_ints]
@[simp] theorem ne_rr (s : S) (a b : List Int) : neS s (.tup (a.map .int)) (.tup (b.map .int)) = some (.bl (!decide (a = b))) := by
  simp [neS, twoStr, gDat, neG, sh_row, PyData.eqv, py_ints, eqv_ints]
@[simp] theorem eq_rr (s : S) (a b : List Int) : eqS s (.tup (a.map .int)) (.tup (b.map .int)) = some (.bl (decide (a = b))) := by
  simp [eqS, twoStr, gDat, eqG, sh_row, PyData.eqv, py_ints, eqv_ints]
@[simp] theorem ne_ll (s : S) (a b : List Int) : neS s (.lst (a.map .int)) (.lst (b.map .int)) = some (.bl (!decide (a = b))) := by
  simp [neS, twoStr, gDat, neG, sh_lsti, PyData.eqv, py_ints, eqv_ints]
@[simp] theorem eq_ll (s : S) (a b : List Int) : eqS s (.lst (a.map .int)) (.lst (b.map .int)) = some (.bl (decide (a = b))) := by
  simp [eqS, twoStr, gDat, eqG, sh_lsti, PyData.eqv, py_ints, eqv_ints]
@[simp] theorem lt_ii (s : S) (a b : Int) : gLt s (.int a) (.int b) = some (.bl (decide (a < b))) := rfl
@[simp] theorem le_ii (s : S) (a b : Int) : gLe s (.int a) (.int b) = some (.bl (decide (a ≤ b))) := rfl
@[simp] theorem gt_ii (s : S) (a b : Int) : gGt s (.int a) (.int b) = some (.bl (decide (b < a))) := rfl
@[simp] theorem ge_ii (s : S) (a b : Int) : gGe s (.int a) (.int b) = some (.bl (decide (b ≤ a))) := rfl
@[simp] theorem add_ii (s : S) (a b : Int) : gAdd s (.int a) (.int b) = some (.int (a + b)) := rfl
@[simp] theorem sub_ii (s : S) (a b : Int) : gSub s (.int a) (.int b) = some (.int (a - b)) := rfl
theorem mul_ii {a b : Int} (h : mulOk a b = true) (s : S) : gMul s (.int a) (.int b) = some (.int (a * b)) := by simp [gMul, h]
theorem mod_ii {a b : Int} (h : b ≠ 0) (s : S) : gMod s (.int a) (.int b) = some (.int (a.fmod b)) := by
  show (if (b != 0) = true then _ else _) = _
  rw [if_pos (by simpa using h)]
theorem fdiv_ii {a b : Int} (h : fdivOk a b = true) (s : S) : gFdiv s (.int a) (.int b) = some (.int (a.fdiv b)) := by
  show (if fdivOk a b = true then _ else _) = _
  rw [if_pos h]
end DL

namespace DL
open PySem PySem.Spec PyProof.Rows L2
/-! ### 36. Dicts: plain -/
def eqK (a b : D) : Bool := match keyD a, keyD b with
  | some x, some y => decide (x = y)
  | _, _ => false
def lookD (kvs : List (D × D)) (k : D) : Option D := (kvs.find? fun p => eqK p.1 k).map (·.2)
def hasD (kvs : List (D × D)) (k : D) : Bool := kvs.any fun p => eqK p.1 k
def putD (kvs : List (D × D)) (k v : D) : List (D × D) := if hasD kvs k then kvs.map (fun p => if eqK p.1 k then (p.1, v) else p) else kvs ++ [(k, v)]
def dropD (kvs : List (D × D)) (k : D) : List (D × D) := kvs.filter fun p => !eqK p.1 k
def mergeD (kvs more : List (D × D)) : List (D × D) := more.foldl (fun acc p => putD acc p.1 p.2) kvs
def keysOk (kvs : List (D × D)) : Bool := kvs.all fun p => (keyD p.1).isSome
def asD (s : S) (d : D) : Option (List (D × D)) := match cellAt s d with
  | some (.dct kvs) => if keysOk kvs then some kvs else none
  | _ => none
variable [DLX]
section
variable {K : PySem.W.Frag} {H0 H H' : Hp} {α0 α α' : List Addr} {σ : Sg} {s : S}
theorem rkv_nil : Rkv K H α [] [] := by simp only [Rkv]
theorem rkv_cons {k d : D} {q : Key} {v : V} {ds : List (D × D)} {l : List (Key × V)} (h0 : keyD k = some q) (h1 : Rv K H α d v) (h2 : Rkv K H α ds l) : Rkv K H α ((k, d) :: ds) ((q, v) :: l) := by
  simp only [Rkv]
  exact ⟨q, v, l, rfl, h0, h1, h2⟩
theorem rkv_inv {k d : D} {ds : List (D × D)} {l : List (Key × V)} (h : Rkv K H α ((k, d) :: ds) l) : ∃ q v r, l = (q, v) :: r ∧ keyD k = some q ∧ Rv K H α d v ∧ Rkv K H α ds r := by
  simpa only [Rkv] using h
theorem eqK_of {a b : D} {x y : Key} (ha : keyD a = some x) (hb : keyD b = some y) : eqK a b = decide (x = y) := by
  unfold eqK
  rw [ha, hb]
theorem rkv_len : ∀ {ds : List (D × D)} {l : List (Key × V)}, Rkv K H α ds l → l.length = ds.length
  | [], _, h => by simp only [Rkv] at h; rw [h]; rfl
  | (k, d) :: ds, l, h => by
    obtain ⟨q, v, r, rfl, _, _, h2⟩ := rkv_inv h
    simp [rkv_len h2]
theorem rkv_look {k : D} {q : Key} (hk : keyD k = some q) : ∀ {ds : List (D × D)} {l : List (Key × V)}, Rkv K H α ds l → (lookD ds k = none ∧ valV l q = none) ∨ ∃ d v, lookD ds k = some d ∧ valV l q = some v ∧ Rv K H α d v
  | [], _, h => by
    simp only [Rkv] at h
    subst h
    exact .inl ⟨rfl, valV_nil⟩
  | (k2, d) :: ds, l, h => by
    obtain ⟨q2, v, r, rfl, h0, h1, h2⟩ := rkv_inv h
    have e := eqK_of h0 hk
    by_cases hq : q2 = q
    · refine .inr ⟨d, v, ?_, valV_pos hq, h1⟩
      unfold lookD
      rw [List.find?_cons_of_pos (by rw [e]; exact decide_eq_true hq)]
      rfl
    · have e2 : lookD ((k2, d) :: ds) k = lookD ds k := by
        unfold lookD
        rw [List.find?_cons_of_neg (by rw [e]; simpa using hq)]
      rw [e2, valV_neg hq]
      exact rkv_look hk h2
theorem rkv_has {k : D} {q : Key} (hk : keyD k = some q) : ∀ {ds : List (D × D)} {l : List (Key × V)}, Rkv K H α ds l → (l.any fun kv => decide (kv.1 = q)) = hasD ds k
  | [], _, h => by
    simp only [Rkv] at h
    subst h
    rfl
  | (k2, d) :: ds, l, h => by
    obtain ⟨q2, v, r, rfl, h0, h1, h2⟩ := rkv_inv h
    unfold hasD
    rw [List.any_cons, List.any_cons, eqK_of h0 hk]
    exact congrArg _ (rkv_has hk h2)
theorem look_has (ds : List (D × D)) (k : D) : (lookD ds k).isSome = hasD ds k := by
  induction ds with
  | nil => rfl
  | cons p ds ih =>
    unfold lookD hasD at *
    rw [List.any_cons]
    by_cases e : eqK p.1 k = true
    · rw [List.find?_cons_of_pos (p := fun p : D × D => eqK p.1 k) e, e]; rfl
    · rw [List.find?_cons_of_neg (p := fun p : D × D => eqK p.1 k) e, ih]
      simp [e]
theorem rkv_map {k d : D} {q : Key} {v : V} (hk : keyD k = some q) (hv : Rv K H α d v) : ∀ {ds : List (D × D)} {l : List (Key × V)}, Rkv K H α ds l → Rkv K H α (ds.map fun p => if eqK p.1 k then (p.1, d) else p) (l.map fun kv => if kv.1 = q then (kv.1, v) else kv)
  | [], _, h => by
    simp only [Rkv] at h
    subst h
    exact rkv_nil
  | (k2, d2) :: ds, l, h => by
    obtain ⟨q2, v2, r, rfl, h0, h1, h2⟩ := rkv_inv h
    rw [List.map_cons, List.map_cons, eqK_of h0 hk]
    by_cases hq : q2 = q
    · rw [if_pos hq, if_pos (decide_eq_true hq)]
      exact rkv_cons h0 hv (rkv_map hk hv h2)
    · rw [if_neg hq, if_neg (by simpa using hq)]
      exact rkv_cons h0 h1 (rkv_map hk hv h2)
theorem rkv_app {k d : D} {q : Key} {v : V} (hk : keyD k = some q) (hv : Rv K H α d v) : ∀ {ds : List (D × D)} {l : List (Key × V)}, Rkv K H α ds l → Rkv K H α (ds ++ [(k, d)]) (l ++ [(q, v)])
  | [], _, h => by
    simp only [Rkv] at h
    subst h
    exact rkv_cons hk hv rkv_nil
  | (k2, d2) :: ds, l, h => by
    obtain ⟨q2, v2, r, rfl, h0, h1, h2⟩ := rkv_inv h
    exact rkv_cons h0 h1 (rkv_app hk hv h2)
theorem rkv_put {k d : D} {q : Key} {v : V} (hk : keyD k = some q) (hv : Rv K H α d v) {ds : List (D × D)} {l : List (Key × V)} (h : Rkv K H α ds l) : Rkv K H α (putD ds k d) (putK l q v) := by
  unfold putD putK
  rw [rkv_has hk h]
  split
  · exact rkv_map hk hv h
  · exact rkv_app hk hv h
theorem rkv_drop {k : D} {q : Key} (hk : keyD k = some q) : ∀ {ds : List (D × D)} {l : List (Key × V)}, Rkv K H α ds l → Rkv K H α (dropD ds k) (dropK l q)
  | [], _, h => by
    simp only [Rkv] at h
    subst h
    exact rkv_nil
  | (k2, d2) :: ds, l, h => by
    obtain ⟨q2, v2, r, rfl, h0, h1, h2⟩ := rkv_inv h
    have ih := rkv_drop hk h2
    unfold dropD dropK at *
    have e := eqK_of h0 hk
    by_cases hq : q2 = q
    · rw [List.filter_cons_of_neg (by rw [e]; simpa using hq), List.filter_cons_of_neg (by simpa using hq)]
      exact ih
    · rw [List.filter_cons_of_pos (by rw [e]; simpa using hq), List.filter_cons_of_pos (by simpa using hq)]
      exact rkv_cons h0 h1 ih
/-- a dict with int and text keys -/
theorem dT_not {kvs : List (D × D)} {kv : List (List Key × V)} (n : kvs ≠ []) (h : RkT K H α kvs kv) : keysOk kvs = false := by
  cases kvs with
  | nil => exact absurd rfl n
  | cons p ds =>
    obtain ⟨k, d⟩ := p
    simp only [RkT] at h
    obtain ⟨q, _, _, _, h0, _⟩ := h
    unfold keysOk
    rw [List.all_cons]
    cases k <;> simp only [keyT, reduceCtorEq] at h0
    rfl
theorem cell_dK {a : Addr} {kvs : List (D × D)} (h : CellOk K H α a (.dct kvs)) (ok : keysOk kvs = true) : ∃ kv, H a = some (.dK kv) ∧ Rkv K H α kvs kv := by
  rcases h with h | ⟨kv, n, _, h⟩
  · exact h
  · rw [dT_not n h] at ok; cases ok
theorem asD_ok {d : D} {v : V} {kvs : List (D × D)} (r : Rel K H0 α0 H α σ s) (h : Rx K H α σ d v) (e : asD s d = some kvs) : ∃ a kv, v = .ref a ∧ Rd H a (.dK kv) ∧ Rkv K H α kvs kv ∧ keysOk kvs = true := by
  unfold asD at e
  split at e
  · rename_i kvs' ec
    split at e
    · rename_i ok
      cases e
      cases d <;> simp only [cellAt, reduceCtorEq] at ec
      case ref n =>
        have h' : Rv K H α (.ref n) v := h
        simp only [Rv] at h'
        obtain ⟨a, ha, rfl⟩ := h'
        obtain ⟨kv, q, rr⟩ := cell_dK (r.cells.at_ n a _ ha ec) ok
        exact ⟨a, kv, rfl, .of q, rr, ok⟩
      case own i =>
        cases hc : s.δ[i]? with
        | none => rw [hc] at ec; simp at ec
        | some c =>
          rw [hc] at ec
          cases c with
          | no => simp at ec
          | val _ => simp at ec
          | own c =>
            simp only [Option.some.injEq] at ec
            subst ec
            have h' : σ[i]? = some (some v) := h
            obtain ⟨a, ha, _, _, q⟩ := r.slots.own i _ hc
            rw [h'] at ha
            cases ha
            obtain ⟨kv, q, rr⟩ := cell_dK q ok
            exact ⟨a, kv, rfl, .of q, rr, ok⟩
      case lst ys => simp at ec
      case dct ys =>
        simp only [Option.some.injEq, Cell.dct.injEq] at ec
        subst ec
        have h' : Rv K H α (.dct ys) v := h
        simp only [Rv] at h'
        obtain ⟨a, o, rfl, ⟨kv, q, rr⟩ | ⟨kv, n, _, rr⟩⟩ := h'
        · exact ⟨a, kv, rfl, .inr ⟨o, q⟩, rr, ok⟩
        · rw [dT_not n rr] at ok; cases ok
      case obj C fs => simp at ec
    · cases e
  · cases e
theorem key_kV {k : D} {q : Key} {v : V} (h : Rx K H α σ k v) (e : keyD k = some q) : v = kV q := by
  cases k <;> simp only [keyD, reduceCtorEq, Option.some.injEq] at e
  · subst e; exact rx_int h
  · subst e; exact rx_str h
theorem dget_of {a : Addr} {kv : List (Key × V)} {q : Key} (h : Rd H a (.dK kv)) : DGet H a (kV q) (valV kv q) := .inl ⟨kv, q, h, rfl, rfl⟩
end
/-! ### 37. Reading dicts: d[k], in, len -/
def rDGet : R2 := fun x y H Q => ∃ a v, x = .ref a ∧ DGet H a y (some v) ∧ Q v H
def rDIn (b : Bool) : R2 := fun x y H Q => ∃ a o, y = .ref a ∧ DGet H a x o ∧ Q (.bl (b == o.isSome)) H
def gIxD : S → D → D → Option D := fun s a b => (asD s a).bind fun kvs => if (keyD b).isSome then lookD kvs b else none
def gIxA : S → D → D → Option D := fun s a b => (gIx s a b).or (gIxD s a b)
def gInD : S → D → D → Option D := fun s a b => (asD s b).bind fun kvs => if (keyD a).isSome then some (.bl (hasD kvs a)) else none
def gNiD : S → D → D → Option D := fun s a b => (asD s b).bind fun kvs => if (keyD a).isSome then some (.bl (!hasD kvs a)) else none
def gInA : S → D → D → Option D := fun s a b => (gDat inG s a b).or (gInD s a b)
def gNiA : S → D → D → Option D := fun s a b => (gDat niG s a b).or (gNiD s a b)
section
variable {X : Cx}
theorem ix_dget (hu : X.A.units + 1 < cLine) : IxR X rDGet := by
  intro value slice pins s σ H x y v u Q I rx ry h hs
  obtain ⟨a, z, rfl, g, q⟩ := h
  cases (show v = Value.ref a from rx)
  exact tail_any (dict_typeIs I g) slot_dict_getitem.lookup (d_getItem hu I g ry fun w' s' I' rw' => ⟨z, H, I', rw', q⟩) hs
theorem os_dget : OpS X rDGet gIxD := fun H0 α0 σ H α s x y a b d Q r rx ry e q => by
  unfold gIxD at e
  cases ea : asD s a with
  | none => rw [ea] at e; cases e
  | some kvs =>
    rw [ea] at e
    simp only [Option.bind_some] at e
    obtain ⟨p, kv, rfl, h1, h2, _⟩ := asD_ok r rx ea
    split at e
    · rename_i hk
      obtain ⟨k, ek⟩ := Option.isSome_iff_exists.mp hk
      cases key_kV ry ek
      rcases rkv_look ek h2 with ⟨z, _⟩ | ⟨d', v, h3, h4, h5⟩
      · rw [z] at e; cases e
      · rw [h3] at e
        cases e
        exact ⟨p, v, rfl, by rw [← h4]; exact dget_of h1, .inl (q _ _ _ r (Stay.refl _ _) (Rv.x h5))⟩
    · cases e
theorem pd_ixA {a b : Expr} {pos : Pos} {fa fb : FE} (hu : X.A.units + 65 < cLine) (ha : PED X a fa) (hb : PED X b fb) (hs : PlainIx b := by exact fun _ _ => rfl) : PED X (.Subscript a b pos) (dOp gIxA fa fb) :=
  pd_opG (fun _ _ pa pb => pe_ix (ixGh (ix_seq.or (ix_dget (by omega)))) pa pb hs) (OpS.or os_ix os_dget) ha hb
theorem op_dIn (hu : X.A.units + 1 < cLine) : OpR X (compareOp .In) (rDIn true) := by
  intro pins s σ H x y v u Q I rx ry h
  obtain ⟨a, o, rfl, g, q⟩ := h
  cases (show u = Value.ref a from ry)
  exact d_in hu I g rx fun s' I' => ⟨.bl o.isSome, H, I', rfl, by simpa using q⟩
theorem op_dNi (hu : X.A.units + 1 < cLine) : OpR X (compareOp .NotIn) (rDIn false) := by
  intro pins s σ H x y v u Q I rx ry h
  obtain ⟨a, o, rfl, g, q⟩ := h
  cases (show u = Value.ref a from ry)
  exact d_notIn hu I g rx fun s' I' => ⟨.bl (!o.isSome), H, I', rfl, by
    have e : (false == o.isSome) = !o.isSome := by cases o.isSome <;> rfl
    rw [e] at q
    exact q⟩
theorem os_dIn : OpS X (rDIn true) gInD := fun H0 α0 σ H α s x y a b d Q r rx ry e q => by
  unfold gInD at e
  cases eb : asD s b with
  | none => rw [eb] at e; cases e
  | some kvs =>
    rw [eb] at e
    simp only [Option.bind_some] at e
    obtain ⟨p, kv, rfl, h1, h2, _⟩ := asD_ok r ry eb
    split at e
    · rename_i hk
      cases e
      obtain ⟨k, ek⟩ := Option.isSome_iff_exists.mp hk
      cases key_kV rx ek
      refine ⟨p, _, rfl, dget_of h1, .inl (q _ _ _ r (Stay.refl _ _) ?_)⟩
      rw [← rkv_has ek h2, valV_any]
      simpa using ox_bl
    · cases e
theorem os_dNi : OpS X (rDIn false) gNiD := fun H0 α0 σ H α s x y a b d Q r rx ry e q => by
  unfold gNiD at e
  cases eb : asD s b with
  | none => rw [eb] at e; cases e
  | some kvs =>
    rw [eb] at e
    simp only [Option.bind_some] at e
    obtain ⟨p, kv, rfl, h1, h2, _⟩ := asD_ok r ry eb
    split at e
    · rename_i hk
      cases e
      obtain ⟨k, ek⟩ := Option.isSome_iff_exists.mp hk
      cases key_kV rx ek
      refine ⟨p, _, rfl, dget_of h1, .inl (q _ _ _ r (Stay.refl _ _) ?_)⟩
      rw [← rkv_has ek h2, valV_any]
      have e : ∀ b : Bool, (false == b) = !b := by decide
      rw [e]
      exact ox_bl
    · cases e
theorem c_inA (hu : X.A.units + 65 < cLine) : Cmp X .In gInA := ⟨_, (op_inX hu).or (op_dIn (by omega)), OpS.or os_dat os_dIn⟩
theorem c_niA (hu : X.A.units + 65 < cLine) : Cmp X .NotIn gNiA := ⟨_, (op_niX hu).or (op_dNi (by omega)), OpS.or os_dat os_dNi⟩
end
end DL

namespace DL
open PySem PySem.Spec PyProof.Rows L2
/-! ### 38. Walks over whatever stands still -/
def chD (z : Str) : List D := z.cps.toList.map fun c => .str ⟨#[c]⟩
def iterD : D → Option (List D)
  | .tup xs => some xs
  | .lst xs => some xs
  | .dct kvs => if keysOk kvs then some (kvs.map (·.1)) else none
  | .str z => some (chD z)
  | _ => none
def frzD : D → Option (List (D × D))
  | .dct kvs => if keysOk kvs then some kvs else none
  | _ => none
def dIterA (fa : FE) : FA := fun s => (fa s).bind fun d s1 => match iterD d with | some xs => .ok xs s1 | none => .bad
def dItVals (fa : FE) : FA := fun s => (fa s).bind fun d s1 => match frzD d with | some kvs => .ok (kvs.map (·.2)) s1 | none => .bad
def dItItems (fa : FE) : FA := fun s => (fa s).bind fun d s1 => match frzD d with | some kvs => .ok (kvs.map fun p => .tup [p.1, p.2]) s1 | none => .bad
variable [DLX]
section
variable {K : PySem.W.Frag} {H H1 : Hp} {α α1 : List Addr}
theorem rv_key {k : D} {q : Key} (e : keyD k = some q) : Rv K H α k (kV q) := by
  cases k <;> simp only [keyD, reduceCtorEq, Option.some.injEq] at e
  · subst e; simp only [Rv, kV]
  · subst e; simp only [Rv, kV]
theorem rkv_at : ∀ {ds : List (D × D)} {l : List (Key × V)} {i : Nat} {k d : D}, Rkv K H α ds l → ds[i]? = some (k, d) → ∃ q v, l[i]? = some (q, v) ∧ keyD k = some q ∧ Rv K H α d v
  | [], _, _, _, _, _, e => by simp at e
  | (k2, d2) :: ds, l, i, k, d, h, e => by
    obtain ⟨q, v, r, rfl, h0, h1, h2⟩ := rkv_inv h
    cases i with
    | zero => simp at e; obtain ⟨rfl, rfl⟩ := e; exact ⟨q, v, rfl, h0, h1⟩
    | succ i => simpa using rkv_at (i := i) h2 (by simpa using e)
theorem walk_keys {a : Addr} {o : Obj} {kvs : List (D × D)} {kv : List (Key × V)} (h : H1 a = some (.frz o (.dK kv))) (rr : Rkv K H1 α1 kvs kv) : WalkD K (Itk a o kv) (kvs.map (·.1)) H1 α1 := by
  refine ⟨fun H α t => ⟨t.im _ _ h trivial, by rw [List.length_map, rkv_len rr]; exact Nat.le_refl _⟩, fun H α i d t e => ⟨t.im _ _ h trivial, ?_⟩, fun H0 α0 H α σ s i d x H' t r e y => ?_⟩
  · have := (List.getElem?_eq_some_iff.mp e).1
    rw [rkv_len rr]
    simpa using this
  · rw [List.getElem?_map, Option.map_eq_some_iff] at e
    obtain ⟨⟨k, d'⟩, e, rfl⟩ := e
    obtain ⟨q, v, e1, e2, _⟩ := rkv_at rr e
    obtain ⟨rfl, k', v', y1, rfl⟩ := y
    rw [e1] at y1
    cases y1
    exact ⟨r, Stay.refl _ _, rv_key e2⟩
theorem walk_vals {a : Addr} {o : Obj} {kvs : List (D × D)} {kv : List (Key × V)} (h : H1 a = some (.frz o (.dK kv))) (rr : Rkv K H1 α1 kvs kv) : WalkD K (Itd a o kv) (kvs.map (·.2)) H1 α1 := by
  refine ⟨fun H α t => ⟨t.im _ _ h trivial, by rw [List.length_map, rkv_len rr]; exact Nat.le_refl _⟩, fun H α i d t e => ⟨t.im _ _ h trivial, ?_⟩, fun H0 α0 H α σ s i d x H' t r e y => ?_⟩
  · have := (List.getElem?_eq_some_iff.mp e).1
    rw [rkv_len rr]
    simpa using this
  · rw [List.getElem?_map, Option.map_eq_some_iff] at e
    obtain ⟨⟨k, d'⟩, e, rfl⟩ := e
    obtain ⟨q, v, e1, e2, e3⟩ := rkv_at rr e
    obtain ⟨rfl, k', y1⟩ := y
    rw [e1] at y1
    cases y1
    exact ⟨r, Stay.refl _ _, Rv.stay t _ _ e3⟩
theorem walk_items {a : Addr} {o : Obj} {kvs : List (D × D)} {kv : List (Key × V)} (h : H1 a = some (.frz o (.dK kv))) (rr : Rkv K H1 α1 kvs kv) : WalkD K (Iti a o kv) (kvs.map fun p => .tup [p.1, p.2]) H1 α1 := by
  refine ⟨fun H α t => ⟨t.im _ _ h trivial, by rw [List.length_map, rkv_len rr]; exact Nat.le_refl _⟩, fun H α i d t e => ⟨t.im _ _ h trivial, ?_⟩, fun H0 α0 H α σ s i d x H' t r e y => ?_⟩
  · have := (List.getElem?_eq_some_iff.mp e).1
    rw [rkv_len rr]
    simpa using this
  · rw [List.getElem?_map, Option.map_eq_some_iff] at e
    obtain ⟨⟨k, d'⟩, e, rfl⟩ := e
    obtain ⟨q, v, e1, e2, e3⟩ := rkv_at rr e
    obtain ⟨T, k', v', y1, rfl, hT, rfl⟩ := y
    rw [e1] at y1
    cases y1
    have t2 : Stay H α (upd H T (.tup [kV q, v])) α := Stay.upd_new hT
    refine ⟨r.new hT, t2, ?_⟩
    simp only [Rv]
    exact ⟨T, _, rfl, .inl (.inl upd_same), .cons (rv_key e2) (.single (Rv.stay (t.trans t2) _ _ e3))⟩
theorem walk_chars {z : Str} : WalkD K (Its z) (chD z) H1 α1 := by
  have hl : (chD z).length = z.cps.size := by simp [chD]
  refine ⟨fun H α t => by rw [hl]; exact Nat.le_refl z.cps.size, fun H α i d t e => ?_, fun H0 α0 H α σ s i d x H' t r e y => ?_⟩
  · have := (List.getElem?_eq_some_iff.mp e).1
    rw [hl] at this
    exact this
  · obtain ⟨rfl, c, hc, rfl⟩ := y
    refine ⟨r, Stay.refl _ _, ?_⟩
    unfold chD at e
    rw [List.getElem?_map, Array.getElem?_toList, hc] at e
    cases e
    simp only [Rv]
end
section
variable {X : Cx}
def iAny (K : PySem.W.Frag) (tl : TE) : TI := fun σ H R => iSeq K tl σ H R ∨ iKeys tl σ H R ∨ iStr tl σ H R
theorem PIany {tg e : Expr} {tl : TE} (h : PE X e tl) : PI X tg e (iAny X.K tl) := ⟨fun pins s σ H R I q => by
  rcases q with q | q | q
  · exact (PIorT h).run pins s σ H R I q
  · exact (pi_keys h).run pins s σ H R I q
  · exact (pi_str h).run pins s σ H R I q⟩
theorem frz_at {K : PySem.W.Frag} {H : Hp} {α : List Addr} {kvs : List (D × D)} {v : V} (h : Rv K H α (.dct kvs) v) (ok : keysOk kvs = true) : ∃ a o kv, v = .ref a ∧ H a = some (.frz o (.dK kv)) ∧ Rkv K H α kvs kv := by
  simp only [Rv] at h
  obtain ⟨a, o, rfl, ⟨kv, q, rr⟩ | ⟨kv, n, _, rr⟩⟩ := h
  · exact ⟨a, o, kv, rfl, q, rr⟩
  · rw [dT_not n rr] at ok; cases ok
theorem frzD_at {K : PySem.W.Frag} {H : Hp} {α : List Addr} {σ : Sg} {d : D} {kvs : List (D × D)} {v : V} (h : Rx K H α σ d v) (e : frzD d = some kvs) : ∃ a o kv, v = .ref a ∧ H a = some (.frz o (.dK kv)) ∧ Rkv K H α kvs kv := by
  unfold frzD at e
  split at e
  · split at e
    · rename_i ok
      cases e
      exact frz_at h ok
    · cases e
  · cases e
theorem id_any {tg e : Expr} {fa : FE} (ha : PED X e fa) : PID X tg e (dIterA fa) := by
  refine ⟨fun W tk => ?_⟩
  obtain ⟨t, p, q⟩ := ha.run W tk
  refine ⟨_, PIany p, fun H0 α0 σ H α s R r k => ?_⟩
  unfold dIterA at k
  cases ea : fa s with
  | bad => rw [ea] at k; exact k.elim
  | exc e s1 =>
    rw [ea] at k
    refine .inl (q H0 α0 σ H α s _ r ?_)
    rw [ea]
    exact k
  | ok d s1 =>
    rw [ea] at k
    simp only [Res.bind] at k
    have go : ∀ Q : VK, (∀ v H' α', Rel X.K H0 α0 H' α' σ s1 → Stay H α H' α' → Rx X.K H' α' σ d v → Q v H') → t σ H Q := fun Q hq => q H0 α0 σ H α s Q r (by rw [ea]; exact hq)
    cases d <;> simp only [iterD] at k <;> try exact k.elim
    case tup xs =>
      refine .inl (go _ fun v H1 α1 r1 t1 rv => ?_)
      obtain ⟨a, vs, rfl, h1, rr⟩ := asT_ok rv
      exact .inr ⟨a, rfl, ⟨vs, h1⟩, k _ H1 α1 r1 t1 (walk_fixT h1 rr)⟩
    case lst xs =>
      refine .inl (go _ fun v H1 α1 r1 t1 rv => ?_)
      have rv' : Rv X.K H1 α1 (.lst _) v := rv
      simp only [Rv] at rv'
      obtain ⟨a, vs, rfl, h1, rr⟩ := rv'
      exact .inl ⟨a, rfl, ⟨vs, h1.sq⟩, k _ H1 α1 r1 t1 (walk_fixL h1 rr)⟩
    case dct kvs =>
      by_cases ok : keysOk kvs = true
      · rw [if_pos ok] at k
        refine .inr (.inl (go _ fun v H1 α1 r1 t1 rv => ?_))
        obtain ⟨a, o, kv, rfl, h1, rr⟩ := frz_at (show Rv X.K H1 α1 (.dct kvs) v from rv) ok
        exact ⟨a, o, rfl, .inl ⟨kv, h1, k _ H1 α1 r1 t1 (walk_keys h1 rr)⟩⟩
      · rw [if_neg ok] at k
        exact k.elim
    case str z =>
      refine .inr (.inr (go _ fun v H1 α1 r1 t1 rv => ?_))
      exact ⟨z, rx_str rv, k _ H1 α1 r1 t1 walk_chars⟩
theorem id_vals {tg e : Expr} {fa : FE} {apos cpos : Pos} (ha : PED X e fa) (hbase : attributeBase e "values" X.env (eval e X.env) = eval e X.env := by rfl) (hline : (apos.endLine == cpos.line) = true := by rfl) : PID X tg (.Call (.Attribute e "values" apos) [] [] cpos) (dItVals fa) := by
  refine ⟨fun W tk => ?_⟩
  obtain ⟨t, p, q⟩ := ha.run W tk
  refine ⟨_, pi_values p hbase hline, fun H0 α0 σ H α s R r k => q H0 α0 σ H α s _ r ?_⟩
  unfold dItVals at k
  cases ea : fa s with
  | bad => rw [ea] at k; exact k.elim
  | exc e s1 => rw [ea] at k; exact k
  | ok d s1 =>
    rw [ea] at k
    intro v H1 α1 r1 t1 rv
    simp only [Res.bind] at k
    cases ed : frzD d with
    | none => rw [ed] at k; exact k.elim
    | some kvs =>
      rw [ed] at k
      obtain ⟨a, o, kv, rfl, h1, rr⟩ := frzD_at rv ed
      exact ⟨a, o, kv, rfl, h1, k _ H1 α1 r1 t1 (walk_vals h1 rr)⟩
theorem id_items {elts : List Expr} {kk : Nat} {tpos : Pos} {e : Expr} {fa : FE} {apos cpos : Pos} (ha : PED X e fa) (hbase : attributeBase e "items" X.env (eval e X.env) = eval e X.env := by rfl) (hline : (apos.endLine == cpos.line) = true := by rfl) : PID X (.Tuple elts kk tpos) (.Call (.Attribute e "items" apos) [] [] cpos) (dItItems fa) := by
  refine ⟨fun W tk => ?_⟩
  obtain ⟨t, p, q⟩ := ha.run W tk
  refine ⟨_, pi_items p hbase hline, fun H0 α0 σ H α s R r k => q H0 α0 σ H α s _ r ?_⟩
  unfold dItItems at k
  cases ea : fa s with
  | bad => rw [ea] at k; exact k.elim
  | exc e s1 => rw [ea] at k; exact k
  | ok d s1 =>
    rw [ea] at k
    intro v H1 α1 r1 t1 rv
    simp only [Res.bind] at k
    cases ed : frzD d with
    | none => rw [ed] at k; exact k.elim
    | some kvs =>
      rw [ed] at k
      obtain ⟨a, o, kv, rfl, h1, rr⟩ := frzD_at rv ed
      exact ⟨a, o, kv, rfl, h1, k _ H1 α1 r1 t1 (walk_items h1 rr)⟩
/-! ### 39. Methods: get, pop, index -/
theorem mtm_get2 (hu : X.A.units + 1 < cLine) : MtM X "dict.get" (fun x xs H Q => ∃ a y d o, x = .ref a ∧ xs = [y, d] ∧ DGet H a y o ∧ Q (o.getD d) H) := fun pins s σ H x xs v us Q I rv rvs h => by
  obtain ⟨a, y, d, o, rfl, rfl, g, q⟩ := h
  cases (show v = Value.ref a from rv)
  cases rvs with
  | cons r1 r2 =>
    obtain ⟨u2, rfl, r3⟩ := vals1 r2
    exact d_get2 hu I g r1 r3 fun w' s' I' rw' => ⟨_, H, I', rw', q⟩
def gGet2 : S → D → List D → Option (D × S) := fun s o ds => match ds with
  | [k, x] => (asD s o).bind fun kvs => if (keyD k).isSome && noOwn x then some ((lookD kvs k).getD x, s) else none
  | _ => none
theorem mb_get2 (hu : X.A.units + 1 < cLine) : MB X "dict.get" gGet2 := .of (mtm_get2 hu) fun H0 α0 σ H α s xv xs o ds d s' Q r rx rxs e q => by
  unfold gGet2 at e
  split at e
  · rename_i k x
    cases ea : asD s o with
    | none => rw [ea] at e; cases e
    | some kvs =>
      rw [ea] at e
      simp only [Option.bind_some] at e
      split at e
      · rename_i hk
        cases e
        rw [Bool.and_eq_true] at hk
        obtain ⟨v1, v2, rfl, r1, r2⟩ := rxs.two
        obtain ⟨q0, ek⟩ := Option.isSome_iff_exists.mp hk.1
        obtain ⟨a, kv, rfl, h1, h2, _⟩ := asD_ok r rx ea
        cases key_kV r1 ek
        refine ⟨a, _, v2, _, rfl, rfl, dget_of h1, q _ _ _ r (Stay.refl _ _) ?_⟩
        rcases rkv_look ek h2 with ⟨z1, z2⟩ | ⟨d', v, h3, h4, h5⟩
        · rw [z1, z2]; exact r2
        · rw [h3, h4]; exact Rv.x h5
      · cases e
  · cases e
theorem pd_get2 {o e f : Expr} {apos cpos : Pos} {fo : FE} {fa : FA} (hu : X.A.units + 65 < cLine) (ho : PED X o fo) (ha : PAD X [e, f] fa) (hbase : attributeBase o "get" X.env (eval o X.env) = eval o X.env := by rfl)
    (hfew : ((backTo cpos (starEach [e, f] X.env)).all (fun x => !x.1) && (backToKw cpos (keywordEach [] X.env)).all (fun x => x.1.isSome)
      && decide ([e, f].length + ([] : List Keyword).length + (if ([] : List Keyword).isEmpty then 0 else 1) < 30)) = true := by rfl)
    (hline : (apos.endLine == cpos.line) = true := by rfl) (hs : starEach [e, f] X.env = (false, eval e X.env) :: starEach [f] X.env := by rfl) (hplain : (backTo cpos (starEach [f] X.env)).any (·.1) = false := by rfl) :
    PED X (.Call (.Attribute o "get" apos) [e, f] [] cpos) (dM "dict" gGet2 fo fa) := pd_m (.inr (.inl rfl)) F.plainAttrs_dict F.slot_dict_get F.type_dict_get (mb_get2 (by omega)) ho ha hbase hfew hline hs hplain
theorem mtm_pop2 : MtM X "dict.pop" (fun x xs H Q => ∃ a kvs k d, x = .ref a ∧ xs = [kV k, d] ∧ H a = some (.dK kvs) ∧ (∀ v, valV kvs k = some v → Q v (upd H a (.dK (dropK kvs k)))) ∧ (valV kvs k = none → Q d H)) := fun pins s σ H x xs v us Q I rv rvs h => by
  obtain ⟨a, kvs, k, d, rfl, rfl, e, q1, q2⟩ := h
  cases (show v = Value.ref a from rv)
  cases rvs with
  | cons r1 r2 =>
    obtain ⟨u2, rfl, r3⟩ := vals1 r2
    cases l : valV kvs k with
    | some v => exact d_pop I e r1 l (.inr ⟨u2, rfl⟩) fun w' s' I' rw' => ⟨v, _, I', rw', q1 v l⟩
    | none => exact d_popD I e r1 l fun s' I' => ⟨d, H, I', r3, q2 l⟩
def gPop2 : S → D → List D → Option (D × S) := fun s o ds => match ds, mutAt s o with
  | [k, x], some (.dct kvs) => if keysOk kvs && (keyD k).isSome && noOwn x then some (match lookD kvs k with | some v => (v, setAt s o (.dct (dropD kvs k))) | none => (x, s)) else none
  | _, _ => none
theorem mb_pop2 : MB X "dict.pop" gPop2 := .of mtm_pop2 fun H0 α0 σ H α s xv xs o ds d s' Q r rx rxs e q => by
  unfold gPop2 at e
  split at e
  · rename_i k x kvs em
    split at e
    · rename_i hk
      rw [Bool.and_eq_true, Bool.and_eq_true] at hk
      obtain ⟨v1, v2, rfl, r1, r2⟩ := rxs.two
      obtain ⟨q0, ek⟩ := Option.isSome_iff_exists.mp hk.1.2
      obtain ⟨a, rfl, hcell, kk⟩ := mut_at r rx em
      obtain ⟨kv, hv, rr⟩ := cell_dK hcell hk.1.1
      cases key_kV r1 ek
      obtain ⟨k1, t⟩ := mut_upd (α := α) (o := .dK (dropK kv q0)) hv (fun z => z)
      refine ⟨a, kv, q0, v2, rfl, rfl, hv, fun v l => ?_, fun l => ?_⟩
      · rcases rkv_look ek rr with ⟨z1, z2⟩ | ⟨d', w, h3, h4, h5⟩
        · rw [l] at z2; cases z2
        · rw [l] at h4
          cases h4
          rw [h3] at e
          cases e
          exact q _ _ α (kk _ _ k1 t (.inl ⟨_, upd_same, rkv_drop ek (Rkv.stay t _ _ rr)⟩)) t (Rv.x (Rv.stay t _ _ h5))
      · rcases rkv_look ek rr with ⟨z1, z2⟩ | ⟨d', w, h3, h4, h5⟩
        · rw [z1] at e
          cases e
          exact q _ _ _ r (Stay.refl _ _) r2
        · rw [l] at h4; cases h4
    · cases e
  · cases e
theorem pd_pop2 {o e f : Expr} {apos cpos : Pos} {fo : FE} {fa : FA} (ho : PED X o fo) (ha : PAD X [e, f] fa) (hbase : attributeBase o "pop" X.env (eval o X.env) = eval o X.env := by rfl)
    (hfew : ((backTo cpos (starEach [e, f] X.env)).all (fun x => !x.1) && (backToKw cpos (keywordEach [] X.env)).all (fun x => x.1.isSome)
      && decide ([e, f].length + ([] : List Keyword).length + (if ([] : List Keyword).isEmpty then 0 else 1) < 30)) = true := by rfl)
    (hline : (apos.endLine == cpos.line) = true := by rfl) (hs : starEach [e, f] X.env = (false, eval e X.env) :: starEach [f] X.env := by rfl) (hplain : (backTo cpos (starEach [f] X.env)).any (·.1) = false := by rfl) :
    PED X (.Call (.Attribute o "pop" apos) [e, f] [] cpos) (dM "dict" gPop2 fo fa) := pd_m (.inr (.inl rfl)) F.plainAttrs_dict F.slot_dict_pop F.type_dict_pop mb_pop2 ho ha hbase hfew hline hs hplain
/-- xs.pop(i) -/
def gPopAt : S → D → List D → Option (D × S) := fun s o ds => match ds, mutAt s o with
  | [.int i], some (.lst xs) => (seqIndex? i xs.length).bind fun k => if decide (-(2 ^ 63) ≤ i) && decide (i < 2 ^ 63) then xs[k]?.map fun d => (d, setAt s o (.lst (xs.eraseIdx k))) else none
  | _, _ => none
theorem rvs_erase {K : PySem.W.Frag} {H : Hp} {α : List Addr} : ∀ {ds : List D} {vs : List V} (k : Nat), Rvs K H α ds vs → Rvs K H α (ds.eraseIdx k) (vs.eraseIdx k)
  | [], _, k, h => by simp only [Rvs] at h; subst h; simp [Rvs]
  | d :: ds, l, k, h => by
    simp only [Rvs] at h
    obtain ⟨v, r, rfl, h1, h2⟩ := h
    cases k with
    | zero => exact h2
    | succ k => exact .cons h1 (rvs_erase k h2)
theorem mb_popAt : MB X "list.pop" gPopAt := .of mt_popAt fun H0 α0 σ H α s xv xs o ds d s' Q r rx rxs e q => by
  unfold gPopAt at e
  split at e
  · rename_i i ys em
    rw [Option.bind_eq_some_iff] at e
    obtain ⟨k, ek, e⟩ := e
    split at e
    · rename_i hi
      rw [Bool.and_eq_true, decide_eq_true_eq, decide_eq_true_eq] at hi
      rw [Option.map_eq_some_iff] at e
      obtain ⟨d', ed, e⟩ := e
      cases e
      obtain ⟨w, rfl, rw⟩ := rxs.one
      obtain ⟨a, rfl, hcell, kk⟩ := mut_at r rx em
      obtain ⟨vs, hv, rr⟩ := hcell
      obtain ⟨y, ey, ry⟩ := rr.at_ ed
      obtain ⟨k1, t⟩ := mut_upd (α := α) (o := .lst (vs.eraseIdx k)) hv (fun z => z)
      rw [rx_int rw]
      exact ⟨a, vs, i, k, y, rfl, rfl, hv, hi.1, hi.2, by rw [rr.length]; exact ek, ey, q _ _ α (kk _ _ k1 t ⟨_, upd_same, rvs_erase k (Rvs.stay t _ _ rr)⟩) t (Rv.x (Rv.stay t _ _ ry))⟩
    · cases e
  · cases e
theorem pd_popAt {o e : Expr} {apos cpos : Pos} {fo : FE} {fa : FA} (ho : PED X o fo) (ha : PAD X [e] fa) (hbase : attributeBase o "pop" X.env (eval o X.env) = eval o X.env := by rfl)
    (hfew : ((backTo cpos (starEach [e] X.env)).all (fun x => !x.1) && (backToKw cpos (keywordEach [] X.env)).all (fun x => x.1.isSome)
      && decide ([e].length + ([] : List Keyword).length + (if ([] : List Keyword).isEmpty then 0 else 1) < 30)) = true := by rfl)
    (hline : (apos.endLine == cpos.line) = true := by rfl) (hs : starEach [e] X.env = (false, eval e X.env) :: starEach [] X.env := by rfl) (hplain : (backTo cpos (starEach [] X.env)).any (·.1) = false := by rfl) :
    PED X (.Call (.Attribute o "pop" apos) [e] [] cpos) (dM "list" gPopAt fo fa) := pd_m (.inl rfl) F.plainAttrs_list F.slot_list_pop F.type_list_pop mb_popAt ho ha hbase hfew hline hs hplain
end
end DL

namespace DL
open PySem PySem.Spec PyProof.Rows L2
variable [DLX]
/-! ### 40. Stores: d[k] = v, d[k] += v -/
def gSetD : S → D → D → D → Option S := fun s o i d => match mutAt s o with
  | some (.dct kvs) => if keysOk kvs && (keyD i).isSome && decide (kvs.length < 16777216) then some (setAt s o (.dct (putD kvs i d))) else none
  | _ => none
def gSetA : S → D → D → D → Option S := fun s o i d => (gSetI s o i d).or (gSetD s o i d)
section
variable {X : Cx}
theorem PSet.or {t t' : TSet} (h : PSet X t) (h' : PSet X t') : PSet X (fun o i v H Q => t o i v H Q ∨ t' o i v H Q) := fun pins s σ H o i v ov iv u Q I ro ri rv q => by
  rcases q with q | q
  · exact h pins s σ H o i v ov iv u Q I ro ri rv q
  · exact h' pins s σ H o i v ov iv u Q I ro ri rv q
theorem dput_core {K : PySem.W.Frag} {H0 H : Hp} {α0 α : List Addr} {σ : Sg} {s s' : S} {x y v : V} {a b d : D} {Q : Hp → Prop} (r : Rel K H0 α0 H α σ s) (rx : Rx K H α σ a x) (ry : Rx K H α σ b y) (rv : Rv K H α d v) (e : gSetD s a b d = some s') (q : ∀ H' α', Rel K H0 α0 H' α' σ s' → Stay H α H' α' → Q H') :
    ∃ p H', x = .ref p ∧ DPut H p y v H' ∧ Q H' := by
  unfold gSetD at e
  split at e
  · rename_i kvs em
    split at e
    · rename_i hk
      cases e
      rw [Bool.and_eq_true, Bool.and_eq_true, decide_eq_true_eq, ← sizeLine_eq] at hk
      obtain ⟨q0, ek⟩ := Option.isSome_iff_exists.mp hk.1.2
      obtain ⟨p, rfl, hcell, kk⟩ := mut_at r rx em
      obtain ⟨kv, hv, rr⟩ := cell_dK hcell hk.1.1
      cases key_kV ry ek
      obtain ⟨k1, t⟩ := mut_upd (α := α) (o := .dK (putK kv q0 v)) hv (fun z => z)
      exact ⟨p, _, rfl, DPut.k hv (by rw [rkv_len rr]; exact hk.2), q _ α (kk _ _ k1 t (.inl ⟨_, upd_same, rkv_put ek (Rv.stay t _ _ rv) (Rkv.stay t _ _ rr)⟩)) t⟩
    · cases e
  · cases e
theorem ss_dict : SetS X rSetD gSetD := fun H0 α0 σ H α s x y v a b d s' Q r rx ry rv e q => dput_core r rx ry rv e q
theorem SetS.or {t t' : TSet} {g g' : S → D → D → D → Option S} (h : SetS X t g) (h' : SetS X t' g') : SetS X (fun o i v H Q => t o i v H Q ∨ t' o i v H Q) (fun s a b d => (g s a b d).or (g' s a b d)) := fun H0 α0 σ H α s x y v a b d s' Q r rx ry rv e q => by
  dsimp only at e
  cases eg : g s a b d with
  | some s2 =>
    rw [eg] at e
    obtain rfl : s2 = s' := Option.some.inj e
    exact .inl (h H0 α0 σ H α s x y v a b d s2 Q r rx ry rv eg q)
  | none =>
    rw [eg] at e
    exact .inr (h' H0 α0 σ H α s x y v a b d s' Q r rx ry rv e q)
theorem sd_setA {a b e : Expr} {st : Stmt} {tpos : Pos} {fe fo fi : FE} (hu : X.A.units + 65 < cLine) (hp : ∀ te t, PE X e te → PG X (.Subscript a b tpos) t → PS X st (tAsg te t)) (he : PED X e fe) (ho : PED X a fo) (hi : PED X b fi)
    (ha : ∀ v, assign (.Subscript a b tpos) X.env v = (do
      let ov ← holding [v] (eval a X.env)
      let iv ← holding [v, ov] (eval b X.env)
      standAt tpos
      holding [v, ov, iv] (setItem ov iv v)
      release [v, ov, iv] []) := by intro _; rfl) : PSD X st (dSetI gSetA fe fo fi) :=
  sd_setI hp (PSet.or set_list (set_dict (by omega))) (SetS.or ss_list ss_dict) he ho hi ha
/-- d[k] += v, ints -/
def dAugD (fo fi fe : FE) : FS := fun s => match ((fo s).bind fun o s1 => (fi s1).bind fun i s2 => match (asD s2 o).bind fun kvs => if (keyD i).isSome then lookD kvs i else none with
    | some (.int n) => (fe s2).bind fun e s3 => (match e with
      | .int m => (match gSetD s3 o i (.int (n + m)) with | some s4 => Res.ok () s4 | none => .bad)
      | _ => .bad)
    | _ => .bad) with
  | .ok _ s4 => .nx s4
  | .exc e s4 => .exc e s4
  | .bad => .bad
theorem sd_augD {o i value : Expr} {pos tpos : Pos} {fo fi fe : FE} (hu : X.A.units + 65 < cLine) (ho : PED X o fo) (hi : PED X i fi) (he : PED X value fe)
    (ha : ∀ ov iv new, augStore i ov iv new = (do holding [new, ov, iv] (setItem ov iv new); release [new, ov, iv] []; pure .next) := by intro _ _ _; rfl) : PSD X (.AugAssign (.Subscript o i tpos) .Add value pos) (dAugD fo fi fe) := by
  refine ⟨fun W tk => ?_⟩
  obtain ⟨to, po, qo⟩ := ho.run W tk
  obtain ⟨ti, pi, qi⟩ := hi.run W tk
  obtain ⟨te, pe, qe⟩ := he.run W tk
  refine ⟨_, ps_daug (by omega) po pi pe in_add ha, fun H0 α0 σ H α s D rl k => qo H0 α0 σ H α s _ rl ?_⟩
  unfold dAugD at k
  cases eo : fo s with
  | bad => rw [eo] at k; exact k.elim
  | exc e s1 => rw [eo] at k; exact fun cls dd H' α' r' x => k cls dd σ H' α' r' x
  | ok od s1 =>
    rw [eo] at k
    simp only [Res.bind] at k
    intro x H1 α1 r1 t1 rx
    refine qi H0 α0 σ H1 α1 s1 _ r1 ?_
    cases ei : fi s1 with
    | bad => rw [ei] at k; exact k.elim
    | exc e s2 => rw [ei] at k; exact fun cls dd H' α' r' x => k cls dd σ H' α' r' x
    | ok id s2 =>
      rw [ei] at k
      simp only at k
      intro y H2 α2 r2 t2 ry
      cases el : (asD s2 od).bind fun kvs => if (keyD id).isSome then lookD kvs id else none with
      | none => rw [el] at k; exact k.elim
      | some dv =>
        rw [el] at k
        cases dv <;> simp only at k <;> try exact k.elim
        rename_i n
        rw [Option.bind_eq_some_iff] at el
        obtain ⟨kvs, ea, el⟩ := el
        split at el
        · rename_i hk
          obtain ⟨q0, ek⟩ := Option.isSome_iff_exists.mp hk
          obtain ⟨a, kv, rfl, h1, h2, _⟩ := asD_ok r2 (rx.stay t2) ea
          cases key_kV ry ek
          rcases rkv_look ek h2 with ⟨z, _⟩ | ⟨d', v, h3, h4, h5⟩
          · rw [z] at el; cases el
          · rw [h3] at el
            cases el
            refine ⟨a, v, rfl, by rw [← h4]; exact dget_of h1, ?_⟩
            refine qe H0 α0 σ H2 α2 s2 _ r2 ?_
            cases ee : fe s2 with
            | bad => rw [ee] at k; exact k.elim
            | exc e s3 => rw [ee] at k; exact fun cls dd H' α' r' x => k cls dd σ H' α' r' x
            | ok ed s3 =>
              rw [ee] at k
              simp only at k
              intro y2 H3 α3 r3 t3 ry2
              cases ed <;> simp only at k <;> try exact k.elim
              rename_i m
              cases eg : gSetD s3 od id (.int (n + m)) with
              | none => rw [eg] at k; exact k.elim
              | some s4 =>
                rw [eg] at k
                have hv : v = .int n := by simpa only [Rv] using h5
                have hy : y2 = .int m := rx_int ry2
                subst hv
                subst hy
                refine ⟨n, m, rfl, rfl, ?_⟩
                obtain ⟨p, H5, e5, g5, q5⟩ := dput_core (Q := fun H' => D.nx σ H') (v := .int (n + m)) r3 ((rx.stay t2).stay t3) (ry.stay t3) (by simp only [Rv]) eg fun H' α' r' t' => k σ H' α' r' (((t1.trans t2).trans t3).trans t')
                cases e5
                exact ⟨H5, g5, q5⟩
        · cases el
end
/-! ### 41. Making dicts -/
theorem rkv_merge {K : PySem.W.Frag} {H : Hp} {α : List Addr} : ∀ {ps : List (D × D)} {kvs : List (Key × V)} {acc : List (D × D)} {acv : List (Key × V)}, Rkv K H α ps kvs → Rkv K H α acc acv → Rkv K H α (mergeD acc ps) (mergeK acv kvs)
  | [], _, _, _, h, h' => by
    simp only [Rkv] at h
    subst h
    exact h'
  | (k, d) :: ps, l, acc, acv, h, h' => by
    obtain ⟨q, v, r, rfl, h0, h1, h2⟩ := rkv_inv h
    show Rkv K H α (mergeD (putD acc k d) ps) (mergeK (putK acv q v) r)
    exact rkv_merge h2 (rkv_put h0 h1 h')
theorem new_dct {K : PySem.W.Frag} {H0 H : Hp} {α0 α : List Addr} {σ : Sg} {s : S} {p : Addr} {xs : List (D × D)} {vs : List (Key × V)} {Q : VK} (r : Rel K H0 α0 H α σ s) (h : H p = none) (rr : Rkv K H α xs vs)
    (q : ∀ a H' α', Rel K H0 α0 H' α' σ s → Stay H α H' α' → RF K H0 H' α' σ s a (.dct xs) → Q (.ref a) H') : Q (.ref p) (upd H p (.dK vs)) := by
  have t : Stay H α (upd H p (.dK vs)) α := Stay.upd_new h
  refine q p _ α (r.new h) t ⟨.inl ⟨vs, upd_same, Rkv.stay t _ _ rr⟩, r.nota h, r.free0 h, fun i c' h1 h2 => ?_⟩
  obtain ⟨a, e1, _, _, e2⟩ := r.slots.own i c' h1
  rw [h2] at e1
  cases e1
  obtain ⟨o, e3⟩ := e2.some
  rw [h] at e3
  cases e3
def pairOf : D → Option (D × D)
  | .tup [k, v] => if (keyD k).isSome then some (k, v) else none
  | _ => none
def gDictP : S → List D → Option Cell := fun s ds => match ds with
  | [d] => (asL s d).bind fun xs => (xs.mapM pairOf).map fun ps => .dct (mergeD [] ps)
  | _ => none
section
variable {X : Cx}
theorem pairs_at {K : PySem.W.Frag} {H : Hp} {α : List Addr} : ∀ {xs : List D} {vs : List V} {ps : List (D × D)}, Rvs K H α xs vs → xs.mapM pairOf = some ps → ∃ (as : List Addr) (kvs : List (Key × V)), vs = as.map V.ref ∧ Paired (fun p kv => SqT K H p [kV kv.1, kv.2]) as kvs ∧ Rkv K H α ps kvs
  | [], vs, ps, h, e => by
    simp only [Rvs] at h
    subst h
    simp only [List.mapM_nil, Option.pure_def, Option.some.injEq] at e
    subst e
    exact ⟨[], [], rfl, .nil, rkv_nil⟩
  | x :: xs, vs, ps, h, e => by
    simp only [Rvs] at h
    obtain ⟨v, r, rfl, h1, h2⟩ := h
    rw [List.mapM_cons] at e
    simp only [Option.bind_eq_bind, Option.bind_eq_some_iff, Option.pure_def, Option.some.injEq] at e
    obtain ⟨p, ep, qs, eq, rfl⟩ := e
    obtain ⟨as, kvs, rfl, g1, g2⟩ := pairs_at h2 eq
    unfold pairOf at ep
    split at ep
    · rename_i k d
      split at ep
      · rename_i hk
        cases ep
        obtain ⟨q0, ek⟩ := Option.isSome_iff_exists.mp hk
        simp only [Rv] at h1
        obtain ⟨a, l, rfl, hs, rr⟩ := h1
        simp only [Rvs] at rr
        obtain ⟨v1, r1, rfl, z1, v2, r2, rfl, z2, rfl⟩ := rr
        cases key_kV (σ := []) (Rv.x z1) ek
        exact ⟨a :: as, (q0, v2) :: kvs, rfl, .cons hs g1, rkv_cons ek z2 g2⟩
      · cases ep
    · cases ep
theorem bif_dictP (hc : X.calm = true) : BIF X (.type "dict") gDictP := .of (call_dictP hc) fun H0 α0 σ H α s xs ds c Q r rx e q => by
  unfold gDictP at e
  split at e
  · rename_i d
    obtain ⟨v, rfl, rx1⟩ := rx.one
    rw [Option.bind_eq_some_iff] at e
    obtain ⟨ys, ea, e⟩ := e
    rw [Option.map_eq_some_iff] at e
    obtain ⟨ps, ep, rfl⟩ := e
    obtain ⟨a, vs, rfl, h1, rr⟩ := asL_ok r rx1 ea
    obtain ⟨as, kvs, rfl, g1, g2⟩ := pairs_at rr ep
    exact ⟨a, as, kvs, rfl, h1, g1, fun p hp => new_dct r hp (rkv_merge g2 rkv_nil) q⟩
  · cases e
end
/-! {k: v, ..} -/
abbrev FP := S → Res (List (D × D))
structure PPD (X : Cx) (pos : Pos) (keys : List (Option Expr)) (values : List Expr) (f : FP) : Prop where
  run : ∀ W, Takes X W → ∃ trs, PPs X pos keys values trs ∧ ∀ H0 α0 σ H α s (Q : List (V × V) → Hp → Prop), Rel X.K H0 α0 H α σ s → (match f s with
    | .ok ps s' => ∀ vs H' α', Rel X.K H0 α0 H' α' σ s' → Stay H α H' α' → Paired (fun (p : D × D) (q : V × V) => Rv X.K H' α' p.1 q.1 ∧ Rv X.K H' α' p.2 q.2) ps vs → Q vs H'
    | .exc e s' => ∀ cls dd H' α', Rel X.K H0 α0 H' α' σ s' → ExR X.K H' α' e cls dd → W cls dd σ H'
    | .bad => False) → tPairs trs σ H Q
def dPn : FP := fun s => .ok [] s
def dPc (fk fv : FE) (r : FP) : FP := fun s => (fk s).bind fun k s1 => (fv s1).bind fun v s2 => if noOwn k && noOwn v then (r s2).bind fun ps s3 => .ok ((k, v) :: ps) s3 else .bad
section
variable {X : Cx} {pos : Pos}
theorem pp_n : PPD X pos [] [] dPn := ⟨fun W _ => ⟨_, pps_nil, fun H0 α0 σ H α s Q r q => q [] H α r (Stay.refl _ _) .nil⟩⟩
theorem pp_c {k v : Expr} {ks : List (Option Expr)} {vs : List Expr} {fk fv : FE} {fr : FP} (hk : PED X k fk) (hv : PED X v fv) (hr : PPD X pos ks vs fr) : PPD X pos (some k :: ks) (v :: vs) (dPc fk fv fr) := by
  refine ⟨fun W tk => ?_⟩
  obtain ⟨t1, p1, q1⟩ := hk.run W tk
  obtain ⟨t2, p2, q2⟩ := hv.run W tk
  obtain ⟨t3, p3, q3⟩ := hr.run W tk
  refine ⟨_, pps_cons p1 p2 p3, fun H0 α0 σ H α s Q r q => q1 H0 α0 σ H α s _ r ?_⟩
  unfold dPc at q
  cases e1 : fk s with
  | bad => rw [e1] at q; exact q.elim
  | exc e s1 => rw [e1] at q; exact q
  | ok dk s1 =>
    rw [e1] at q
    simp only [Res.bind] at q
    intro x H1 α1 r1 t1 rx
    refine q2 H0 α0 σ H1 α1 s1 _ r1 ?_
    cases e2 : fv s1 with
    | bad => rw [e2] at q; exact q.elim
    | exc e s2 => rw [e2] at q; exact q
    | ok dv s2 =>
      rw [e2] at q
      simp only at q
      intro y H2 α2 r2 t2 ry
      by_cases hn : (noOwn dk && noOwn dv) = true
      · simp only [hn, if_true] at q
        rw [Bool.and_eq_true] at hn
        refine q3 H0 α0 σ H2 α2 s2 _ r2 ?_
        cases e3 : fr s2 with
        | bad => rw [e3] at q; exact q.elim
        | exc e s3 => rw [e3] at q; exact q
        | ok ps s3 =>
          rw [e3] at q
          intro vs' H3 α3 r3 t3 rr
          exact q _ H3 α3 r3 ((t1.trans t2).trans t3) (.cons ⟨Rv.stay (t2.trans t3) _ _ (noOwn_rv rx hn.1), Rv.stay t3 _ _ (noOwn_rv ry hn.2)⟩ rr)
      · rw [Bool.not_eq_true] at hn
        simp only [hn, Bool.false_eq_true, if_false] at q
def dDisp (fp : FP) : FC := fun s => (fp s).bind fun ps s1 => if ps.all (fun p => (keyD p.1).isSome) && decide (ps.length ≤ 15) then .ok (.dct (mergeD [] ps)) s1 else .bad
theorem prs_at {K : PySem.W.Frag} {H : Hp} {α : List Addr} : ∀ {ps : List (D × D)} {vs : List (V × V)}, Paired (fun (p : D × D) (q : V × V) => Rv K H α p.1 q.1 ∧ Rv K H α p.2 q.2) ps vs → ps.all (fun p => (keyD p.1).isSome) = true →
    ∃ kvs : List (Key × V), vs = kvs.map (fun kv => (kV kv.1, kv.2)) ∧ Rkv K H α ps kvs
  | [], _, .nil, _ => ⟨[], rfl, rkv_nil⟩
  | (k, d) :: ps, _, .cons (b := (x, y)) a t, h => by
    rw [List.all_cons, Bool.and_eq_true] at h
    obtain ⟨kvs, rfl, g⟩ := prs_at t h.2
    obtain ⟨q0, ek⟩ := Option.isSome_iff_exists.mp h.1
    cases key_kV (σ := []) (Rv.x a.1) ek
    exact ⟨(q0, y) :: kvs, rfl, rkv_cons ek a.2 g⟩
theorem pf_disp {keys : List (Option Expr)} {values : List Expr} {fp : FP} (h : PPD X pos keys values fp) (hall : keys.all (·.isSome) = true := by rfl) (hl : keys.length = values.length := by rfl) (h0 : keys ≠ [] := by exact fun z => nomatch z)
    (h15 : keys.length ≤ 15 := by decide) : PFD X (.Dict keys values pos) (dDisp fp) := by
  refine ⟨fun W tk => ?_⟩
  obtain ⟨trs, p, q⟩ := h.run W tk
  refine ⟨_, pe_disp p hall hl h0 h15, fun H0 α0 σ H α s Q r k a ha => ?_⟩
  have hn : H0 a = none := r.free0 ha
  have n0 : a ∉ α0 := fun z => r.nota ha (r.st.pre.subset z)
  refine q (upd H0 a (.dK [])) α0 σ _ α s _ (r.pin ha (fun z => z)) ?_
  unfold dDisp at k
  cases e : fp s with
  | bad => rw [e] at k; exact k.elim
  | exc e2 s1 =>
    rw [e] at k
    exact fun cls dd H' α' r' x => k cls dd H' α' (r'.unpin hn) x
  | ok ps s1 =>
    rw [e] at k
    simp only [Res.bind] at k
    intro vs H1 α1 r1 t1 rr
    split at k
    · rename_i hc
      rw [Bool.and_eq_true, decide_eq_true_eq] at hc
      obtain ⟨kvs, rfl, g⟩ := prs_at rr hc.1
      refine ⟨r1.pinned n0, kvs, rfl, by rw [rkv_len g]; exact hc.2, ?_⟩
      obtain ⟨rp, tp⟩ := r1.repin (o' := .dK (mergeK [] kvs)) n0 (fun z => z) (fun z => z)
      exact k a _ α1 (rp.unpin hn) ((Stay.upd_new ha).trans (t1.trans tp)) (rp.pinRF hn n0 (.inl ⟨_, upd_same, rkv_merge (Rkv.stay tp _ _ g) rkv_nil⟩))
    · exact k.elim
end
end DL

namespace DL
open PySem PySem.Spec PyProof.Rows L2
/-! ### 42. {k: v for t in it if c} -/
def dDcGo (vs : List Nat) (g : FG) (ft : FT) (fk fv : FE) : List D → List (D × D) → S → Res (List (D × D))
  | [], acc, s => .ok acc s
  | d :: ds, acc, s => match g d { s with δ := wipeD s.δ vs } with
    | none => .bad
    | some s1 => match ft s1 with
      | .ok true s2 => (match fk s2 with
        | .ok k s3 => (match fv s3 with
          | .ok v s4 => if (keyD k).isSome && noOwn v then dDcGo vs g ft fk fv ds (putD acc k v) { δ := backD s.δ s4.δ vs, μ := s4.μ } else .bad
          | _ => .bad)
        | _ => .bad)
      | .ok false s2 => dDcGo vs g ft fk fv ds acc { δ := backD s.δ s2.δ vs, μ := s2.μ }
      | _ => .bad
def dDc (vs : List Nat) (fi : FA) (g : FG) (ft : FT) (fk fv : FE) : FC := fun s => (fi s).bind fun ds s1 => if ds.length ≤ 16777216 && vs.all (fun v => !isOwn s1.δ v) then (match dDcGo vs g ft fk fv ds [] s1 with | .ok ys s2 => .ok (.dct ys) s2 | _ => .bad) else .bad
theorem putD_len (acc : List (D × D)) (k v : D) : (putD acc k v).length ≤ acc.length + 1 := by
  unfold putD
  split
  · rw [List.length_map]; omega
  · rw [List.length_append]; simp
variable [DLX]
section
variable {X : Cx} {kx vx tg iter : Expr} {ifs : List Expr} {scope : Scope} {own : List (Str × Nat)} {pos : Pos} {fi : FA} {g : FG} {ft : FT} {fk fv : FE} {ws : List Nat}
theorem dc_ex (hi : PID X tg iter fi) (hw : ws.all (fun i => (own.map (·.2)).contains i) = true) (hg : ∀ b, PGD (CxB X scope b) tg ws g) (ht : ∀ b, PTsD (CxB X scope b) ifs ft) (hk : ∀ b, PED (CxB X scope b) kx fk) (he : ∀ b, PED (CxB X scope b) vx fv) (W : WX) (tk : Takes X W) :
    ∃ wi tg' tt tkx te, PI X tg iter wi ∧ (∀ b, PG (CxB X scope b) tg tg') ∧ (∀ b, PTs (CxB X scope b) ifs tt) ∧ (∀ b, PE (CxB X scope b) kx tkx) ∧ (∀ b, PE (CxB X scope b) vx te) ∧ ∀ H0 α0 σ H α s Q, Rel X.K H0 α0 H α σ s → PostF X.K H0 α0 σ W H α Q (dDc (own.map (·.2)) fi g ft fk fv s) → tDc wi tg' tt tkx te (own.map (·.2)) σ H Q := by
  obtain ⟨wi, pi, qi⟩ := hi.run W tk
  have hg' := fun b => (hg b).ex
  have ht' := fun b => (ht b).run _ Takes.none
  have hk' := fun b => (hk b).run _ Takes.none
  have he' := fun b => (he b).run _ Takes.none
  obtain ⟨tg1, hg2⟩ := Classical.axiomOfChoice hg'
  obtain ⟨tt1, ht2⟩ := Classical.axiomOfChoice ht'
  obtain ⟨tk1, hk2⟩ := Classical.axiomOfChoice hk'
  obtain ⟨te1, he2⟩ := Classical.axiomOfChoice he'
  refine ⟨wi, fun v σ H Q => ∀ b, tg1 b v σ H Q, fun σ H Q => ∀ b, tt1 b σ H Q, fun σ H Q => ∀ b, tk1 b σ H Q, fun σ H Q => ∀ b, te1 b σ H Q, pi, fun b => ⟨fun pins s v u σ H Q I r h => (hg2 b).1.run pins s v u σ H Q I r (h b)⟩, fun b => ⟨fun pins s σ H Q I h => (ht2 b).1.run pins s σ H Q I (h b)⟩,
    fun b => ⟨fun pins s σ H Q I h => (hk2 b).1.run pins s σ H Q I (h b)⟩, fun b => ⟨fun pins s σ H Q I h => (he2 b).1.run pins s σ H Q I (h b)⟩, fun H0 α0 σ H α s Q r q => qi H0 α0 σ H α s _ r ?_⟩
  unfold dDc at q
  cases ei : fi s with
  | bad => rw [ei] at q; exact q.elim
  | exc e s1 => rw [ei] at q; exact q
  | ok ds s1 =>
    rw [ei] at q
    intro J H1 α1 r1 t1 w
    simp only [Res.bind] at q
    split at q
    · rename_i hc
      rw [Bool.and_eq_true, decide_eq_true_eq] at hc
      obtain ⟨hl, hno⟩ := hc
      have no1 : ∀ v ∈ own.map (·.2), isOwn s1.δ v = false := fun v hv => by simpa using List.all_eq_true.mp hno v hv
      have hws : ∀ i ∈ ws, i ∈ own.map (·.2) := fun i h => by simpa using List.all_eq_true.mp hw i h
      generalize own.map (·.2) = vs at *
      intro Dd hD
      have h0 : H0 Dd = none := r1.free0 hD
      have n0 : Dd ∉ α0 := fun z => r1.nota hD (r1.st.pre.subset z)
      refine ⟨fun i m H => i + m = ds.length ∧ ∃ s' α' acc vacc, Rel X.K (upd H0 Dd (.dK vacc)) α0 H α' σ s' ∧ Stay H1 α1 H α' ∧ Rkv X.K H α' acc vacc ∧ acc.length ≤ i ∧ (∀ v ∈ vs, isOwn s'.δ v = false) ∧
        PostF X.K H0 α0 σ W H α' Q (match dDcGo vs g ft fk fv (ds.drop i) acc s' with | .ok ys s2 => .ok (.dct ys) s2 | _ => .bad), ⟨ds.length, Nat.zero_add _, s1, α1, [], [], r1.pin hD (fun z => z), Stay.upd_new hD, rkv_nil, Nat.zero_le _, no1, ?_⟩, ?_⟩
      · rw [List.drop_zero]
        have q2 : PostF X.K H0 α0 σ W H α Q (match dDcGo vs g ft fk fv ds [] s1 with | .ok ys s2 => .ok (.dct ys) s2 | _ => .bad) := q
        cases eg : dDcGo vs g ft fk fv ds [] s1 <;> rw [eg] at q2 <;> simp only at q2 ⊢
        · exact fun a H' α' r' t' rf => q2 a H' α' r' (t1.trans ((Stay.upd_new hD).trans t')) rf
        · exact q2
        · exact q2
      · rintro i m H2 ⟨hm, s', α', acc, vacc, rl, st, ra, hai, no, k⟩
        cases m with
        | zero =>
          have e : i = ds.length := by omega
          subst e
          rw [List.drop_length] at k
          simp only [dDcGo] at k
          exact .inl ⟨w.stop H2 α' st, k Dd H2 α' (rl.unpin h0) (Stay.refl _ _) (rl.pinRF h0 n0 (.inl ⟨vacc, rl.pinned n0, ra⟩))⟩
        | succ m =>
          have hi : i < ds.length := by omega
          have ed := List.getElem?_eq_getElem hi
          rw [List.drop_eq_getElem_cons hi] at k
          refine .inr ⟨w.go H2 α' i _ st ed, fun H' => ∃ m', m' < m + 1 ∧ (i + 1) + m' = ds.length ∧ ∃ s' α' acc vacc, Rel X.K (upd H0 Dd (.dK vacc)) α0 H' α' σ s' ∧ Stay H1 α1 H' α' ∧ Rkv X.K H' α' acc vacc ∧ acc.length ≤ i + 1 ∧ (∀ v ∈ vs, isOwn s'.δ v = false) ∧
            PostF X.K H0 α0 σ W H' α' Q (match dDcGo vs g ft fk fv (ds.drop (i + 1)) acc s' with | .ok ys s2 => .ok (.dct ys) s2 | _ => .bad), fun _ z => z, fun x H3 hy => ?_⟩
          obtain ⟨r3, t3, rv⟩ := w.yld _ α0 H2 α' σ s' i _ x H3 st rl ed hy
          unfold dDcGo at k
          cases eg : g ds[i] { s' with δ := wipeD s'.δ vs } with
          | none => rw [eg] at k; exact k.elim
          | some s4 =>
            rw [eg] at k
            intro b
            refine (hg2 b).2 _ α0 _ H3 α' _ _ x s4 _ (r3.wipe vs) rv eg fun σ4 H4 r4 t4 b4 => ⟨by rw [wipe_but b4 hws]; exact wipe_wipe σ vs, fun b => ?_⟩
            refine (ht2 b).2 _ α0 σ4 H4 α' s4 _ r4 ?_
            simp only at k
            cases et : ft s4 with
            | bad => rw [et] at k; exact k.elim
            | exc e s5 => rw [et] at k; exact k.elim
            | ok bb s5 =>
              rw [et] at k
              intro H5 α5 r5 t5
              have t35 := (t3.trans t4).trans t5
              cases bb with
              | false =>
                simp only at k
                rw [if_neg Bool.false_ne_true]
                refine ⟨m, Nat.lt_succ_self m, by omega, _, α5, acc, vacc, r3.back no (t4.trans t5) r5 b4 hws, st.trans t35, Rkv.stay t35 _ _ ra, by omega, back_no no, ?_⟩
                cases eq : dDcGo vs g ft fk fv (ds.drop (i + 1)) acc { δ := backD s'.δ s5.δ vs, μ := s5.μ } <;> rw [eq] at k <;> simp only at k ⊢
                · exact fun a H' α' r' t' rf => k a H' α' r' (t35.trans t') rf
                · exact k
                · exact k
              | true =>
                simp only at k
                rw [if_pos rfl]
                intro b
                refine (hk2 b).2 _ α0 σ4 H5 α5 s5 _ r5 ?_
                cases ek : fk s5 with
                | bad => rw [ek] at k; exact k.elim
                | exc e s6 => rw [ek] at k; exact k.elim
                | ok kd s6 =>
                rw [ek] at k
                simp only at k
                intro vk H6 α6 r6 t6 rk b
                refine (he2 b).2 _ α0 σ4 H6 α6 s6 _ r6 ?_
                cases ee : fv s6 with
                | bad => rw [ee] at k; exact k.elim
                | exc e s7 => rw [ee] at k; exact k.elim
                | ok y s7 =>
                  rw [ee] at k
                  intro v H7 α7 r7 t7 rx
                  simp only at k
                  cases hny : ((keyD kd).isSome && noOwn y) with
                  | false => rw [hny, if_neg Bool.false_ne_true] at k; exact k.elim
                  | true =>
                    rw [hny, if_pos rfl] at k
                    rw [Bool.and_eq_true] at hny
                    obtain ⟨q0, eq0⟩ := Option.isSome_iff_exists.mp hny.1
                    have rvy := noOwn_rv rx hny.2
                    have ekv := key_kV rk eq0
                    have rb := r3.back no (((t4.trans t5).trans t6).trans t7) r7 b4 hws
                    obtain ⟨rp, tp⟩ := rb.repin (o' := .dK (putK vacc q0 v)) n0 (fun z => z) (fun z => z)
                    have t37 := ((t35.trans t6).trans t7).trans tp
                    have hlen : acc.length < sizeLine := by rw [sizeLine_eq]; omega
                    refine ⟨vacc, q0, ekv, r7.pinned n0, by rw [rkv_len ra]; exact hlen, m, Nat.lt_succ_self m, by omega, _, α7, putD acc kd y, putK vacc q0 v, rp, st.trans t37, rkv_put eq0 (Rv.stay tp _ _ rvy) (Rkv.stay t37 _ _ ra), Nat.le_trans (putD_len acc kd y) (by omega), back_no no, ?_⟩
                    cases eq : dDcGo vs g ft fk fv (ds.drop (i + 1)) (putD acc kd y) { δ := backD s'.δ s7.δ vs, μ := s7.μ } <;> rw [eq] at k <;> simp only at k ⊢
                    · exact fun a H' α' r' t' rf => k a H' α' r' (t37.trans t') rf
                    · exact k
                    · exact k
    · exact q.elim
theorem pf_dc (hc : X.calm = true) (hN : X.N.Nodup) (ok : blkC X.N X.env.scope scope own = true) (hi : PID X tg iter fi) (hg : ∀ b, PGD (CxB X scope b) tg ws g) (ht : ∀ b, PTsD (CxB X scope b) ifs ft) (hk : ∀ b, PED (CxB X scope b) kx fk) (he : ∀ b, PED (CxB X scope b) vx fv) (hw : ws.all (fun i => (own.map (·.2)).contains i) = true := by rfl)
    (hs : ∀ x, foldedSetIterable iter X.env x = pure x := by intro _; rfl) : PFD X (.DictComp kx vx [⟨tg, iter, ifs, 0⟩] scope pos) (dDc (own.map (·.2)) fi g ft fk fv) := by
  refine ⟨fun W tk => ?_⟩
  obtain ⟨wi, tg', tt, tkx, te, h1, h2, h3, h4, h5, h6⟩ := dc_ex hi hw hg ht hk he W tk
  exact ⟨_, pe_dc hc hN h1 (blkOk_by ok) (fun s H C cl fp => h2 ⟨s, H, C, cl, fp⟩) (fun s H C cl fp => h3 ⟨s, H, C, cl, fp⟩) (fun s H C cl fp => h4 ⟨s, H, C, cl, fp⟩) (fun s H C cl fp => h5 ⟨s, H, C, cl, fp⟩) hs, h6⟩
end
end DL

namespace DL
open PySem PySem.Spec PyProof.Rows L2
/-! ### 43. Starred items -/
def dStar (fa : FE) (fr : FA) : FA := fun s => (fa s).bind fun d s1 => match asSeq s1 d with
  | some xs => (fr s1).bind fun ys s2 => .ok (xs ++ ys) s2
  | none => .bad
/-- list(range(n)) -/
def dLRg (fa : FE) : FC := fun s => (fa s).bind fun d s1 => match d with | .int j => if smallI j && decide (j ≤ 1000000) then .ok (.lst (rngD 0 j.toNat)) s1 else .bad | _ => .bad
/-- a, b, .. = a list or a tuple -/
def gL (r : FGs) : FG := fun d s => match d with | .tup ds => r ds s | .lst ds => r ds s | _ => none
inductive MV where
  | v (d : D) | c (c : Cell)
abbrev FM := S → Res (List MV)
def dMn : FM := fun s => .ok [] s
def dMv (fa : FE) (r : FM) : FM := fun s => (fa s).bind fun d s1 => if noOwn d then (r s1).bind fun ms s2 => .ok (.v d :: ms) s2 else .bad
def dMc (fa : FC) (r : FM) : FM := fun s => (fa s).bind fun c s1 => match c with
  | .lst xs => (r s1).bind fun ms s2 => .ok (.c (.lst xs) :: ms) s2
  | .dct xs => (r s1).bind fun ms s2 => .ok (.c (.dct xs) :: ms) s2
  | _ => .bad
def slotOf : MV → Slot | .v d => .val d | .c c => .own c
def dParM (i j : Nat) (fm : FM) : FS := fun s => match fm s with
  | .ok [a, b] s1 => .nx { s1 with δ := (s1.δ.set i (slotOf a)).set j (slotOf b) }
  | .exc e s1 => .exc e s1
  | _ => .bad
def dParM3 (i j l : Nat) (fm : FM) : FS := fun s => match fm s with
  | .ok [a, b, c] s1 => .nx { s1 with δ := ((s1.δ.set i (slotOf a)).set j (slotOf b)).set l (slotOf c) }
  | .exc e s1 => .exc e s1
  | _ => .bad
variable [DLX]
section
variable {X : Cx}
theorem pa_st {e : Expr} {p : Pos} {es : List Expr} {fa : FE} {fr : FA} (ha : PED X e fa) (hr : PAD X es fr) (hs : starEach (.Starred e p :: es) X.env = (true, eval e X.env) :: starEach es X.env := by rfl) : PAD X (.Starred e p :: es) (dStar fa fr) := by
  refine ⟨fun W tk => ?_⟩
  obtain ⟨t, p1, q1⟩ := ha.run W tk
  obtain ⟨u, p2, q2⟩ := hr.run W tk
  refine ⟨_, StX.pa_star p1 p2 hs, fun H0 α0 σ H α s Q r q => q1 H0 α0 σ H α s _ r ?_⟩
  unfold dStar at q
  cases e1 : fa s with
  | bad => rw [e1] at q; exact q.elim
  | exc e s1 => rw [e1] at q; exact q
  | ok d s1 =>
    rw [e1] at q
    intro v H1 α1 r1 t1 rv
    simp only [Res.bind] at q
    cases ed : asSeq s1 d with
    | none => rw [ed] at q; exact q.elim
    | some xs =>
      rw [ed] at q
      obtain ⟨a, vs, rfl, hs, rr⟩ := asSeq_ok r1 rv ed
      refine ⟨a, vs, rfl, hs.symm, q2 H0 α0 σ H1 α1 s1 _ r1 ?_⟩
      simp only at q
      cases e2 : fr s1 with
      | bad => rw [e2] at q; exact q.elim
      | exc e s2 => rw [e2] at q; exact q
      | ok ys s2 =>
        rw [e2] at q
        intro ws H2 α2 r2 t2 rw
        have app : ∀ {ds es : List D} {vs us : List V}, Rvs X.K H2 α2 ds vs → Rxs X.K H2 α2 σ es us → Rxs X.K H2 α2 σ (ds ++ es) (vs ++ us) := by
          intro ds
          induction ds with
          | nil => intro es vs us h g; simp only [Rvs] at h; subst h; exact g
          | cons d ds ih =>
            intro es vs us h g
            simp only [Rvs] at h
            obtain ⟨v, r, rfl, h1, h2⟩ := h
            exact .cons (Rv.x h1) (ih h2 g)
        exact q _ H2 α2 r2 (t1.trans t2) (app (Rvs.stay t2 _ _ rr) rw)
theorem pf_lrg {e : Expr} {p p2 q pos : Pos} {fa : FE} (hc : X.calm = true) (hg : Gl X "list") (hm : X.mg "list" = none) (hg2 : Gl X "range") (hm2 : X.mg "range" = none) (ha : PED X e fa)
    (n1 : starEach [e] X.env = (false, eval e X.env) :: starEach [] X.env := by rfl) (n2 : starEach [.Call (.Name "range" p2) [e] [] q] X.env = (false, eval (.Call (.Name "range" p2) [e] [] q) X.env) :: starEach [] X.env := by rfl) :
    PFD X (.Call (.Name "list" p) [.Call (.Name "range" p2) [e] [] q] [] pos) (dLRg fa) := by
  refine ⟨fun W tk => ?_⟩
  obtain ⟨t, pe, qe⟩ := ha.run W tk
  refine ⟨_, pe_listRg hc hg hm (prg_1 hg2 hm2 pe n1) n2, fun H0 α0 σ H α s Q r k => qe H0 α0 σ H α s _ r ?_⟩
  unfold dLRg at k
  cases ea : fa s with
  | bad => rw [ea] at k; exact k.elim
  | exc e s1 => rw [ea] at k; exact k
  | ok d s1 =>
    rw [ea] at k
    intro v H1 α1 r1 t1 rv
    cases d <;> simp only [Res.bind] at k <;> try exact k.elim
    rename_i j
    split at k
    · rename_i hj
      rw [Bool.and_eq_true, decide_eq_true_eq] at hj
      obtain ⟨hj, hj2⟩ := hj
      unfold smallI at hj
      simp only [Bool.and_eq_true, decide_eq_true_eq] at hj
      have fin : ∀ q, H1 q = none → Q (.ref q) (upd H1 q (.lst (rgV 0 j))) := fun p hp => by
        refine new_lst r1 hp ?_ fun a H' α' r' t' rf => k a H' α' r' (t1.trans t') rf
        have e : rgV 0 j = (List.range j.toNat).map fun i => V.int (0 + (i : Nat)) := by
          unfold rgV
          simp
        rw [e]
        unfold rngD
        generalize List.range j.toNat = l
        induction l with
        | nil => exact .nil
        | cons i l ih => exact .cons (by simp only [Rv]) ih
      rw [rx_int rv]
      refine ⟨j, rfl, ?_⟩
      first
        | exact ⟨by refine ⟨?_, ?_, ?_, ?_, ?_⟩ <;> (try rw [sizeLine_eq]) <;> omega, fin⟩
        | (refine ⟨?_, fin⟩; unfold RgOk; rw [sizeLine_eq]; omega)
    · exact k.elim
/-- targets that a list or a tuple gives -/
theorem PGs.orL {es : List Expr} {k : Nat} {pos : Pos} {t : TGs} {n : Nat} (hc : X.calm = true) (h : PGs X es t) (hn : (assignEach es X.env).length = n) (hst : (assignEach es X.env).findIdx? (·.1) = none) :
    PG X (.Tuple es k pos) (fun v σ H Q => (∃ a xs, v = .ref a ∧ SqT X.K H a xs ∧ xs.length = n ∧ t xs σ H Q) ∨ (∃ a xs, v = .ref a ∧ SqL X.K H a xs ∧ xs.length = n ∧ t xs σ H Q)) := ⟨fun pins s σ H v u Q I r q => by
  rcases q with q | q
  · exact (pg_tup hc h hn hst).run pins s σ H v u Q I r q
  · exact (pg_lst hc h hn hst).run pins s σ H v u Q I r q⟩
theorem gd_lst {es : List Expr} {k : Nat} {pos : Pos} {r : FGs} {n : Nat} {ws : List Nat} (hc : X.calm = true) (h : PGsD X es ws r) (hn : (assignEach es X.env).length = n := by rfl) (hst : (assignEach es X.env).findIdx? (·.1) = none := by rfl) (hl : es.length = n := by rfl)
    (hr : ∀ ds s s', r ds s = some s' → ds.length = n := by intro ds s s' e; simp only [gC, gN] at e; repeat (first | (split at e; first | cases e | skip) | (simp only [Option.bind_eq_some_iff] at e; obtain ⟨_, _, e⟩ := e)); all_goals first | rfl | (cases e) | simp_all) : PGD X (.Tuple es k pos) ws (gL r) := by
  obtain ⟨t, p, q⟩ := h.ex
  refine ⟨_, PGs.orL hc p hn hst, fun H0 α0 σ H α s d v s' Q rl rv e k => ?_⟩
  unfold gL at e
  split at e
  · rename_i ds
    simp only [Rv] at rv
    obtain ⟨a, vs, rfl, hs, rr⟩ := rv
    exact .inl ⟨a, vs, rfl, hs, by rw [rr.length]; exact hr _ _ _ e, q H0 α0 σ H α s ds vs s' Q rl rr e k⟩
  · rename_i ds
    simp only [Rv] at rv
    obtain ⟨a, vs, rfl, hs, rr⟩ := rv
    exact .inr ⟨a, vs, rfl, hs.sq, by rw [rr.length]; exact hr _ _ _ e, q H0 α0 σ H α s ds vs s' Q rl rr e k⟩
  · cases e
end
/-! ### 44. a, b = x, y where some are fresh things -/
def MVs (K : PySem.W.Frag) (H : Hp) (α : List Addr) (σ : Sg) (s : S) : Hp → List MV → List V → Prop
  | _, [], vs => vs = []
  | H0, .v d :: ms, vs => ∃ v r, vs = v :: r ∧ Rv K H α d v ∧ MVs K H α σ s H0 ms r
  | H0, .c c :: ms, vs => ∃ a o r, vs = .ref a :: r ∧ RF K H0 H α σ s a c ∧ H a = some o ∧ MVs K H α σ s (upd H0 a o) ms r
def PostM (K : PySem.W.Frag) (H0 : Hp) (α0 : List Addr) (σ : Sg) (W : WX) (H : Hp) (α : List Addr) (Q : List V → Hp → Prop) : Res (List MV) → Prop
  | .ok ms s' => ∀ vs H' α', Rel K H0 α0 H' α' σ s' → Stay H α H' α' → MVs K H' α' σ s' H0 ms vs → Q vs H'
  | .exc e s' => ∀ cls dd H' α', Rel K H0 α0 H' α' σ s' → ExR K H' α' e cls dd → W cls dd σ H'
  | .bad => False
structure PMD (X : Cx) (es : List Expr) (f : FM) : Prop where
  run : ∀ W, Takes X W → ∃ t, PA X es t ∧ ∀ H0 α0 σ H α s Q, Rel X.K H0 α0 H α σ s → PostM X.K H0 α0 σ W H α Q (f s) → t σ H Q
section
variable {X : Cx}
theorem pm_n : PMD X [] dMn := ⟨fun W _ => ⟨_, pa_nil, fun H0 α0 σ H α s Q r q => q [] H α r (Stay.refl _ _) (by simp only [MVs])⟩⟩
theorem pm_v {e : Expr} {es : List Expr} {fa : FE} {fr : FM} (ha : PED X e fa) (hr : PMD X es fr) (hs : starEach (e :: es) X.env = (false, eval e X.env) :: starEach es X.env := by rfl) : PMD X (e :: es) (dMv fa fr) := by
  refine ⟨fun W tk => ?_⟩
  obtain ⟨t, p1, q1⟩ := ha.run W tk
  obtain ⟨u, p2, q2⟩ := hr.run W tk
  refine ⟨_, pa_cons p1 p2 hs, fun H0 α0 σ H α s Q r q => q1 H0 α0 σ H α s _ r ?_⟩
  unfold dMv at q
  cases e1 : fa s with
  | bad => rw [e1] at q; exact q.elim
  | exc e s1 => rw [e1] at q; exact q
  | ok d s1 =>
    rw [e1] at q
    intro v H1 α1 r1 t1 rv
    simp only [Res.bind] at q
    cases hn : noOwn d with
    | false => rw [hn] at q; simp only [Bool.false_eq_true, if_false] at q; exact q.elim
    | true =>
      rw [hn] at q
      simp only [if_true] at q
      refine q2 H0 α0 σ H1 α1 s1 _ r1 ?_
      cases e2 : fr s1 with
      | bad => rw [e2] at q; exact q.elim
      | exc e s2 => rw [e2] at q; exact q
      | ok ms s2 =>
        rw [e2] at q
        intro ws H2 α2 r2 t2 rw
        refine q _ H2 α2 r2 (t1.trans t2) ?_
        simp only [MVs]
        exact ⟨v, ws, rfl, Rv.stay t2 _ _ (noOwn_rv rv hn), rw⟩
theorem pm_c {e : Expr} {es : List Expr} {fa : FC} {fr : FM} (ha : PFD X e fa) (hr : PMD X es fr) (hs : starEach (e :: es) X.env = (false, eval e X.env) :: starEach es X.env := by rfl) : PMD X (e :: es) (dMc fa fr) := by
  refine ⟨fun W tk => ?_⟩
  obtain ⟨t, p1, q1⟩ := ha.run W tk
  obtain ⟨u, p2, q2⟩ := hr.run W tk
  refine ⟨_, pa_cons p1 p2 hs, fun H0 α0 σ H α s Q r q => q1 H0 α0 σ H α s _ r ?_⟩
  unfold dMc at q
  cases e1 : fa s with
  | bad => rw [e1] at q; exact q.elim
  | exc e s1 => rw [e1] at q; exact q
  | ok c s1 =>
    rw [e1] at q
    intro a H1 α1 r1 t1 rf
    have go : ∀ (o : HO), H1 a = some o → ¬ Fixed o → PostM X.K H0 α0 σ W H α Q ((fr s1).bind fun ms s2 => .ok (.c c :: ms) s2) → u σ H1 fun xs H2 => Q (V.ref a :: xs) H2 := by
      intro o ho nf q
      obtain ⟨rp, n0, h0⟩ := r1.pinF rf ho nf
      refine q2 (upd H0 a o) α0 σ H1 α1 s1 _ rp ?_
      cases e2 : fr s1 with
      | bad => rw [e2] at q; exact q.elim
      | exc e s2 =>
        rw [e2] at q
        exact fun cls dd H' α' r' x => q cls dd H' α' (r'.unpin h0) x
      | ok ms s2 =>
        rw [e2] at q
        intro ws H2 α2 r2 t2 rw
        refine q _ H2 α2 (r2.unpin h0) (t1.trans t2) ?_
        simp only [MVs]
        have ha2 := r2.pinned n0
        exact ⟨a, o, ws, rfl, r2.pinRF h0 n0 (rf.1.stay t2 fun o' e' _ => by rw [ho] at e'; cases e'; exact ha2), ha2, rw⟩
    simp only [Res.bind] at q
    cases c with
    | lst xs =>
      obtain ⟨vs, hv, _⟩ := rf.1
      exact go _ hv (fun z => z) q
    | dct xs =>
      rcases rf.1 with ⟨kv, hv, _⟩ | ⟨kv, _, hv, _⟩
      · exact go _ hv (fun z => z) q
      · exact go _ hv (fun z => z) q
    | ins C fs => exact q.elim
    | tab n => exact q.elim
    | dead => exact q.elim
/-- one slot filled; the rest still stands -/
theorem mvs_map {K : PySem.W.Frag} {H : Hp} {α : List Addr} {σ σ' : Sg} {s s' : S} : ∀ {ms : List MV} {vs : List V} {H0 H0' : Hp}, MVs K H α σ s H0' ms vs → (∀ b, H0' b = none → H0 b = none) →
    (∀ b, H0' b = none → (∀ (i : Nat) (c' : Cell), s.δ[i]? = some (.own c') → σ[i]? ≠ some (some (.ref b))) → ∀ (i : Nat) (c' : Cell), s'.δ[i]? = some (.own c') → σ'[i]? ≠ some (some (.ref b))) → MVs K H α σ' s' H0 ms vs
  | [], vs, H0, H0', h, _, _ => by simpa only [MVs] using h
  | .v d :: ms, vs, H0, H0', h, g1, g2 => by
    simp only [MVs] at h ⊢
    obtain ⟨v, r, e, h1, h2⟩ := h
    exact ⟨v, r, e, h1, mvs_map h2 g1 g2⟩
  | .c c :: ms, vs, H0, H0', h, g1, g2 => by
    simp only [MVs] at h ⊢
    obtain ⟨a, o, r, e, ⟨h1, h2, h3, h4⟩, h5, h6⟩ := h
    have sub : ∀ {b : Addr} {G G' : Hp}, (∀ b, G' b = none → G b = none) → upd G' a o b = none → G' b = none ∧ upd G a o b = none := fun {b G G'} g z => by
      by_cases hb : b = a
      · subst hb; rw [upd_same] at z; cases z
      · rw [upd_ne hb] at z
        exact ⟨z, by rw [upd_ne hb]; exact g b z⟩
    exact ⟨a, o, r, e, ⟨h1, h2, g1 a h3, g2 a h3 h4⟩, h5, mvs_map h6 (fun b z => (sub g1 z).2) fun b z => g2 b (sub g1 z).1⟩
theorem mv_set {K : PySem.W.Frag} {H H0 : Hp} {α0 α : List Addr} {σ : Sg} {s : S} {m : MV} {ms : List MV} {vs : List V} (i : Nat) (r : Rel K H0 α0 H α σ s) (h : MVs K H α σ s H0 (m :: ms) vs) :
    ∃ v r', vs = v :: r' ∧ Rel K H0 α0 H α (σ.set i (some v)) { s with δ := s.δ.set i (slotOf m) } ∧ MVs K H α (σ.set i (some v)) { s with δ := s.δ.set i (slotOf m) } H0 ms r' := by
  cases m with
  | v d =>
    simp only [MVs] at h
    obtain ⟨v, r', e, h1, h2⟩ := h
    refine ⟨v, r', e, r.setV h1, mvs_map h2 (fun _ z => z) fun b _ g j c' e1 e2 => ?_⟩
    rcases get_set e1 with ⟨_, z, _⟩ | ⟨ne, z⟩
    · cases z
    · rw [List.getElem?_set_ne ne] at e2
      exact g j c' z e2
  | c c =>
    simp only [MVs] at h
    obtain ⟨a, o, r', e, h1, h2, h3⟩ := h
    refine ⟨.ref a, r', e, r.setO h1, mvs_map h3 (fun b z => ?_) fun b z g j c' e1 e2 => ?_⟩
    · by_cases hb : b = a
      · subst hb; rw [upd_same] at z; cases z
      · rw [upd_ne hb] at z; exact z
    · rcases get_set e1 with ⟨rfl, _, hl⟩ | ⟨ne, w⟩
      · rw [List.getElem?_set_self (by rw [r.slots.len]; exact hl)] at e2
        cases e2
        rw [upd_same] at z
        cases z
      · rw [List.getElem?_set_ne ne] at e2
        exact g j c' w e2
theorem sd_parM {es : List Expr} {st : Stmt} {i j : Nat} {fm : FM} (hp : ∀ ta, PA X es ta → PS X st (tPar i j ta)) (ha : PMD X es fm) : PSD X st (dParM i j fm) := by
  refine ⟨fun W tk => ?_⟩
  obtain ⟨t, p, q⟩ := ha.run W tk
  refine ⟨_, hp t p, fun H0 α0 σ H α s D r k => q H0 α0 σ H α s _ r ?_⟩
  unfold dParM at k
  cases ea : fm s with
  | bad => rw [ea] at k; exact k.elim
  | exc e s1 => rw [ea] at k; exact fun cls dd H' α' r' x => k cls dd σ H' α' r' x
  | ok ms s1 =>
    rw [ea] at k
    intro vs H1 α1 r1 t1 rv
    match ms, rv with
    | [], _ => exact k.elim
    | [_], _ => exact k.elim
    | [a, b], rv =>
      obtain ⟨v, r2, rfl, q2, m2⟩ := mv_set i r1 rv
      obtain ⟨w, r3, rfl, q3, m3⟩ := mv_set j q2 m2
      simp only [MVs] at m3
      subst m3
      exact ⟨v, w, rfl, k _ H1 α1 q3 t1⟩
    | _ :: _ :: _ :: _, _ => exact k.elim
theorem sd_parM3 {es : List Expr} {st : Stmt} {i j l : Nat} {fm : FM} (hp : ∀ ta, PA X es ta → PS X st (tPar3 i j l ta)) (ha : PMD X es fm) : PSD X st (dParM3 i j l fm) := by
  refine ⟨fun W tk => ?_⟩
  obtain ⟨t, p, q⟩ := ha.run W tk
  refine ⟨_, hp t p, fun H0 α0 σ H α s D r k => q H0 α0 σ H α s _ r ?_⟩
  unfold dParM3 at k
  cases ea : fm s with
  | bad => rw [ea] at k; exact k.elim
  | exc e s1 => rw [ea] at k; exact fun cls dd H' α' r' x => k cls dd σ H' α' r' x
  | ok ms s1 =>
    rw [ea] at k
    intro vs H1 α1 r1 t1 rv
    match ms, rv with
    | [], _ => exact k.elim
    | [_], _ => exact k.elim
    | [_, _], _ => exact k.elim
    | [a, b, c], rv =>
      obtain ⟨v, r2, rfl, q2, m2⟩ := mv_set i r1 rv
      obtain ⟨w, r3, rfl, q3, m3⟩ := mv_set j q2 m2
      obtain ⟨u, r4, rfl, q4, m4⟩ := mv_set l q3 m3
      simp only [MVs] at m4
      subst m4
      exact ⟨v, w, u, rfl, k _ H1 α1 q4 t1⟩
    | _ :: _ :: _ :: _ :: _, _ => exact k.elim
end
end DL

namespace DL
open PySem PySem.Spec PyProof.Rows L2
/-! ### 41. A list of one's own, lent to a call: it stands still while the call runs -/
mutual
def nL : D → Bool
  | .tup xs => nLs xs
  | .lst _ => false
  | .dct kvs => nLk kvs
  | .obj _ _ => false
  | .own _ => false
  | _ => true
def nLs : List D → Bool
  | [] => true
  | x :: xs => nL x && nLs xs
def nLk : List (D × D) → Bool
  | [] => true
  | (_, x) :: xs => nL x && nLk xs
end
def nLc : Cell → Bool
  | .lst xs => nLs xs
  | .dct kvs => nLk kvs
  | _ => false
def nLl : Slot → Bool
  | .no => true
  | .val d => nL d
  | .own c => nLc c
def isVL : Option Slot → Bool | some (.val (.lst _)) => true | _ => false
def dLend (i : Nat) (f : FE) : FE := fun s => match s.δ[i]? with
  | some (.own (.lst xs)) => (match f { s with δ := s.δ.set i (.val (.lst xs)) } with
    | .ok d s1 => if nL d && s1.μ.all nLc && (s1.δ.set i .no).all nLl && isVL (s1.δ[i]?) then .ok d { s1 with δ := s1.δ.set i (.own (.lst xs)) } else .bad
    | _ => .bad)
  | _ => .bad
variable [DLX]
section
variable {K : PySem.W.Frag} {H : Hp} {α : List Addr} {a : Addr} {o0 : Obj} {vs0 : List V} {u : HO}
mutual
theorem Rv.thaw (hA : H a = some (.frz o0 (.lst vs0))) : ∀ (d : D) (v : V), nL d = true → Rv K H α d v → Rv K (upd H a u) α d v
  | .non, v, _, h => by simp only [Rv] at h ⊢; exact h
  | .bl b, v, _, h => by simp only [Rv] at h ⊢; exact h
  | .int i, v, _, h => by simp only [Rv] at h ⊢; exact h
  | .str x, v, _, h => by simp only [Rv] at h ⊢; exact h
  | .adr x, v, _, h => by simp only [Rv] at h ⊢; exact h
  | .fn x, v, _, h => by simp only [Rv] at h ⊢; exact h
  | .ty x, v, _, h => by simp only [Rv] at h ⊢; exact h
  | .ref n, v, _, h => by simp only [Rv] at h ⊢; exact h
  | .own n, v, n1, _ => by simp [nL] at n1
  | .lst xs, v, n1, _ => by simp [nL] at n1
  | .obj C fs, v, n1, _ => by simp [nL] at n1
  | .tup xs, v, n1, h => by
    simp only [Rv] at h ⊢
    obtain ⟨b, vs, h1, h2, h3⟩ := h
    refine ⟨b, vs, h1, ?_, Rvs.thaw hA xs vs (by simpa [nL] using n1) h3⟩
    rcases h2 with (h2 | ⟨o, h2⟩) | h2
    · exact .inl (.inl (by rw [upd_ne (fun z => by subst z; rw [hA] at h2; cases h2)]; exact h2))
    · exact .inl (.inr ⟨o, by rw [upd_ne (fun z => by subst z; rw [hA] at h2; cases h2)]; exact h2⟩)
    · exact .inr h2
  | .dct kvs, v, n1, h => by
    simp only [Rv] at h ⊢
    have n2 : nLk kvs = true := by simpa [nL] using n1
    obtain ⟨b, o, h1, ⟨kv, h2, h3⟩ | ⟨kv, h4, h2, h3⟩⟩ := h
    · exact ⟨b, o, h1, .inl ⟨kv, by rw [upd_ne (fun z => by subst z; rw [hA] at h2; cases h2)]; exact h2, Rkv.thaw hA kvs kv n2 h3⟩⟩
    · exact ⟨b, o, h1, .inr ⟨kv, h4, by rw [upd_ne (fun z => by subst z; rw [hA] at h2; cases h2)]; exact h2, RkT.thaw hA kvs kv n2 h3⟩⟩
theorem Rvs.thaw (hA : H a = some (.frz o0 (.lst vs0))) : ∀ (ds : List D) (vs : List V), nLs ds = true → Rvs K H α ds vs → Rvs K (upd H a u) α ds vs
  | [], vs, _, h => by simp only [Rvs] at h ⊢; exact h
  | d :: ds, vs, n1, h => by
    simp only [Rvs] at h ⊢
    simp only [nLs, Bool.and_eq_true] at n1
    obtain ⟨v, r, h1, h2, h3⟩ := h
    exact ⟨v, r, h1, Rv.thaw hA d v n1.1 h2, Rvs.thaw hA ds r n1.2 h3⟩
theorem Rkv.thaw (hA : H a = some (.frz o0 (.lst vs0))) : ∀ (ds : List (D × D)) (vs : List (Key × V)), nLk ds = true → Rkv K H α ds vs → Rkv K (upd H a u) α ds vs
  | [], vs, _, h => by simp only [Rkv] at h ⊢; exact h
  | (k, d) :: ds, vs, n1, h => by
    simp only [Rkv] at h ⊢
    simp only [nLk, Bool.and_eq_true] at n1
    obtain ⟨q, v, r, h1, h0, h2, h3⟩ := h
    exact ⟨q, v, r, h1, h0, Rv.thaw hA d v n1.1 h2, Rkv.thaw hA ds r n1.2 h3⟩
theorem RkT.thaw (hA : H a = some (.frz o0 (.lst vs0))) : ∀ (ds : List (D × D)) (vs : List (List Key × V)), nLk ds = true → RkT K H α ds vs → RkT K (upd H a u) α ds vs
  | [], vs, _, h => by simp only [RkT] at h ⊢; exact h
  | (k, d) :: ds, vs, n1, h => by
    simp only [RkT] at h ⊢
    simp only [nLk, Bool.and_eq_true] at n1
    obtain ⟨q, v, r, h1, h0, h2, h3⟩ := h
    exact ⟨q, v, r, h1, h0, Rv.thaw hA d v n1.1 h2, RkT.thaw hA ds r n1.2 h3⟩
end
theorem cellThaw (hA : H a = some (HO.frz o0 (HO.lst vs0))) {b : Addr} {c : Cell} (n : nLc c = true) (h : CellOk K H α b c) : b ≠ a ∧ CellOk K (upd H a u) α b c := by
  cases c with
  | lst xs =>
    obtain ⟨vs, h1, h2⟩ := h
    have e : b ≠ a := fun z => by subst z; rw [hA] at h1; cases h1
    exact ⟨e, vs, by rw [upd_ne e]; exact h1, Rvs.thaw hA xs vs n h2⟩
  | dct kvs =>
    rcases h with ⟨kv, h1, h2⟩ | ⟨kv, nn, h1, h2⟩
    · have e : b ≠ a := fun z => by subst z; rw [hA] at h1; cases h1
      exact ⟨e, .inl ⟨kv, by rw [upd_ne e]; exact h1, Rkv.thaw hA kvs kv n h2⟩⟩
    · have e : b ≠ a := fun z => by subst z; rw [hA] at h1; cases h1
      exact ⟨e, .inr ⟨kv, nn, by rw [upd_ne e]; exact h1, RkT.thaw hA kvs kv n h2⟩⟩
  | ins _ _ => cases n
  | tab _ => cases n
  | dead => cases n
theorem Rx.thaw (hA : H a = some (.frz o0 (.lst vs0))) {σ : Sg} {d : D} {v : V} (n : nL d = true) (h : Rx K H α σ d v) : Rx K (upd H a u) α σ d v :=
  Rv.x (Rv.thaw hA d v n (h.rv fun i z => by subst z; simp [nL] at n))
end
section
variable {X : Cx}
theorem pd_lend (i : Nat) {e : Expr} {f : FE} (h : PED X e f) : PED X e (dLend i f) := by
  refine ⟨fun W tk => ?_⟩
  obtain ⟨t, p, q⟩ := h.run W tk
  refine ⟨_, pe_lock p, fun H0 α0 σ H α s Q r k => ?_⟩
  unfold dLend at k
  split at k
  case h_2 => exact k.elim
  rename_i xs hi
  obtain ⟨a, h1, h2, h3⟩ := r.giveUp hi
  have hcell := h3.1
  have na := h3.2.1
  have n0 := h3.2.2.1
  obtain ⟨vs, hv, rr⟩ := hcell
  refine ⟨a, .lst vs, hv, trivial, fun od => ?_⟩
  obtain ⟨u, hu, mu, kk⟩ := h2.frz h3 (fun z => nomatch z) (fun n z => nomatch z)
  rw [hv] at hu
  cases hu
  obtain ⟨r2, t2, rv⟩ := kk od
  have r3 := r2.setV (i := i) rv
  have es : σ.set i (some (.ref a)) = σ := by
    apply List.ext_getElem?
    intro j
    by_cases hj : i = j
    · subst hj
      rw [h1, List.getElem?_set_self (List.getElem?_eq_some_iff.mp h1).1]
    · rw [List.getElem?_set_ne hj]
  rw [es] at r3
  simp only [List.set_set] at r3
  refine q H0 α0 σ _ α _ _ r3 ?_
  cases ef : f { s with δ := s.δ.set i (.val (Cell.lst xs).toD) } with
  | bad => rw [show (Cell.lst xs).toD = D.lst xs from rfl] at ef; rw [ef] at k; exact k.elim
  | exc e s1 => rw [show (Cell.lst xs).toD = D.lst xs from rfl] at ef; rw [ef] at k; exact k.elim
  | ok d s1 =>
    rw [show (Cell.lst xs).toD = D.lst xs from rfl] at ef
    rw [ef] at k
    simp only at k
    split at k
    case isFalse => exact k.elim
    rename_i hc
    simp only [Bool.and_eq_true, List.all_eq_true] at hc
    obtain ⟨⟨⟨c1, c2⟩, c3⟩, c4⟩ := hc
    intro v H' α' r' t' rx
    have hA : H' a = some (.frz od (.lst vs)) := t'.im a _ upd_same trivial
    refine ⟨hA, k v _ α' ?_ ?_ (Rx.thaw hA c1 rx)⟩
    · have st0 : Stay H0 α0 (upd H' a (.lst vs)) α' := ⟨fun b o hb fb => by
        rw [upd_ne (fun z => by subst z; rw [n0] at hb; cases hb)]; exact r'.st.im b o hb fb, r'.st.pre, fun b hb => by
        by_cases e : b = a
        · subst e; exact n0
        · rw [upd_ne e] at hb; exact r'.st.dom b hb⟩
      have stH : Stay H α (upd H' a (.lst vs)) α' := ⟨fun b o hb fb => by
        by_cases e : b = a
        · subst e; rw [hv] at hb; cases hb; exact fb.elim
        · rw [upd_ne e]; exact t'.im b o (by rw [upd_ne e]; exact hb) fb, t'.pre, fun b hb => by
        by_cases e : b = a
        · subst e; rw [upd_same] at hb; cases hb
        · rw [upd_ne e] at hb; have := t'.dom b hb; rwa [upd_ne e] at this⟩
      have hmem : ∀ b c n, α'[n]? = some b → s1.μ[n]? = some c → b ≠ a ∧ CellOk X.K (upd H' a (.lst vs)) α' b c := fun b c n e1 e2 =>
        cellThaw hA (c2 c (List.mem_of_getElem? e2)) (r'.cells.at_ n b c e1 e2)
      have na' : a ∉ α' := fun z => by
        obtain ⟨n, hn, e⟩ := List.getElem_of_mem z
        have e1 : α'[n]? = some a := by rw [List.getElem?_eq_getElem hn, e]
        have hn2 : n < s1.μ.length := by rw [← r'.cells.len]; exact hn
        exact (hmem a _ n e1 (List.getElem?_eq_getElem hn2)).1 rfl
      have hs : ∀ j sl, i ≠ j → s1.δ[j]? = some sl → nLl sl = true := fun j sl ne e => c3 sl (List.mem_of_getElem? (i := j) (by rw [List.getElem?_set_ne ne]; exact e))
      have ow : ∀ j c, i ≠ j → s1.δ[j]? = some (.own c) → ∃ b, σ[j]? = some (some (.ref b)) ∧ b ∉ α' ∧ H0 b = none ∧ b ≠ a ∧ CellOk X.K (upd H' a (.lst vs)) α' b c := fun j c ne e => by
        obtain ⟨b, e1, e2, e3, e4⟩ := r'.slots.own j c e
        obtain ⟨e5, e6⟩ := cellThaw (u := .lst vs) hA (hs j _ ne e) e4
        exact ⟨b, e1, e2, e3, e5, e6⟩
      refine ⟨⟨r'.cells.len, r'.cells.nd, fun n b c e1 e2 => (hmem b c n e1 e2).2⟩, ⟨by simpa using r'.slots.len, fun j d' e => ?_, fun j c e => ?_, fun j l c c' b e1 e2 e3 e4 => ?_⟩, fun b o e1 e2 => ?_, r'.nw, st0⟩
      · rcases get_set e with ⟨_, e, _⟩ | ⟨ne, e⟩
        · cases e
        · obtain ⟨v', e1, e2⟩ := r'.slots.val j d' e
          exact ⟨v', e1, Rv.thaw hA d' v' (hs j _ ne e) e2⟩
      · rcases get_set e with ⟨rfl, e, _⟩ | ⟨ne, e⟩
        · cases e
          exact ⟨a, h1, na', n0, vs, upd_same, Rvs.stay stH _ _ rr⟩
        · obtain ⟨b, e1, e2, e3, _, e5⟩ := ow j c ne e
          exact ⟨b, e1, e2, e3, e5⟩
      · rcases get_set e1 with ⟨rfl, _, _⟩ | ⟨ne, e1⟩
        · rcases get_set e2 with ⟨rfl, _, _⟩ | ⟨ne2, e2⟩
          · rfl
          · obtain ⟨b', z1, _, _, z2, _⟩ := ow l c' ne2 e2
            rw [h1] at e3; cases e3
            rw [z1] at e4; cases e4
            exact absurd rfl z2
        · rcases get_set e2 with ⟨rfl, _, _⟩ | ⟨ne2, e2⟩
          · obtain ⟨b', z1, _, _, z2, _⟩ := ow j c ne e1
            rw [h1] at e4; cases e4
            rw [z1] at e3; cases e3
            exact absurd rfl z2
          · exact r'.slots.inj j l c c' b e1 e2 e3 e4
      · rw [upd_ne (fun z => by subst z; rw [n0] at e1; cases e1)]
        exact r'.ot b o e1 e2
    · exact ⟨fun b o hb fb => by
        by_cases e : b = a
        · subst e; rw [hv] at hb; cases hb; exact fb.elim
        · rw [upd_ne e]; exact t'.im b o (by rw [upd_ne e]; exact hb) fb, t'.pre, fun b hb => by
        by_cases e : b = a
        · subst e; rw [upd_same] at hb; cases hb
        · rw [upd_ne e] at hb; have := t'.dom b hb; rwa [upd_ne e] at this⟩
end
end DL

namespace K11
open PySem PySem.Spec PyProof.Rows L2 DL
def b_is_integer : FS := (dRet (dAndV (dB gIsi (dCons (dVar 0) (dCons (dC (.ty "int")) dNil))) (dNotV (dB gIsi (dCons (dVar 0) (dCons (dC (.ty "bool")) dNil))))))
def F_is_integer : FF := runF b_is_integer 1
def b_require_width : FS := (dIfS (dOrT (dNotT (dTruth (dCall F_is_integer (dCons (dVar 0) dNil)))) (dNotT (dChainT gLe gLe (dC (.int (1))) (dVar 0) (dC (.int (60)))))) (fun _ => .bad) dSkip)
def F_require_width : FF := runF b_require_width 1
def b_lead_in : FS := (dSeq (dForI (dIterEn (dCons (dVar 0) dNil)) (gT (gC (gNm 1) (gC (gNm 2) gN))) (dIfS (dCmpT neS (dVar 2) (dC (.int (0)))) (dRet (dVar 1)) dSkip))
    (dRet (dC .non)))
def F_lead_in : FF := runF b_lead_in 3
def b_common_share (n0 : Nat) : FS := (dSeq (dWhile (dCmpT neS (dVar 1) (dC (.int (0)))) (dPar 0 1 (dCons (dVar 1) (dCons (dOp gMod (dVar 0) (dVar 1)) dNil))) n0)
    (dRet (dB gAbs (dCons (dVar 0) dNil))))
def fu0_common_share (ds : List D) (μ : List Cell) : Nat := match ds with | [_, .int b] => b.natAbs + 1 | _ => 0
def F_common_share : FF := fun ds μ => runF (b_common_share (fu0_common_share ds μ)) 2 ds μ
def b_lowest_row : FS := (dSeq (dAsg 1 (dC (.int (0))))
    (dSeq (dForI (dIter (dVar 0)) (gNm 2) (dAsg 1 (dCall F_common_share (dCons (dVar 1) (dCons (dVar 2) dNil)))))
    (dSeq (dIfS (dCmpT eqS (dVar 1) (dC (.int (0)))) (dRet (dB gTuple (dCons (dVar 0) dNil))) dSkip)
    (dSeq (dIfS (dCmpT gLt (dOp gIx (dVar 0) (dCall F_lead_in (dCons (dVar 0) dNil))) (dC (.int (0)))) (dAsg 1 (dOp gSub (dC (.int (0))) (dVar 1))) dSkip)
    (dRet (dB gTuple (dCons (dFrz (dLc [2] (dIter (dVar 0)) (gNm 2) dYes (dOp gFdiv (dVar 2) (dVar 1)))) dNil)))))))
def F_lowest_row : FF := runF b_lowest_row 3
def b_less_by : FS := (dSeq (dAsg 2 (dCall F_lead_in (dCons (dVar 1) dNil)))
    (dSeq (dIfS (dCmpT eqS (dOp gIx (dVar 0) (dVar 2)) (dC (.int (0)))) (dRet (dVar 0)) dSkip)
    (dRet (dB gTuple (dCons (dFrz (dLc [3, 4] (dIterZp (dCons (dVar 0) (dCons (dVar 1) dNil))) (gT (gC (gNm 3) (gC (gNm 4) gN))) dYes (dOp gSub (dOp gMul (dOp gIx (dVar 1) (dVar 2)) (dVar 3)) (dOp gMul (dOp gIx (dVar 0) (dVar 2)) (dVar 4))))) dNil)))))
def F_less_by : FF := runF b_less_by 5
def b_rest_by : FS := (dSeq (dForI (dIter (dVar 0)) (gNm 2) (dAsg 1 (dCall F_less_by (dCons (dVar 1) (dCons (dVar 2) dNil)))))
    (dRet (dVar 1)))
def F_rest_by : FF := runF b_rest_by 3
def b_with_row : FS := (dSeq (dAsg 2 (dCall F_lowest_row (dCons (dCall F_rest_by (dCons (dVar 0) (dCons (dVar 1) dNil))) dNil)))
    (dSeq (dIfS (dCmpT isN (dCall F_lead_in (dCons (dVar 2) dNil)) (dC .non)) (dRet (dVar 0)) dSkip)
    (dSeq (dAsg 3 (dOp gAdd (dFrz (dLc [4] (dIter (dVar 0)) (gNm 4) dYes (dCall F_lowest_row (dCons (dCall F_less_by (dCons (dVar 4) (dCons (dVar 2) dNil))) dNil)))) (dFrz (dLst (dCons (dVar 2) dNil)))))
    (dRet (dB gTuple (dCons (dFrz (dSortKey F_lead_in (dVar 3))) dNil))))))
def F_with_row : FF := runF b_with_row 5
def b_lot_in : FS := (dSeq (dAsg 1 (dTup dNil))
    (dSeq (dForI (dIter (dVar 0)) (gNm 2) (dAsg 1 (dCall F_with_row (dCons (dVar 1) (dCons (dVar 2) dNil)))))
    (dRet (dVar 1))))
def F_lot_in : FF := runF b_lot_in 3
def b_is_plain_row : FS := (dRet (dAndV (dB gIsi (dCons (dVar 1) (dCons (dC (.ty "tuple")) dNil))) (dAndV (dOp eqS (dB gLen (dCons (dVar 1) dNil)) (dVar 0)) (dB gAll (dCons (dFrz (dLc [2] (dIter (dVar 1)) (gNm 2) dYes (dCall F_is_integer (dCons (dVar 2) dNil)))) dNil)))))
def F_is_plain_row : FF := runF b_is_plain_row 3
def b_require_rows : FS := (dIfS (dOrT (dNotT (dTruth (dB gIsi (dCons (dVar 1) (dCons (dC (.ty "tuple")) dNil))))) (dNotT (dTruth (dB gAll (dCons (dFrz (dLc [2] (dIter (dVar 1)) (gNm 2) dYes (dCall F_is_plain_row (dCons (dVar 0) (dCons (dVar 2) dNil))))) dNil))))) (fun _ => .bad) dSkip)
def F_require_rows : FF := runF b_require_rows 3
def b_lot_of : FS := (dSeq (dDrop (dCall F_require_width (dCons (dVar 0) dNil)))
    (dSeq (dDrop (dCall F_require_rows (dCons (dVar 0) (dCons (dVar 1) dNil))))
    (dRet (dCall F_lot_in (dCons (dVar 1) dNil)))))
def F_lot_of : FF := runF b_lot_of 2
def b_does_hold : FS := (dRet (dOp isN (dCall F_lead_in (dCons (dCall F_rest_by (dCons (dVar 0) (dCons (dVar 1) dNil))) dNil)) (dC .non)))
def F_does_hold : FF := runF b_does_hold 2
def b_require_row : FS := (dIfS (dNotT (dTruth (dCall F_is_plain_row (dCons (dVar 0) (dCons (dVar 1) dNil))))) (fun _ => .bad) dSkip)
def F_require_row : FF := runF b_require_row 2
def b_is_plain_lot : FS := (dSeq (dIfS (dOrT (dNotT (dTruth (dB gIsi (dCons (dVar 1) (dCons (dC (.ty "tuple")) dNil))))) (dNotT (dTruth (dB gAll (dCons (dFrz (dLc [2] (dIter (dVar 1)) (gNm 2) dYes (dCall F_is_plain_row (dCons (dVar 0) (dCons (dVar 2) dNil))))) dNil))))) (dRet (dC (.bl false))) dSkip)
    (dSeq (dAsg 3 (dNeg (dC (.int (1)))))
    (dSeq (dForI (dIterEn (dCons (dVar 1) dNil)) (gT (gC (gNm 4) (gC (gNm 2) gN))) (dSeq (dAsg 5 (dCall F_lead_in (dCons (dVar 2) dNil)))
    (dSeq (dIfS (dOrT (dCmpT isN (dVar 5) (dC .non)) (dOrT (dCmpT gLe (dVar 5) (dVar 3)) (dCmpT neS (dCall F_lowest_row (dCons (dVar 2) dNil)) (dVar 2)))) (dRet (dC (.bl false))) dSkip)
    (dSeq (dIfS (dTruth (dB gAny (dCons (dFrz (dLc [6, 7] (dIterEn (dCons (dVar 1) dNil)) (gT (gC (gNm 6) (gC (gNm 7) gN))) (dCmpT neS (dVar 6) (dVar 4)) (dOp neS (dOp gIx (dVar 7) (dVar 5)) (dC (.int (0)))))) dNil))) (dRet (dC (.bl false))) dSkip)
    (dAsg 3 (dVar 5))))))
    (dRet (dC (.bl true))))))
def F_is_plain_lot : FF := runF b_is_plain_lot 8
def b_require_lot : FS := (dIfS (dNotT (dTruth (dCall F_is_plain_lot (dCons (dVar 0) (dCons (dVar 1) dNil))))) (fun _ => .bad) dSkip)
def F_require_lot : FF := runF b_require_lot 2
def b_holds : FS := (dSeq (dDrop (dCall F_require_width (dCons (dVar 0) dNil)))
    (dSeq (dDrop (dCall F_require_lot (dCons (dVar 0) (dCons (dVar 1) dNil))))
    (dSeq (dDrop (dCall F_require_row (dCons (dVar 0) (dCons (dVar 2) dNil))))
    (dRet (dCall F_does_hold (dCons (dVar 1) (dCons (dVar 2) dNil)))))))
def F_holds : FF := runF b_holds 3
def b_apart_in : FS := (dSeq (dParM3 3 4 5 (dMv (dFrz (dLc [2] (dIter (dVar 1)) (gNm 2) dYes (dCall F_lead_in (dCons (dVar 2) dNil)))) (dMv (dC (.int (1))) (dMc (dLst dNil) dMn))))
    (dSeq (dForI (dIterZp (dCons (dVar 3) (dCons (dVar 1) dNil))) (gT (gC (gNm 6) (gC (gNm 2) gN))) (dAsg 4 (dOp gMul (dVar 4) (dOp gIx (dVar 2) (dVar 6)))))
    (dSeq (dFrzS 5 (dForI (dRng1 (dCons (dVar 0) dNil)) (gNm 7) (dIfS (dCmpT (gDat niG) (dVar 7) (dVar 3)) (dSeq (dAsgO 8 (dRepF (dLst (dCons (dC (.int (0))) dNil)) (dVar 0)))
    (dSeq (dSetI gSetI (dVar 4) (dVar 8) (dVar 7))
    (dSeq (dForI (dIterZp (dCons (dVar 3) (dCons (dVar 1) dNil))) (gT (gC (gNm 6) (gC (gNm 2) gN))) (dSetI gSetI (dOp gSub (dC (.int (0))) (dOp gMul (dOp gIx (dVar 2) (dVar 7)) (dOp gFdiv (dVar 4) (dOp gIx (dVar 2) (dVar 6))))) (dVar 8) (dVar 6)))
    (dDrop (dM "list" gAppend (dVar 5) (dCons (dB gTuple (dCons (dVar 8) dNil)) dNil)))))) dSkip)))
    (dRet (dCall F_lot_in (dCons (dVar 5) dNil))))))
def F_apart_in : FF := runF b_apart_in 9
def b_require_two_lots : FS := (dSeq (dDrop (dCall F_require_width (dCons (dVar 0) dNil)))
    (dSeq (dDrop (dCall F_require_lot (dCons (dVar 0) (dCons (dVar 1) dNil))))
    (dDrop (dCall F_require_lot (dCons (dVar 0) (dCons (dVar 2) dNil))))))
def F_require_two_lots : FF := runF b_require_two_lots 3
def b_met_lots : FS := (dSeq (dDrop (dCall F_require_two_lots (dCons (dVar 0) (dCons (dVar 1) (dCons (dVar 2) dNil)))))
    (dRet (dCall F_apart_in (dCons (dVar 0) (dCons (dCall F_lot_in (dCons (dOp gAdd (dCall F_apart_in (dCons (dVar 0) (dCons (dVar 1) dNil))) (dCall F_apart_in (dCons (dVar 0) (dCons (dVar 2) dNil)))) dNil)) dNil)))))
def F_met_lots : FF := runF b_met_lots 3
def b_rows_apart : FS := (dSeq (dDrop (dCall F_require_width (dCons (dVar 0) dNil)))
    (dSeq (dDrop (dCall F_require_lot (dCons (dVar 0) (dCons (dVar 1) dNil))))
    (dRet (dCall F_apart_in (dCons (dVar 0) (dCons (dVar 1) dNil))))))
def F_rows_apart : FF := runF b_rows_apart 2
def b_L_dice : FS := (dSeq (dAsg 2 (dIf (dCmpT gLt (dVar 1) (dB gLen (dCons (dVar 0) dNil))) (dB gInt (dCons (dOp gIx (dVar 0) (dVar 1)) dNil)) (dOp gAdd (dOp gMul (dC (.int (131))) (dVar 1)) (dC (.int (37))))))
    (dSeq (dAsg 3 (dOp gMod (dB gInt (dCons (dB gAbs (dCons (dVar 2) dNil)) dNil)) (dOp gPow (dOp gPow (dC (.int (10))) (dC (.int (53)))) (dC (.int (6))))))
    (dSeq (dAsg 4 (dOp gAdd (dOp gAdd (dOp gAdd (dOp gMul (dOp gMod (dVar 3) (dC (.int (2305843009213693907)))) (dC (.int (73)))) (dOp gMul (dC (.int (619))) (dVar 1))) (dOp gMul (dC (.int (41))) (dB gInt (dCons (dOp gLt (dVar 2) (dC (.int (0)))) dNil)))) (dC (.int (17)))))
    (dRetF (dLst (dCons (dB gMax2 (dCons (dC (.int (0))) (dCons (dOp gSub (dVar 3) (dOp gPow (dC (.int (10))) (dC (.int (16))))) dNil))) (dCons (dVar 4) (dCons (dC (.int (0))) dNil))))))))
def F_L_dice : FF := runF b_L_dice 5
def b_L_roll : FS := (dSeq (dIfS (dCmpT gGt (dOp gIx (dVar 0) (dC (.int (0)))) (dC (.int (0)))) (dSeq (dAsg 2 (dOp gMod (dOp gIx (dVar 0) (dC (.int (0)))) (dVar 1)))
    (dSeq (dSetI gSetI (dOp gFdiv (dOp gIx (dVar 0) (dC (.int (0)))) (dVar 1)) (dVar 0) (dC (.int (0))))
    (dRet (dB gInt (dCons (dVar 2) dNil))))) dSkip)
    (dSeq (dSetI gSetI (dOp gAdd (dOp gIx (dVar 0) (dC (.int (2)))) (dC (.int (1)))) (dVar 0) (dC (.int (2))))
    (dSeq (dAsg 3 (dOp gMod (dOp gAdd (dOp gIx (dVar 0) (dC (.int (1)))) (dOp gMul (dC (.int (49979687))) (dOp gIx (dVar 0) (dC (.int (2)))))) (dC (.int (2305843009213693951)))))
    (dSeq (dAsg 4 (dOp gAdd (dOp gMul (dOp gMod (dOp gAdd (dOp gMul (dVar 3) (dVar 3)) (dOp gMul (dC (.int (131))) (dOp gIx (dVar 0) (dC (.int (2)))))) (dC (.int (2305843009213693921)))) (dC (.int (32452843)))) (dVar 3)))
    (dRet (dOp gMod (dB gInt (dCons (dOp gFdiv (dVar 4) (dC (.int (65587)))) dNil)) (dVar 1)))))))
def F_L_roll : FF := runF b_L_roll 5
def b_L_lead : FS := (dRet (dB gMin (dCons (dOp gAdd (dFrz (dLc [1, 2] (dIterEn (dCons (dVar 0) dNil)) (gT (gC (gNm 1) (gC (gNm 2) gN))) (dCmpT neS (dVar 2) (dC (.int (0)))) (dVar 1))) (dFrz (dLst (dCons (dB gLen (dCons (dVar 0) dNil)) dNil)))) dNil)))
def F_L_lead : FF := runF b_L_lead 3
def b_L_gcd (n0 : Nat) : FS := (dSeq (dWhile (dCmpT neS (dVar 1) (dC (.int (0)))) (dPar 0 1 (dCons (dVar 1) (dCons (dOp gMod (dVar 0) (dVar 1)) dNil))) n0)
    (dRet (dB gAbs (dCons (dVar 0) dNil))))
def fu0_L_gcd (ds : List D) (μ : List Cell) : Nat := match ds with | [_, .int b] => b.natAbs + 1 | _ => 0
def F_L_gcd : FF := fun ds μ => runF (b_L_gcd (fu0_L_gcd ds μ)) 2 ds μ
def b_L_lowest : FS := (dSeq (dAsg 1 (dC (.int (0))))
    (dSeq (dForI (dIter (dVar 0)) (gNm 2) (dAsg 1 (dCall F_L_gcd (dCons (dVar 1) (dCons (dVar 2) dNil)))))
    (dSeq (dIfS (dCmpT eqS (dVar 1) (dC (.int (0)))) (dRet (dB gTuple (dCons (dVar 0) dNil))) dSkip)
    (dSeq (dAsg 3 (dIf (dCmpT gGt (dOp gIx (dVar 0) (dCall F_L_lead (dCons (dVar 0) dNil))) (dC (.int (0)))) (dC (.int (1))) (dNeg (dC (.int (1))))))
    (dRet (dB gTuple (dCons (dFrz (dLc [2] (dIter (dVar 0)) (gNm 2) dYes (dOp gMul (dVar 3) (dOp gFdiv (dVar 2) (dVar 1))))) dNil)))))))
def F_L_lowest : FF := runF b_L_lowest 4
def b_L_less : FS := (dSeq (dAsg 2 (dCall F_L_lead (dCons (dVar 1) dNil)))
    (dSeq (dIfS (dCmpT eqS (dOp gIx (dVar 0) (dVar 2)) (dC (.int (0)))) (dRet (dVar 0)) dSkip)
    (dRet (dB gTuple (dCons (dFrz (dLc [3, 4] (dIterZp (dCons (dVar 0) (dCons (dVar 1) dNil))) (gT (gC (gNm 3) (gC (gNm 4) gN))) dYes (dOp gSub (dOp gMul (dOp gIx (dVar 1) (dVar 2)) (dVar 3)) (dOp gMul (dOp gIx (dVar 0) (dVar 2)) (dVar 4))))) dNil)))))
def F_L_less : FF := runF b_L_less 5
def b_L_with_row : FS := (dSeq (dForI (dIter (dVar 0)) (gNm 2) (dAsg 1 (dCall F_L_less (dCons (dVar 1) (dCons (dVar 2) dNil)))))
    (dSeq (dIfS (dCmpT eqS (dCall F_L_lead (dCons (dVar 1) dNil)) (dB gLen (dCons (dVar 1) dNil))) (dRet (dVar 0)) dSkip)
    (dSeq (dAsg 1 (dCall F_L_lowest (dCons (dVar 1) dNil)))
    (dSeq (dAsg 3 (dOp gAdd (dFrz (dLc [2] (dIter (dVar 0)) (gNm 2) dYes (dCall F_L_lowest (dCons (dCall F_L_less (dCons (dVar 2) (dCons (dVar 1) dNil))) dNil)))) (dFrz (dLst (dCons (dVar 1) dNil)))))
    (dRet (dB gTuple (dCons (dFrz (dLc [4] (dIter (dFrz (dBF gSorted (dCons (dFrz (dLc [5] (dIter (dVar 3)) (gNm 5) dYes (dTup (dCons (dCall F_L_lead (dCons (dVar 5) dNil)) (dCons (dVar 5) dNil))))) dNil)))) (gNm 4) dYes (dOp gIx (dVar 4) (dC (.int (1)))))) dNil)))))))
def F_L_with_row : FF := runF b_L_with_row 6
def b_L_lot : FS := (dSeq (dAsg 1 (dTup dNil))
    (dSeq (dForI (dIter (dVar 0)) (gNm 2) (dAsg 1 (dCall F_L_with_row (dCons (dVar 1) (dCons (dVar 2) dNil)))))
    (dRet (dVar 1))))
def F_L_lot : FF := runF b_L_lot 3
def b_L_units : FS := (dRetF (dLc [1] (dRng1 (dCons (dVar 0) dNil)) (gNm 1) dYes (dB gTuple (dCons (dFrz (dLc [2] (dRng1 (dCons (dVar 0) dNil)) (gNm 2) dYes (dB gInt (dCons (dOp eqS (dVar 2) (dVar 1)) dNil)))) dNil))))
def F_L_units : FF := runF b_L_units 3
def b_joined_lots : FS := (dSeq (dDrop (dCall F_require_two_lots (dCons (dVar 0) (dCons (dVar 1) (dCons (dVar 2) dNil)))))
    (dRet (dCall F_lot_in (dCons (dOp gAdd (dVar 1) (dVar 2)) dNil))))
def F_joined_lots : FF := runF b_joined_lots 3
def b_L_dot : FS := (dRet (dB gSum (dCons (dFrz (dLc [2, 3] (dIterZp (dCons (dVar 0) (dCons (dVar 1) dNil))) (gT (gC (gNm 2) (gC (gNm 3) gN))) dYes (dOp gMul (dVar 2) (dVar 3)))) dNil)))
def F_L_dot : FF := runF b_L_dot 4
def b_L_holds : FS := (dSeq (dForI (dIter (dVar 0)) (gNm 2) (dAsg 1 (dCall F_L_less (dCons (dVar 1) (dCons (dVar 2) dNil)))))
    (dRet (dOp eqS (dCall F_L_lead (dCons (dVar 1) dNil)) (dB gLen (dCons (dVar 1) dNil)))))
def F_L_holds : FF := runF b_L_holds 3
def b_L_apart : FS := (dSeq (dParM 3 4 (dMv (dFrz (dLc [2] (dIter (dVar 0)) (gNm 2) dYes (dCall F_L_lead (dCons (dVar 2) dNil)))) (dMc (dLst dNil) dMn)))
    (dSeq (dFrzS 4 (dForI (dRng1 (dCons (dVar 1) dNil)) (gNm 5) (dIfS (dCmpT (gDat niG) (dVar 5) (dVar 3)) (dSeq (dAsg 6 (dC (.int (1))))
    (dSeq (dForI (dIter (dVar 0)) (gNm 2) (dAsg 6 (dOp gMul (dVar 6) (dOp gIx (dVar 2) (dCall F_L_lead (dCons (dVar 2) dNil))))))
    (dSeq (dAsgO 7 (dRepF (dLst (dCons (dC (.int (0))) dNil)) (dVar 1)))
    (dSeq (dSetI gSetI (dVar 6) (dVar 7) (dVar 5))
    (dSeq (dForI (dIter (dVar 0)) (gNm 2) (dSetI gSetI (dOp gSub (dC (.int (0))) (dOp gMul (dOp gIx (dVar 2) (dVar 5)) (dOp gFdiv (dVar 6) (dOp gIx (dVar 2) (dCall F_L_lead (dCons (dVar 2) dNil)))))) (dVar 7) (dCall F_L_lead (dCons (dVar 2) dNil))))
    (dDrop (dM "list" gAppend (dVar 4) (dCons (dB gTuple (dCons (dVar 7) dNil)) dNil)))))))) dSkip)))
    (dRet (dCall F_L_lot (dCons (dVar 4) dNil)))))
def F_L_apart : FF := runF b_L_apart 8
def b_L_pick : FS := (dRet (dOp gIx (dVar 1) (dCall F_L_roll (dCons (dVar 0) (dCons (dB gLen (dCons (dVar 1) dNil)) dNil)))))
def F_L_pick : FF := runF b_L_pick 2
def b_L_rw_drawn : FS := (dSeq (dAsgO 3 (dLst dNil))
    (dSeq (dForI (dRng1 (dCons (dVar 2) dNil)) (gNm 4) (dSeq (dAsg 5 (dCall F_L_roll (dCons (dVar 0) (dCons (dC (.int (5))) dNil))))
    (dSeq (dAsg 6 (dB gTuple (dCons (dFrz (dLc [11] (dRng1 (dCons (dVar 1) dNil)) (gNm 11) dYes (dCall F_L_pick (dCons (dVar 0) (dCons (dFrz (dLst (dCons (dC (.int (0))) (dCons (dC (.int (0))) (dCons (dC (.int (1))) (dCons (dNeg (dC (.int (1)))) (dCons (dC (.int (2))) (dCons (dNeg (dC (.int (3)))) (dCons (dC (.int (7))) (dCons (dOp gAdd (dOp gPow (dC (.int (10))) (dC (.int (12)))) (dC (.int (1)))) dNil)))))))))) dNil))))) dNil)))
    (dSeq (dIfS (dCmpT eqS (dVar 5) (dC (.int (0)))) (dAsg 6 (dOp gMul (dTup (dCons (dC (.int (0))) dNil)) (dVar 1))) (dIfS (dAndT (dCmpT gLt (dVar 5) (dC (.int (3)))) (dCmpT neS (dVar 3) (dFrz (dLst dNil)))) (dSeq (dPar 7 8 (dCons (dLend 3 (dCall F_L_pick (dCons (dVar 0) (dCons (dVar 3) dNil)))) (dCons (dLend 3 (dCall F_L_pick (dCons (dVar 0) (dCons (dVar 3) dNil)))) dNil)))
    (dSeq (dAsgG (dTup (dCons (dOp gSub (dCall F_L_roll (dCons (dVar 0) (dCons (dC (.int (7))) dNil))) (dC (.int (3)))) (dCons (dOp gSub (dCall F_L_roll (dCons (dVar 0) (dCons (dC (.int (7))) dNil))) (dC (.int (3)))) dNil))) (gT (gC (gNm 9) (gC (gNm 10) gN))))
    (dAsg 6 (dB gTuple (dCons (dFrz (dLc [12, 13] (dIterZp (dCons (dVar 7) (dCons (dVar 8) dNil))) (gT (gC (gNm 12) (gC (gNm 13) gN))) dYes (dOp gAdd (dOp gMul (dVar 9) (dVar 12)) (dOp gMul (dVar 10) (dVar 13))))) dNil))))) dSkip))
    (dDrop (dM "list" gAppend (dVar 3) (dCons (dVar 6) dNil)))))))
    (dRetF (dTake 3))))
def F_L_rw_drawn : FF := runF b_L_rw_drawn 14
def b_L_shuffled (n0 : Nat) : FS := (dSeq (dParM 2 3 (dMc (dLst dNil) (dMc (dBF gList (dCons (dVar 1) dNil)) dMn)))
    (dSeq (dWhile (dCmpT neS (dVar 3) (dFrz (dLst dNil))) (dDrop (dM "list" gAppend (dVar 2) (dCons (dM "list" gPopAt (dVar 3) (dCons (dCall F_L_roll (dCons (dVar 0) (dCons (dB gLen (dCons (dVar 3) dNil)) dNil))) dNil)) dNil))) n0)
    (dRetF (dTake 2))))
def fu0_L_shuffled (ds : List D) (μ : List Cell) : Nat := match ds with | [_, d] => (match d with | .lst xs => xs.length + 1 | .tup xs => xs.length + 1 | _ => 0) | _ => 0
def F_L_shuffled : FF := fun ds μ => runF (b_L_shuffled (fu0_L_shuffled ds μ)) 4 ds μ
def b_L_rw_mixed : FS := (dSeq (dAsgO 2 (dBF gList (dCons (dVar 1) dNil)))
    (dSeq (dFrzS 2 (dForI (dRng1 (dCons (dIf (dCmpT gGt (dB gLen (dCons (dVar 1) dNil)) (dC (.int (1)))) (dC (.int (6))) (dC (.int (0)))) dNil)) (gNm 3) (dSeq (dAsgG (dSl (dFrz (dCallF F_L_shuffled (dCons (dVar 0) (dCons (dFrz (dLRg (dB gLen (dCons (dVar 2) dNil)))) dNil)))) dNo (dPart (dC (.int (2))))) (gL (gC (gNm 4) (gC (gNm 5) gN))))
    (dSeq (dAsg 6 (dCall F_L_pick (dCons (dVar 0) (dCons (dFrz (dLst (dCons (dC (.int (1))) (dCons (dNeg (dC (.int (1)))) (dCons (dC (.int (2))) (dCons (dNeg (dC (.int (5)))) dNil)))))) dNil))))
    (dSetI gSetI (dB gTuple (dCons (dFrz (dLc [9, 10] (dIterZp (dCons (dOp gIx (dVar 2) (dVar 4)) (dCons (dOp gIx (dVar 2) (dVar 5)) dNil))) (gT (gC (gNm 9) (gC (gNm 10) gN))) dYes (dOp gAdd (dVar 9) (dOp gMul (dVar 6) (dVar 10))))) dNil)) (dVar 2) (dVar 4))))))
    (dSeq (dAsgO 7 (dLst dNil))
    (dSeq (dFrzS 7 (dForI (dIter (dVar 2)) (gNm 8) (dSeq (dAsg 6 (dCall F_L_pick (dCons (dVar 0) (dCons (dFrz (dLst (dCons (dC (.int (1))) (dCons (dNeg (dC (.int (2)))) (dCons (dC (.int (3))) dNil))))) dNil))))
    (dDrop (dM "list" gAppend (dVar 7) (dCons (dB gTuple (dCons (dFrz (dLc [11] (dIter (dVar 8)) (gNm 11) dYes (dOp gMul (dVar 6) (dVar 11)))) dNil)) dNil))))))
    (dRetF (dCallF F_L_shuffled (dCons (dVar 0) (dCons (dVar 7) dNil))))))))
def F_L_rw_mixed : FF := runF b_L_rw_mixed 12
def b_L_met : FS := (dRet (dCall F_L_apart (dCons (dCall F_L_lot (dCons (dOp gAdd (dFrz (dBF gList (dCons (dCall F_L_apart (dCons (dVar 1) (dCons (dVar 0) dNil))) dNil))) (dFrz (dBF gList (dCons (dCall F_L_apart (dCons (dVar 2) (dCons (dVar 0) dNil))) dNil)))) dNil)) (dCons (dVar 0) dNil))))
def F_L_met : FF := runF b_L_met 3
def b_L_right : FS := (dSeq (dAsg 2 (dFrz (dCallF F_L_rw_drawn (dCons (dVar 0) (dCons (dVar 1) (dCons (dCall F_L_roll (dCons (dVar 0) (dCons (dOp gAdd (dVar 1) (dC (.int (2)))) dNil))) dNil))))))
    (dSeq (dPar 3 4 (dCons (dCall F_L_lot (dCons (dVar 2) dNil)) (dCons (dFrz (dCallF F_L_rw_drawn (dCons (dVar 0) (dCons (dVar 1) (dCons (dOp gAdd (dC (.int (1))) (dCall F_L_roll (dCons (dVar 0) (dCons (dVar 1) dNil)))) dNil))))) dNil)))
    (dSeq (dIfS (dOrT (dCmpT neS (dB gRepr (dCons (dCall F_lot_of (dCons (dVar 1) (dCons (dB gTuple (dCons (dVar 2) dNil)) dNil))) dNil)) (dB gRepr (dCons (dVar 3) dNil))) (dCmpT neS (dCall F_lot_of (dCons (dVar 1) (dCons (dB gTuple (dCons (dFrz (dCallF F_L_rw_mixed (dCons (dVar 0) (dCons (dVar 2) dNil)))) dNil)) dNil))) (dVar 3))) (dRet (dC (.bl false))) dSkip)
    (dSeq (dIfS (dOrT (dCmpT neS (dCall F_lot_of (dCons (dVar 1) (dCons (dVar 3) dNil))) (dVar 3)) (dCmpT neS (dCall F_lot_of (dCons (dVar 1) (dCons (dRev (dVar 3)) dNil))) (dVar 3))) (dRet (dC (.bl false))) dSkip)
    (dSeq (dForI (dIter (dOp gAdd (dOp gAdd (dVar 4) (dVar 2)) (dFrz (dLst (dCons (dOp gMul (dTup (dCons (dC (.int (0))) dNil)) (dVar 1)) dNil))))) (gNm 5) (dIfS (dCmpT neS (dB gRepr (dCons (dCall F_holds (dCons (dVar 1) (dCons (dVar 3) (dCons (dVar 5) dNil)))) dNil)) (dB gRepr (dCons (dCall F_L_holds (dCons (dVar 3) (dCons (dVar 5) dNil))) dNil))) (dRet (dC (.bl false))) dSkip))
    (dSeq (dAsg 6 (dCall F_L_lot (dCons (dVar 4) dNil)))
    (dSeq (dPar 7 8 (dCons (dCall F_joined_lots (dCons (dVar 1) (dCons (dVar 3) (dCons (dVar 6) dNil)))) (dCons (dCall F_met_lots (dCons (dVar 1) (dCons (dVar 3) (dCons (dVar 6) dNil)))) dNil)))
    (dSeq (dIfS (dOrT (dCmpT neS (dB gRepr (dCons (dVar 7) dNil)) (dB gRepr (dCons (dCall F_L_lot (dCons (dOp gAdd (dVar 2) (dVar 4)) dNil)) dNil))) (dCmpT neS (dB gRepr (dCons (dVar 8) dNil)) (dB gRepr (dCons (dCall F_L_met (dCons (dVar 1) (dCons (dVar 3) (dCons (dVar 6) dNil)))) dNil)))) (dRet (dC (.bl false))) dSkip)
    (dSeq (dIfS (dOrT (dCmpT neS (dOp gAdd (dB gLen (dCons (dVar 7) dNil)) (dB gLen (dCons (dVar 8) dNil))) (dOp gAdd (dB gLen (dCons (dVar 3) dNil)) (dB gLen (dCons (dVar 6) dNil)))) (dCmpT neS (dCall F_joined_lots (dCons (dVar 1) (dCons (dVar 6) (dCons (dVar 3) dNil)))) (dVar 7))) (dRet (dC (.bl false))) dSkip)
    (dSeq (dAsg 9 (dCall F_rows_apart (dCons (dVar 1) (dCons (dVar 3) dNil))))
    (dSeq (dIfS (dOrT (dCmpT neS (dB gRepr (dCons (dVar 9) dNil)) (dB gRepr (dCons (dCall F_L_apart (dCons (dVar 3) (dCons (dVar 1) dNil))) dNil))) (dOrT (dCmpT neS (dOp gAdd (dB gLen (dCons (dVar 9) dNil)) (dB gLen (dCons (dVar 3) dNil))) (dVar 1)) (dCmpT neS (dCall F_rows_apart (dCons (dVar 1) (dCons (dVar 9) dNil))) (dVar 3)))) (dRet (dC (.bl false))) dSkip)
    (dRet (dOp eqS (dFrz (dLc [5] (dIter (dVar 9)) (gNm 5) (dCmpT neS (dFrz (dLc [10] (dIter (dVar 2)) (gNm 10) (dCmpT neS (dCall F_L_dot (dCons (dVar 5) (dCons (dVar 10) dNil))) (dC (.int (0)))) (dC (.int (1))))) (dFrz (dLst dNil))) (dC (.int (1))))) (dFrz (dLst dNil)))))))))))))))
def F_L_right : FF := runF b_L_right 11
def b_law : FS := (dSeq (dForI (dRng1 (dCons (dB gMax2 (dCons (dC (.int (1))) (dCons (dB gMin2 (dCons (dC (.int (6))) (dCons (dB gLen (dCons (dVar 0) dNil)) dNil))) dNil))) dNil)) (gNm 1) (dSeq (dAsgR 2 (dCallF F_L_dice (dCons (dVar 0) (dCons (dVar 1) dNil))))
    (dForI (dRng1 (dCons (dC (.int (3))) dNil)) (gNm 3) (dIfS (dNotT (dTruth (dCall F_L_right (dCons (dVar 2) (dCons (dOp gAdd (dC (.int (1))) (dCall F_L_roll (dCons (dVar 2) (dCons (dC (.int (6))) dNil)))) dNil))))) (dRet (dC (.bl false))) dSkip))))
    (dSeq (dAsg 4 (dFrz (dCallF F_L_units (dCons (dC (.int (60))) dNil))))
    (dSeq (dIfS (dCmpT eqS (dB gLen (dCons (dVar 0) dNil)) (dC (.int (0)))) (dSeq (dAsgO 5 (dLst dNil))
    (dSeq (dForI (dRng1 (dCons (dC (.int (20))) dNil)) (gNm 6) (dDrop (dM "list" gAppend (dVar 5) (dCons (dB gTuple (dCons (dFrz (dLc [9, 10] (dIterZp (dCons (dOp gIx (dVar 4) (dVar 6)) (dCons (dOp gIx (dVar 4) (dOp gAdd (dVar 6) (dC (.int (1))))) dNil))) (gT (gC (gNm 9) (gC (gNm 10) gN))) dYes (dOp gSub (dOp gMul (dC (.int (2))) (dVar 9)) (dOp gMul (dC (.int (3))) (dVar 10))))) dNil)) dNil))))
    (dSeq (dAsg 5 (dB gTuple (dCons (dVar 5) dNil)))
    (dSeq (dAsg 7 (dCall F_L_lot (dCons (dVar 5) dNil)))
    (dIfS (dOrT (dCmpT neS (dCall F_lot_of (dCons (dC (.int (60))) (dCons (dRev (dVar 5)) dNil))) (dVar 7)) (dOrT (dCmpT neS (dB gLen (dCons (dCall F_rows_apart (dCons (dC (.int (60))) (dCons (dVar 7) dNil))) dNil)) (dC (.int (40)))) (dNotT (dTruth (dCall F_holds (dCons (dC (.int (60))) (dCons (dVar 7) (dCons (dOp gIx (dVar 5) (dC (.int (7)))) dNil)))))))) (dRet (dC (.bl false))) dSkip))))) dSkip)
    (dSeq (dAsg 8 (dFrz (dLst (dCons (dCall F_lot_of (dCons (dC (.int (3))) (dCons (dTup (dCons (dTup (dCons (dC (.int (2))) (dCons (dC (.int (4))) (dCons (dC (.int (0))) dNil)))) (dCons (dTup (dCons (dC (.int (0))) (dCons (dC (.int (3))) (dCons (dC (.int (6))) dNil)))) (dCons (dTup (dCons (dC (.int (1))) (dCons (dC (.int (3))) (dCons (dC (.int (2))) dNil)))) dNil)))) dNil))) (dCons (dCall F_lot_of (dCons (dC (.int (2))) (dCons (dTup dNil) dNil))) (dCons (dCall F_rows_apart (dCons (dC (.int (2))) (dCons (dTup dNil) dNil))) (dCons (dCall F_met_lots (dCons (dC (.int (1))) (dCons (dTup dNil) (dCons (dTup (dCons (dTup (dCons (dC (.int (1))) dNil)) dNil)) dNil)))) dNil)))))))
    (dRet (dOp eqS (dVar 8) (dFrz (dLst (dCons (dTup (dCons (dTup (dCons (dC (.int (1))) (dCons (dC (.int (0))) (dCons (dNeg (dC (.int (4)))) dNil)))) (dCons (dTup (dCons (dC (.int (0))) (dCons (dC (.int (1))) (dCons (dC (.int (2))) dNil)))) dNil))) (dCons (dTup dNil) (dCons (dTup (dCons (dTup (dCons (dC (.int (1))) (dCons (dC (.int (0))) dNil))) (dCons (dTup (dCons (dC (.int (0))) (dCons (dC (.int (1))) dNil))) dNil))) (dCons (dTup dNil) dNil))))))))))))
def F_law : FF := runF b_law 11
end K11

namespace K11
open PySem PySem.Spec PyProof.Rows L2 DL
def top (i : Nat) : Stmt := PySem.Challenge.pw_anywaybuilt_k11_whole_lots.main.body.getD i (.Pass ⟨0, 0, 0, 0⟩)
structure Glb (mg : Str → Option Value) : Prop where
  b_abs : mg "abs" = none
  b_all : mg "all" = none
  b_any : mg "any" = none
  b_bool : mg "bool" = none
  b_enumerate : mg "enumerate" = none
  b_int : mg "int" = none
  b_isinstance : mg "isinstance" = none
  b_len : mg "len" = none
  b_list : mg "list" = none
  b_max : mg "max" = none
  b_min : mg "min" = none
  b_range : mg "range" = none
  b_repr : mg "repr" = none
  b_sorted : mg "sorted" = none
  b_sum : mg "sum" = none
  b_tuple : mg "tuple" = none
  b_zip : mg "zip" = none
  c_MAX_WIDTH : ∃ t, mg "MAX_WIDTH" = some (.int (60) t)
section
variable [DLX] {P : Program} {w : World} {K : PySem.W.Frag} {mg : Str → Option Value} {base : Heap}
theorem sc_is_integer : FnScope ["value"] ["value"] (defScope (top 7)) := ⟨rfl, rfl, rfl, by decide +kernel, rfl, by decide +kernel, by decide +kernel⟩
theorem ok_is_integer {f : Addr} {fd : FuncData} (T : Glb mg) (F : Fun K "is_integer" "is_integer" (top 7) f fd) (hm : mg "is_integer" = some (.ref f)) (hb : Binds K fd ["value"] []) : FnD P w K mg base "is_integer" 1 1 F_is_integer := by
  refine fnD (k := 0) F hm hb sc_is_integer F_is_integer fun cdv A outer s H E hr hgu ds μ hl hG => ⟨b_is_integer, ?_, rfl⟩
  have hu := room_u hr
  exact (sd_one (sd_ret (pd_and (pd_b bi_isi (by rfl) T.b_isinstance rfl (pa_c (pd_var 0 (pv 0)) (pa_c (pd_bltT (by rfl) T.b_int rfl) pa_n))) (pd_one (pd_not (pd_b bi_isi (by rfl) T.b_isinstance rfl (pa_c (pd_var 0 (pv 0)) (pa_c (pd_bltT (by rfl) T.b_bool rfl) pa_n))))))))
theorem sc_require_width : FnScope ["width"] ["width"] (defScope (top 8)) := ⟨rfl, rfl, rfl, by decide +kernel, rfl, by decide +kernel, by decide +kernel⟩
theorem ok_require_width {f : Addr} {fd : FuncData} (T : Glb mg) (F : Fun K "require_width" "require_width" (top 8) f fd) (hm : mg "require_width" = some (.ref f)) (hb : Binds K fd ["width"] []) (h_is_integer : FnD P w K mg base "is_integer" 1 1 F_is_integer) : FnD P w K mg base "require_width" 2 1 F_require_width := by
  refine fnD (k := 1) F hm hb sc_require_width F_require_width fun cdv A outer s H E hr hgu ds μ hl hG => ⟨b_require_width, ?_, rfl⟩
  have hu := room_u hr
  exact (sd_one (sd_if (PWD.pt (pw_o (pt_nt (pt_tr (pd_call h_is_integer (hr.mono (by decide)) hgu (by rfl) (pa_c (pd_var 0 (pv 0)) pa_n) (al_c al_n)))) (pw_o1 (pt_nt (DL.pt_chain c_le c_le pd_int (pd_var 0 (pv 0)) (pd_globI (by rfl) T.c_MAX_WIDTH.choose_spec)))))) (sd_one sd_bad) sd_nil))
theorem sc_lead_in : FnScope ["row", "index", "number"] ["row"] (defScope (top 10)) := ⟨rfl, rfl, rfl, by decide +kernel, rfl, by decide +kernel, by decide +kernel⟩
theorem ok_lead_in {f : Addr} {fd : FuncData} (T : Glb mg) (F : Fun K "lead_in" "lead_in" (top 10) f fd) (hm : mg "lead_in" = some (.ref f)) (hb : Binds K fd ["row"] []) : FnD P w K mg base "lead_in" 1 1 F_lead_in := by
  refine fnD (k := 0) F hm hb sc_lead_in F_lead_in fun cdv A outer s H E hr hgu ds μ hl hG => ⟨b_lead_in, ?_, rfl⟩
  have hu := room_u hr
  exact (sd_cons (sd_for (passes_of rfl) rfl (id_en (pa_c (pd_var 0 (pv 0)) pa_n) (by rfl) T.b_enumerate) (gd_tup rfl (gd_cons (gd_name (pg_name (i := 1) sc_lead_in.nd rfl (by first | exact Or.inl rfl | exact Or.inr rfl))) (gd_cons (gd_name (pg_name (i := 2) sc_lead_in.nd rfl (by first | exact Or.inl rfl | exact Or.inr rfl))) gd_nil))) (sd_one (sd_if (pt_cm (c_neS hu) (pd_var 2 (pv 2)) pd_int) (sd_one (sd_ret (pd_var 1 (pv 1)))) sd_nil)))
    (sd_one (sd_ret pd_non)))
theorem sc_common_share : FnScope ["one", "other"] ["one", "other"] (defScope (top 11)) := ⟨rfl, rfl, rfl, by decide +kernel, rfl, by decide +kernel, by decide +kernel⟩
theorem ok_common_share {f : Addr} {fd : FuncData} (T : Glb mg) (F : Fun K "common_share" "common_share" (top 11) f fd) (hm : mg "common_share" = some (.ref f)) (hb : Binds K fd ["one", "other"] []) : FnD P w K mg base "common_share" 1 2 F_common_share := by
  refine fnD (k := 0) F hm hb sc_common_share F_common_share fun cdv A outer s H E hr hgu ds μ hl hG => ⟨b_common_share (fu0_common_share ds μ), ?_, rfl⟩
  have hu := room_u hr
  exact (sd_cons (sd_while (fu0_common_share ds μ) (passes_of rfl) (pt_cm (c_neS hu) (pd_var 1 (pv 1)) pd_int) (sd_one (sd_par (fun ta h => ps_par (i := 0) (j := 1) rfl sc_common_share.nd rfl rfl (by decide) rfl rfl h (by rfl)) (pa_c (pd_var 1 (pv 1)) (pa_c (pd_mod (pd_var 0 (pv 0)) (pd_var 1 (pv 1))) pa_n)))))
    (sd_one (sd_ret (pd_b bi_abs (by rfl) T.b_abs rfl (pa_c (pd_var 0 (pv 0)) pa_n)))))
theorem sc_lowest_row : FnScope ["row", "share", "number"] ["row"] (defScope (top 12)) := ⟨rfl, rfl, rfl, by decide +kernel, rfl, by decide +kernel, by decide +kernel⟩
theorem ok_lowest_row {f : Addr} {fd : FuncData} (T : Glb mg) (F : Fun K "lowest_row" "lowest_row" (top 12) f fd) (hm : mg "lowest_row" = some (.ref f)) (hb : Binds K fd ["row"] []) (h_lead_in : FnD P w K mg base "lead_in" 1 1 F_lead_in) (h_common_share : FnD P w K mg base "common_share" 1 2 F_common_share) : FnD P w K mg base "lowest_row" 2 1 F_lowest_row := by
  refine fnD (k := 1) F hm hb sc_lowest_row F_lowest_row fun cdv A outer s H E hr hgu ds μ hl hG => ⟨b_lowest_row, ?_, rfl⟩
  have hu := room_u hr
  exact (sd_cons (sd_asg (fun te h => ps_set (i := 1) sc_lowest_row.nd rfl (by first | exact Or.inl rfl | exact Or.inr rfl) h) pd_int)
    (sd_cons (sd_for (passes_of rfl) rfl (id_seq (pd_var 0 (pv 0))) (gd_name (pg_name (i := 2) sc_lowest_row.nd rfl (by first | exact Or.inl rfl | exact Or.inr rfl))) (sd_one (sd_asg (fun te h => ps_set (i := 1) sc_lowest_row.nd rfl (by first | exact Or.inl rfl | exact Or.inr rfl) h) (pd_call h_common_share (hr.mono (by decide)) hgu (by rfl) (pa_c (pd_var 1 (pv 1)) (pa_c (pd_var 2 (pv 2)) pa_n)) (al_c (al_c al_n))))))
    (sd_cons (sd_if (pt_cm (c_eqS hu) (pd_var 1 (pv 1)) pd_int) (sd_one (sd_ret (pd_ty bi_tuple (by rfl) T.b_tuple rfl (pa_c (pd_var 0 (pv 0)) pa_n)))) sd_nil)
    (sd_cons (sd_if (pt_cm c_lt (pd_ix (pd_var 0 (pv 0)) (pd_call h_lead_in (hr.mono (by decide)) hgu (by rfl) (pa_c (pd_var 0 (pv 0)) pa_n) (al_c al_n))) pd_int) (sd_one (sd_asg (fun te h => ps_set (i := 1) sc_lowest_row.nd rfl (by first | exact Or.inl rfl | exact Or.inr rfl) h) (pd_sub pd_int (pd_var 1 (pv 1))))) sd_nil)
    (sd_one (sd_ret (pd_ty bi_tuple (by rfl) T.b_tuple rfl (pa_c (pd_f (pf_lc (own := [("number", 2)]) rfl sc_lowest_row.nd (by kernel_rfl) (id_seq (pd_var 0 (pv 0))) (fun b => (gd_name (pg_name (i := 2) sc_lowest_row.nd rfl (by first | exact Or.inl rfl | exact Or.inr rfl)))) (fun b => td_nil) (fun b => (pd_fdiv (pd_var 2 (pv 2)) (pd_var 1 (pv 1)))))) pa_n))))))))
theorem sc_less_by : FnScope ["row", "other", "index", "one", "two"] ["row", "other"] (defScope (top 14)) := ⟨rfl, rfl, rfl, by decide +kernel, rfl, by decide +kernel, by decide +kernel⟩
theorem ok_less_by {f : Addr} {fd : FuncData} (T : Glb mg) (F : Fun K "less_by" "less_by" (top 14) f fd) (hm : mg "less_by" = some (.ref f)) (hb : Binds K fd ["row", "other"] []) (h_lead_in : FnD P w K mg base "lead_in" 1 1 F_lead_in) : FnD P w K mg base "less_by" 2 2 F_less_by := by
  refine fnD (k := 1) F hm hb sc_less_by F_less_by fun cdv A outer s H E hr hgu ds μ hl hG => ⟨b_less_by, ?_, rfl⟩
  have hu := room_u hr
  exact (sd_cons (sd_asg (fun te h => ps_set (i := 2) sc_less_by.nd rfl (by first | exact Or.inl rfl | exact Or.inr rfl) h) (pd_call h_lead_in (hr.mono (by decide)) hgu (by rfl) (pa_c (pd_var 1 (pv 1)) pa_n) (al_c al_n)))
    (sd_cons (sd_if (pt_cm (c_eqS hu) (pd_ix (pd_var 0 (pv 0)) (pd_var 2 (pv 2))) pd_int) (sd_one (sd_ret (pd_var 0 (pv 0)))) sd_nil)
    (sd_one (sd_ret (pd_ty bi_tuple (by rfl) T.b_tuple rfl (pa_c (pd_f (pf_lc (own := [("one", 3), ("two", 4)]) rfl sc_less_by.nd (by kernel_rfl) (id_zp (pa_c (pd_var 0 (pv 0)) (pa_c (pd_var 1 (pv 1)) pa_n)) (by rfl) T.b_zip) (fun b => (gd_tup rfl (gd_cons (gd_name (pg_name (i := 3) sc_less_by.nd rfl (by first | exact Or.inl rfl | exact Or.inr rfl))) (gd_cons (gd_name (pg_name (i := 4) sc_less_by.nd rfl (by first | exact Or.inl rfl | exact Or.inr rfl))) gd_nil)))) (fun b => td_nil) (fun b => (pd_sub (pd_mul (pd_ix (pd_var 1 (pv 1)) (pd_var 2 (pv 2))) (pd_var 3 (pv 3))) (pd_mul (pd_ix (pd_var 0 (pv 0)) (pd_var 2 (pv 2))) (pd_var 4 (pv 4))))))) pa_n))))))
theorem sc_rest_by : FnScope ["lot", "row", "other"] ["lot", "row"] (defScope (top 15)) := ⟨rfl, rfl, rfl, by decide +kernel, rfl, by decide +kernel, by decide +kernel⟩
theorem ok_rest_by {f : Addr} {fd : FuncData} (T : Glb mg) (F : Fun K "rest_by" "rest_by" (top 15) f fd) (hm : mg "rest_by" = some (.ref f)) (hb : Binds K fd ["lot", "row"] []) (h_less_by : FnD P w K mg base "less_by" 2 2 F_less_by) : FnD P w K mg base "rest_by" 3 2 F_rest_by := by
  refine fnD (k := 2) F hm hb sc_rest_by F_rest_by fun cdv A outer s H E hr hgu ds μ hl hG => ⟨b_rest_by, ?_, rfl⟩
  have hu := room_u hr
  exact (sd_cons (sd_for (passes_of rfl) rfl (id_seq (pd_var 0 (pv 0))) (gd_name (pg_name (i := 2) sc_rest_by.nd rfl (by first | exact Or.inl rfl | exact Or.inr rfl))) (sd_one (sd_asg (fun te h => ps_set (i := 1) sc_rest_by.nd rfl (by first | exact Or.inl rfl | exact Or.inr rfl) h) (pd_call h_less_by (hr.mono (by decide)) hgu (by rfl) (pa_c (pd_var 1 (pv 1)) (pa_c (pd_var 2 (pv 2)) pa_n)) (al_c (al_c al_n))))))
    (sd_one (sd_ret (pd_var 1 (pv 1)))))
theorem sc_with_row : FnScope ["lot", "row", "left", "found", "other"] ["lot", "row"] (defScope (top 17)) := ⟨rfl, rfl, rfl, by decide +kernel, rfl, by decide +kernel, by decide +kernel⟩
theorem ok_with_row {f : Addr} {fd : FuncData} (T : Glb mg) (F : Fun K "with_row" "with_row" (top 17) f fd) (hm : mg "with_row" = some (.ref f)) (hb : Binds K fd ["lot", "row"] []) (h_lead_in : FnD P w K mg base "lead_in" 1 1 F_lead_in) (h_lowest_row : FnD P w K mg base "lowest_row" 2 1 F_lowest_row) (h_less_by : FnD P w K mg base "less_by" 2 2 F_less_by) (h_rest_by : FnD P w K mg base "rest_by" 3 2 F_rest_by) : FnD P w K mg base "with_row" 4 2 F_with_row := by
  refine fnD (k := 3) F hm hb sc_with_row F_with_row fun cdv A outer s H E hr hgu ds μ hl hG => ⟨b_with_row, ?_, rfl⟩
  have hu := room_u hr
  exact (sd_cons (sd_asg (fun te h => ps_set (i := 2) sc_with_row.nd rfl (by first | exact Or.inl rfl | exact Or.inr rfl) h) (pd_call h_lowest_row (hr.mono (by decide)) hgu (by rfl) (pa_c (pd_call h_rest_by (hr.mono (by decide)) hgu (by rfl) (pa_c (pd_var 0 (pv 0)) (pa_c (pd_var 1 (pv 1)) pa_n)) (al_c (al_c al_n))) pa_n) (al_c al_n)))
    (sd_cons (sd_if (pt_cm c_is (pd_call h_lead_in (hr.mono (by decide)) hgu (by rfl) (pa_c (pd_var 2 (pv 2)) pa_n) (al_c al_n)) pd_non) (sd_one (sd_ret (pd_var 0 (pv 0)))) sd_nil)
    (sd_cons (sd_asg (fun te h => ps_set (i := 3) sc_with_row.nd rfl (by first | exact Or.inl rfl | exact Or.inr rfl) h) (pd_add (pd_f (pf_lc (own := [("other", 4)]) rfl sc_with_row.nd (by kernel_rfl) (id_seq (pd_var 0 (pv 0))) (fun b => (gd_name (pg_name (i := 4) sc_with_row.nd rfl (by first | exact Or.inl rfl | exact Or.inr rfl)))) (fun b => td_nil) (fun b => (pd_call h_lowest_row (hr.mono (by decide)) hgu (by rfl) (pa_c (pd_call h_less_by (hr.mono (by decide)) hgu (by rfl) (pa_c (pd_var 4 (pv 4)) (pa_c (pd_var 2 (pv 2)) pa_n)) (al_c (al_c al_n))) pa_n) (al_c al_n))))) (pd_f (pf_lst (pa_c (pd_var 2 (pv 2)) pa_n)))))
    (sd_one (sd_ret (pd_ty bi_tuple (by rfl) T.b_tuple rfl (pa_c (pd_f (pf_sortKey h_lead_in (hr.mono (by decide)) hgu (by rfl) (by rfl) T.b_sorted (pd_var 3 (pv 3)))) pa_n)))))))
theorem sc_lot_in : FnScope ["rows", "lot", "row"] ["rows"] (defScope (top 18)) := ⟨rfl, rfl, rfl, by decide +kernel, rfl, by decide +kernel, by decide +kernel⟩
theorem ok_lot_in {f : Addr} {fd : FuncData} (T : Glb mg) (F : Fun K "lot_in" "lot_in" (top 18) f fd) (hm : mg "lot_in" = some (.ref f)) (hb : Binds K fd ["rows"] []) (h_with_row : FnD P w K mg base "with_row" 4 2 F_with_row) : FnD P w K mg base "lot_in" 5 1 F_lot_in := by
  refine fnD (k := 4) F hm hb sc_lot_in F_lot_in fun cdv A outer s H E hr hgu ds μ hl hG => ⟨b_lot_in, ?_, rfl⟩
  have hu := room_u hr
  exact (sd_cons (sd_asg (fun te h => ps_set (i := 1) sc_lot_in.nd rfl (by first | exact Or.inl rfl | exact Or.inr rfl) h) (pd_tup pa_n))
    (sd_cons (sd_for (passes_of rfl) rfl (id_seq (pd_var 0 (pv 0))) (gd_name (pg_name (i := 2) sc_lot_in.nd rfl (by first | exact Or.inl rfl | exact Or.inr rfl))) (sd_one (sd_asg (fun te h => ps_set (i := 1) sc_lot_in.nd rfl (by first | exact Or.inl rfl | exact Or.inr rfl) h) (pd_call h_with_row (hr.mono (by decide)) hgu (by rfl) (pa_c (pd_var 1 (pv 1)) (pa_c (pd_var 2 (pv 2)) pa_n)) (al_c (al_c al_n))))))
    (sd_one (sd_ret (pd_var 1 (pv 1))))))
theorem sc_is_plain_row : FnScope ["width", "value", "one"] ["width", "value"] (defScope (top 9)) := ⟨rfl, rfl, rfl, by decide +kernel, rfl, by decide +kernel, by decide +kernel⟩
theorem ok_is_plain_row {f : Addr} {fd : FuncData} (T : Glb mg) (F : Fun K "is_plain_row" "is_plain_row" (top 9) f fd) (hm : mg "is_plain_row" = some (.ref f)) (hb : Binds K fd ["width", "value"] []) (h_is_integer : FnD P w K mg base "is_integer" 1 1 F_is_integer) : FnD P w K mg base "is_plain_row" 2 2 F_is_plain_row := by
  refine fnD (k := 1) F hm hb sc_is_plain_row F_is_plain_row fun cdv A outer s H E hr hgu ds μ hl hG => ⟨b_is_plain_row, ?_, rfl⟩
  have hu := room_u hr
  exact (sd_one (sd_ret (pd_and (pd_b bi_isi (by rfl) T.b_isinstance rfl (pa_c (pd_var 1 (pv 1)) (pa_c (pd_bltT (by rfl) T.b_tuple rfl) pa_n))) (pd_and (pd_cm (c_eqS hu) (pd_b bi_len (by rfl) T.b_len rfl (pa_c (pd_var 1 (pv 1)) pa_n)) (pd_var 0 (pv 0))) (pd_one (pd_b (bi_all rfl) (by rfl) T.b_all rfl (pa_c (pd_f (pf_lc (own := [("one", 2)]) rfl sc_is_plain_row.nd (by kernel_rfl) (id_seq (pd_var 1 (pv 1))) (fun b => (gd_name (pg_name (i := 2) sc_is_plain_row.nd rfl (by first | exact Or.inl rfl | exact Or.inr rfl)))) (fun b => td_nil) (fun b => (pd_call h_is_integer (hr.mono (by decide)) hgu (by rfl) (pa_c (pd_var 2 (pv 2)) pa_n) (al_c al_n))))) pa_n)))))))
theorem sc_require_rows : FnScope ["width", "rows", "row"] ["width", "rows"] (defScope (top 21)) := ⟨rfl, rfl, rfl, by decide +kernel, rfl, by decide +kernel, by decide +kernel⟩
theorem ok_require_rows {f : Addr} {fd : FuncData} (T : Glb mg) (F : Fun K "require_rows" "require_rows" (top 21) f fd) (hm : mg "require_rows" = some (.ref f)) (hb : Binds K fd ["width", "rows"] []) (h_is_plain_row : FnD P w K mg base "is_plain_row" 2 2 F_is_plain_row) : FnD P w K mg base "require_rows" 3 2 F_require_rows := by
  refine fnD (k := 2) F hm hb sc_require_rows F_require_rows fun cdv A outer s H E hr hgu ds μ hl hG => ⟨b_require_rows, ?_, rfl⟩
  have hu := room_u hr
  exact (sd_one (sd_if (PWD.pt (pw_o (pt_nt (pt_tr (pd_b bi_isi (by rfl) T.b_isinstance rfl (pa_c (pd_var 1 (pv 1)) (pa_c (pd_bltT (by rfl) T.b_tuple rfl) pa_n))))) (pw_o1 (pt_nt (pt_tr (pd_b (bi_all rfl) (by rfl) T.b_all rfl (pa_c (pd_f (pf_lc (own := [("row", 2)]) rfl sc_require_rows.nd (by kernel_rfl) (id_seq (pd_var 1 (pv 1))) (fun b => (gd_name (pg_name (i := 2) sc_require_rows.nd rfl (by first | exact Or.inl rfl | exact Or.inr rfl)))) (fun b => td_nil) (fun b => (pd_call h_is_plain_row (hr.mono (by decide)) hgu (by rfl) (pa_c (pd_var 0 (pv 0)) (pa_c (pd_var 2 (pv 2)) pa_n)) (al_c (al_c al_n)))))) pa_n))))))) (sd_one sd_bad) sd_nil))
theorem sc_lot_of : FnScope ["width", "rows"] ["width", "rows"] (defScope (top 23)) := ⟨rfl, rfl, rfl, by decide +kernel, rfl, by decide +kernel, by decide +kernel⟩
theorem ok_lot_of {f : Addr} {fd : FuncData} (T : Glb mg) (F : Fun K "lot_of" "lot_of" (top 23) f fd) (hm : mg "lot_of" = some (.ref f)) (hb : Binds K fd ["width", "rows"] []) (h_require_width : FnD P w K mg base "require_width" 2 1 F_require_width) (h_lot_in : FnD P w K mg base "lot_in" 5 1 F_lot_in) (h_require_rows : FnD P w K mg base "require_rows" 3 2 F_require_rows) : FnD P w K mg base "lot_of" 6 2 F_lot_of := by
  refine fnD (k := 5) F hm hb sc_lot_of F_lot_of fun cdv A outer s H E hr hgu ds μ hl hG => ⟨b_lot_of, ?_, rfl⟩
  have hu := room_u hr
  exact (sd_cons (sd_drop (pd_call h_require_width (hr.mono (by decide)) hgu (by rfl) (pa_c (pd_var 0 (pv 0)) pa_n) (al_c al_n)))
    (sd_cons (sd_drop (pd_call h_require_rows (hr.mono (by decide)) hgu (by rfl) (pa_c (pd_var 0 (pv 0)) (pa_c (pd_var 1 (pv 1)) pa_n)) (al_c (al_c al_n))))
    (sd_one (sd_ret (pd_call h_lot_in (hr.mono (by decide)) hgu (by rfl) (pa_c (pd_var 1 (pv 1)) pa_n) (al_c al_n))))))
theorem sc_does_hold : FnScope ["lot", "row"] ["lot", "row"] (defScope (top 16)) := ⟨rfl, rfl, rfl, by decide +kernel, rfl, by decide +kernel, by decide +kernel⟩
theorem ok_does_hold {f : Addr} {fd : FuncData} (T : Glb mg) (F : Fun K "does_hold" "does_hold" (top 16) f fd) (hm : mg "does_hold" = some (.ref f)) (hb : Binds K fd ["lot", "row"] []) (h_lead_in : FnD P w K mg base "lead_in" 1 1 F_lead_in) (h_rest_by : FnD P w K mg base "rest_by" 3 2 F_rest_by) : FnD P w K mg base "does_hold" 4 2 F_does_hold := by
  refine fnD (k := 3) F hm hb sc_does_hold F_does_hold fun cdv A outer s H E hr hgu ds μ hl hG => ⟨b_does_hold, ?_, rfl⟩
  have hu := room_u hr
  exact (sd_one (sd_ret (pd_cm c_is (pd_call h_lead_in (hr.mono (by decide)) hgu (by rfl) (pa_c (pd_call h_rest_by (hr.mono (by decide)) hgu (by rfl) (pa_c (pd_var 0 (pv 0)) (pa_c (pd_var 1 (pv 1)) pa_n)) (al_c (al_c al_n))) pa_n) (al_c al_n)) pd_non)))
theorem sc_require_row : FnScope ["width", "row"] ["width", "row"] (defScope (top 20)) := ⟨rfl, rfl, rfl, by decide +kernel, rfl, by decide +kernel, by decide +kernel⟩
theorem ok_require_row {f : Addr} {fd : FuncData} (T : Glb mg) (F : Fun K "require_row" "require_row" (top 20) f fd) (hm : mg "require_row" = some (.ref f)) (hb : Binds K fd ["width", "row"] []) (h_is_plain_row : FnD P w K mg base "is_plain_row" 2 2 F_is_plain_row) : FnD P w K mg base "require_row" 3 2 F_require_row := by
  refine fnD (k := 2) F hm hb sc_require_row F_require_row fun cdv A outer s H E hr hgu ds μ hl hG => ⟨b_require_row, ?_, rfl⟩
  have hu := room_u hr
  exact (sd_one (sd_if (pt_nt (pt_tr (pd_call h_is_plain_row (hr.mono (by decide)) hgu (by rfl) (pa_c (pd_var 0 (pv 0)) (pa_c (pd_var 1 (pv 1)) pa_n)) (al_c (al_c al_n))))) (sd_one sd_bad) sd_nil))
theorem sc_is_plain_lot : FnScope ["width", "value", "row", "ahead", "place", "index", "at", "other"] ["width", "value"] (defScope (top 13)) := ⟨rfl, rfl, rfl, by decide +kernel, rfl, by decide +kernel, by decide +kernel⟩
theorem ok_is_plain_lot {f : Addr} {fd : FuncData} (T : Glb mg) (F : Fun K "is_plain_lot" "is_plain_lot" (top 13) f fd) (hm : mg "is_plain_lot" = some (.ref f)) (hb : Binds K fd ["width", "value"] []) (h_is_plain_row : FnD P w K mg base "is_plain_row" 2 2 F_is_plain_row) (h_lead_in : FnD P w K mg base "lead_in" 1 1 F_lead_in) (h_lowest_row : FnD P w K mg base "lowest_row" 2 1 F_lowest_row) : FnD P w K mg base "is_plain_lot" 3 2 F_is_plain_lot := by
  refine fnD (k := 2) F hm hb sc_is_plain_lot F_is_plain_lot fun cdv A outer s H E hr hgu ds μ hl hG => ⟨b_is_plain_lot, ?_, rfl⟩
  have hu := room_u hr
  exact (sd_cons (sd_if (PWD.pt (pw_o (pt_nt (pt_tr (pd_b bi_isi (by rfl) T.b_isinstance rfl (pa_c (pd_var 1 (pv 1)) (pa_c (pd_bltT (by rfl) T.b_tuple rfl) pa_n))))) (pw_o1 (pt_nt (pt_tr (pd_b (bi_all rfl) (by rfl) T.b_all rfl (pa_c (pd_f (pf_lc (own := [("row", 2)]) rfl sc_is_plain_lot.nd (by kernel_rfl) (id_seq (pd_var 1 (pv 1))) (fun b => (gd_name (pg_name (i := 2) sc_is_plain_lot.nd rfl (by first | exact Or.inl rfl | exact Or.inr rfl)))) (fun b => td_nil) (fun b => (pd_call h_is_plain_row (hr.mono (by decide)) hgu (by rfl) (pa_c (pd_var 0 (pv 0)) (pa_c (pd_var 2 (pv 2)) pa_n)) (al_c (al_c al_n)))))) pa_n))))))) (sd_one (sd_ret pd_bl)) sd_nil)
    (sd_cons (sd_asg (fun te h => ps_set (i := 3) sc_is_plain_lot.nd rfl (by first | exact Or.inl rfl | exact Or.inr rfl) h) (pd_neg pd_int))
    (sd_cons (sd_for (passes_of rfl) rfl (id_en (pa_c (pd_var 1 (pv 1)) pa_n) (by rfl) T.b_enumerate) (gd_tup rfl (gd_cons (gd_name (pg_name (i := 4) sc_is_plain_lot.nd rfl (by first | exact Or.inl rfl | exact Or.inr rfl))) (gd_cons (gd_name (pg_name (i := 2) sc_is_plain_lot.nd rfl (by first | exact Or.inl rfl | exact Or.inr rfl))) gd_nil))) (sd_cons (sd_asg (fun te h => ps_set (i := 5) sc_is_plain_lot.nd rfl (by first | exact Or.inl rfl | exact Or.inr rfl) h) (pd_call h_lead_in (hr.mono (by decide)) hgu (by rfl) (pa_c (pd_var 2 (pv 2)) pa_n) (al_c al_n)))
    (sd_cons (sd_if (PWD.pt (pw_o (pt_cm c_is (pd_var 5 (pv 5)) pd_non) (pw_o (pt_cm c_le (pd_var 5 (pv 5)) (pd_var 3 (pv 3))) (pw_o1 (pt_cm (c_neS hu) (pd_call h_lowest_row (hr.mono (by decide)) hgu (by rfl) (pa_c (pd_var 2 (pv 2)) pa_n) (al_c al_n)) (pd_var 2 (pv 2))))))) (sd_one (sd_ret pd_bl)) sd_nil)
    (sd_cons (sd_if (pt_tr (pd_b (bi_any rfl) (by rfl) T.b_any rfl (pa_c (pd_f (pf_lc (own := [("at", 6), ("other", 7)]) rfl sc_is_plain_lot.nd (by kernel_rfl) (id_en (pa_c (pd_var 1 (pv 1)) pa_n) (by rfl) T.b_enumerate) (fun b => (gd_tup rfl (gd_cons (gd_name (pg_name (i := 6) sc_is_plain_lot.nd rfl (by first | exact Or.inl rfl | exact Or.inr rfl))) (gd_cons (gd_name (pg_name (i := 7) sc_is_plain_lot.nd rfl (by first | exact Or.inl rfl | exact Or.inr rfl))) gd_nil)))) (fun b => (td_one (pt_cm (c_neS hu) (pd_var 6 (pv 6)) (pd_var 4 (pv 4))))) (fun b => (pd_cm (c_neS hu) (pd_ix (pd_var 7 (pv 7)) (pd_var 5 (pv 5))) pd_int)))) pa_n))) (sd_one (sd_ret pd_bl)) sd_nil)
    (sd_one (sd_asg (fun te h => ps_set (i := 3) sc_is_plain_lot.nd rfl (by first | exact Or.inl rfl | exact Or.inr rfl) h) (pd_var 5 (pv 5))))))))
    (sd_one (sd_ret pd_bl)))))
theorem sc_require_lot : FnScope ["width", "lot"] ["width", "lot"] (defScope (top 22)) := ⟨rfl, rfl, rfl, by decide +kernel, rfl, by decide +kernel, by decide +kernel⟩
theorem ok_require_lot {f : Addr} {fd : FuncData} (T : Glb mg) (F : Fun K "require_lot" "require_lot" (top 22) f fd) (hm : mg "require_lot" = some (.ref f)) (hb : Binds K fd ["width", "lot"] []) (h_is_plain_lot : FnD P w K mg base "is_plain_lot" 3 2 F_is_plain_lot) : FnD P w K mg base "require_lot" 4 2 F_require_lot := by
  refine fnD (k := 3) F hm hb sc_require_lot F_require_lot fun cdv A outer s H E hr hgu ds μ hl hG => ⟨b_require_lot, ?_, rfl⟩
  have hu := room_u hr
  exact (sd_one (sd_if (pt_nt (pt_tr (pd_call h_is_plain_lot (hr.mono (by decide)) hgu (by rfl) (pa_c (pd_var 0 (pv 0)) (pa_c (pd_var 1 (pv 1)) pa_n)) (al_c (al_c al_n))))) (sd_one sd_bad) sd_nil))
theorem sc_holds : FnScope ["width", "lot", "row"] ["width", "lot", "row"] (defScope (top 24)) := ⟨rfl, rfl, rfl, by decide +kernel, rfl, by decide +kernel, by decide +kernel⟩
theorem ok_holds {f : Addr} {fd : FuncData} (T : Glb mg) (F : Fun K "holds" "holds" (top 24) f fd) (hm : mg "holds" = some (.ref f)) (hb : Binds K fd ["width", "lot", "row"] []) (h_require_width : FnD P w K mg base "require_width" 2 1 F_require_width) (h_does_hold : FnD P w K mg base "does_hold" 4 2 F_does_hold) (h_require_row : FnD P w K mg base "require_row" 3 2 F_require_row) (h_require_lot : FnD P w K mg base "require_lot" 4 2 F_require_lot) : FnD P w K mg base "holds" 5 3 F_holds := by
  refine fnD (k := 4) F hm hb sc_holds F_holds fun cdv A outer s H E hr hgu ds μ hl hG => ⟨b_holds, ?_, rfl⟩
  have hu := room_u hr
  exact (sd_cons (sd_drop (pd_call h_require_width (hr.mono (by decide)) hgu (by rfl) (pa_c (pd_var 0 (pv 0)) pa_n) (al_c al_n)))
    (sd_cons (sd_drop (pd_call h_require_lot (hr.mono (by decide)) hgu (by rfl) (pa_c (pd_var 0 (pv 0)) (pa_c (pd_var 1 (pv 1)) pa_n)) (al_c (al_c al_n))))
    (sd_cons (sd_drop (pd_call h_require_row (hr.mono (by decide)) hgu (by rfl) (pa_c (pd_var 0 (pv 0)) (pa_c (pd_var 2 (pv 2)) pa_n)) (al_c (al_c al_n))))
    (sd_one (sd_ret (pd_call h_does_hold (hr.mono (by decide)) hgu (by rfl) (pa_c (pd_var 1 (pv 1)) (pa_c (pd_var 2 (pv 2)) pa_n)) (al_c (al_c al_n))))))))
theorem sc_apart_in : FnScope ["width", "lot", "row", "leads", "share", "found", "lead", "index", "line"] ["width", "lot"] (defScope (top 19)) := ⟨rfl, rfl, rfl, by decide +kernel, rfl, by decide +kernel, by decide +kernel⟩
theorem ok_apart_in {f : Addr} {fd : FuncData} (T : Glb mg) (F : Fun K "apart_in" "apart_in" (top 19) f fd) (hm : mg "apart_in" = some (.ref f)) (hb : Binds K fd ["width", "lot"] []) (h_lead_in : FnD P w K mg base "lead_in" 1 1 F_lead_in) (h_lot_in : FnD P w K mg base "lot_in" 5 1 F_lot_in) : FnD P w K mg base "apart_in" 6 2 F_apart_in := by
  refine fnD (k := 5) F hm hb sc_apart_in F_apart_in fun cdv A outer s H E hr hgu ds μ hl hG => ⟨b_apart_in, ?_, rfl⟩
  have hu := room_u hr
  exact (sd_cons (sd_parM3 (fun ta h => ps_par3 (i := 3) (j := 4) (l := 5) rfl sc_apart_in.nd rfl rfl rfl (by decide) (by decide) (by decide) rfl rfl rfl h (by rfl)) (pm_v (pd_f (pf_lc (own := [("row", 2)]) rfl sc_apart_in.nd (by kernel_rfl) (id_seq (pd_var 1 (pv 1))) (fun b => (gd_name (pg_name (i := 2) sc_apart_in.nd rfl (by first | exact Or.inl rfl | exact Or.inr rfl)))) (fun b => td_nil) (fun b => (pd_call h_lead_in (hr.mono (by decide)) hgu (by rfl) (pa_c (pd_var 2 (pv 2)) pa_n) (al_c al_n))))) (pm_v pd_int (pm_c (pf_lst pa_n) pm_n))))
    (sd_cons (sd_for (passes_of rfl) rfl (id_zp (pa_c (pd_var 3 (pv 3)) (pa_c (pd_var 1 (pv 1)) pa_n)) (by rfl) T.b_zip) (gd_tup rfl (gd_cons (gd_name (pg_name (i := 6) sc_apart_in.nd rfl (by first | exact Or.inl rfl | exact Or.inr rfl))) (gd_cons (gd_name (pg_name (i := 2) sc_apart_in.nd rfl (by first | exact Or.inl rfl | exact Or.inr rfl))) gd_nil))) (sd_one (sd_asg (fun te h => ps_set (i := 4) sc_apart_in.nd rfl (by first | exact Or.inl rfl | exact Or.inr rfl) h) (pd_mul (pd_var 4 (pv 4)) (pd_ix (pd_var 2 (pv 2)) (pd_var 6 (pv 6)))))))
    (sd_cons (sd_frz 5 (sd_for (passes_of rfl) rfl (id_rng1 (by rfl) T.b_range (pa_c (pd_var 0 (pv 0)) pa_n)) (gd_name (pg_name (i := 7) sc_apart_in.nd rfl (by first | exact Or.inl rfl | exact Or.inr rfl))) (sd_one (sd_if (pt_cm (c_ni hu) (pd_var 7 (pv 7)) (pd_var 3 (pv 3))) (sd_cons (sd_asgO (fun te h => ps_set (i := 8) sc_apart_in.nd rfl (by first | exact Or.inl rfl | exact Or.inr rfl) h) (pf_rep (pf_lst (pa_c pd_int pa_n)) (pd_var 0 (pv 0))))
    (sd_cons (sd_setI (fun te t h g => ps_asg h g) set_list ss_list (pd_var 4 (pv 4)) (pd_var 8 (pv 8)) (pd_var 7 (pv 7)))
    (sd_cons (sd_for (passes_of rfl) rfl (id_zp (pa_c (pd_var 3 (pv 3)) (pa_c (pd_var 1 (pv 1)) pa_n)) (by rfl) T.b_zip) (gd_tup rfl (gd_cons (gd_name (pg_name (i := 6) sc_apart_in.nd rfl (by first | exact Or.inl rfl | exact Or.inr rfl))) (gd_cons (gd_name (pg_name (i := 2) sc_apart_in.nd rfl (by first | exact Or.inl rfl | exact Or.inr rfl))) gd_nil))) (sd_one (sd_setI (fun te t h g => ps_asg h g) set_list ss_list (pd_sub pd_int (pd_mul (pd_ix (pd_var 2 (pv 2)) (pd_var 7 (pv 7))) (pd_fdiv (pd_var 4 (pv 4)) (pd_ix (pd_var 2 (pv 2)) (pd_var 6 (pv 6)))))) (pd_var 8 (pv 8)) (pd_var 6 (pv 6)))))
    (sd_one (sd_drop (pd_append (pd_var 5 (pv 5)) (pa_c (pd_ty bi_tuple (by rfl) T.b_tuple rfl (pa_c (pd_var 8 (pv 8)) pa_n)) pa_n))))))) sd_nil))))
    (sd_one (sd_ret (pd_call h_lot_in (hr.mono (by decide)) hgu (by rfl) (pa_c (pd_var 5 (pv 5)) pa_n) (al_c al_n)))))))
theorem sc_require_two_lots : FnScope ["width", "lot", "other"] ["width", "lot", "other"] (defScope (top 25)) := ⟨rfl, rfl, rfl, by decide +kernel, rfl, by decide +kernel, by decide +kernel⟩
theorem ok_require_two_lots {f : Addr} {fd : FuncData} (T : Glb mg) (F : Fun K "require_two_lots" "require_two_lots" (top 25) f fd) (hm : mg "require_two_lots" = some (.ref f)) (hb : Binds K fd ["width", "lot", "other"] []) (h_require_width : FnD P w K mg base "require_width" 2 1 F_require_width) (h_require_lot : FnD P w K mg base "require_lot" 4 2 F_require_lot) : FnD P w K mg base "require_two_lots" 5 3 F_require_two_lots := by
  refine fnD (k := 4) F hm hb sc_require_two_lots F_require_two_lots fun cdv A outer s H E hr hgu ds μ hl hG => ⟨b_require_two_lots, ?_, rfl⟩
  have hu := room_u hr
  exact (sd_cons (sd_drop (pd_call h_require_width (hr.mono (by decide)) hgu (by rfl) (pa_c (pd_var 0 (pv 0)) pa_n) (al_c al_n)))
    (sd_cons (sd_drop (pd_call h_require_lot (hr.mono (by decide)) hgu (by rfl) (pa_c (pd_var 0 (pv 0)) (pa_c (pd_var 1 (pv 1)) pa_n)) (al_c (al_c al_n))))
    (sd_one (sd_drop (pd_call h_require_lot (hr.mono (by decide)) hgu (by rfl) (pa_c (pd_var 0 (pv 0)) (pa_c (pd_var 2 (pv 2)) pa_n)) (al_c (al_c al_n)))))))
theorem sc_met_lots : FnScope ["width", "lot", "other"] ["width", "lot", "other"] (defScope (top 27)) := ⟨rfl, rfl, rfl, by decide +kernel, rfl, by decide +kernel, by decide +kernel⟩
theorem ok_met_lots {f : Addr} {fd : FuncData} (T : Glb mg) (F : Fun K "met_lots" "met_lots" (top 27) f fd) (hm : mg "met_lots" = some (.ref f)) (hb : Binds K fd ["width", "lot", "other"] []) (h_lot_in : FnD P w K mg base "lot_in" 5 1 F_lot_in) (h_apart_in : FnD P w K mg base "apart_in" 6 2 F_apart_in) (h_require_two_lots : FnD P w K mg base "require_two_lots" 5 3 F_require_two_lots) : FnD P w K mg base "met_lots" 7 3 F_met_lots := by
  refine fnD (k := 6) F hm hb sc_met_lots F_met_lots fun cdv A outer s H E hr hgu ds μ hl hG => ⟨b_met_lots, ?_, rfl⟩
  have hu := room_u hr
  exact (sd_cons (sd_drop (pd_call h_require_two_lots (hr.mono (by decide)) hgu (by rfl) (pa_c (pd_var 0 (pv 0)) (pa_c (pd_var 1 (pv 1)) (pa_c (pd_var 2 (pv 2)) pa_n))) (al_c (al_c (al_c al_n)))))
    (sd_one (sd_ret (pd_call h_apart_in (hr.mono (by decide)) hgu (by rfl) (pa_c (pd_var 0 (pv 0)) (pa_c (pd_call h_lot_in (hr.mono (by decide)) hgu (by rfl) (pa_c (pd_add (pd_call h_apart_in (hr.mono (by decide)) hgu (by rfl) (pa_c (pd_var 0 (pv 0)) (pa_c (pd_var 1 (pv 1)) pa_n)) (al_c (al_c al_n))) (pd_call h_apart_in (hr.mono (by decide)) hgu (by rfl) (pa_c (pd_var 0 (pv 0)) (pa_c (pd_var 2 (pv 2)) pa_n)) (al_c (al_c al_n)))) pa_n) (al_c al_n)) pa_n)) (al_c (al_c al_n))))))
theorem sc_rows_apart : FnScope ["width", "lot"] ["width", "lot"] (defScope (top 28)) := ⟨rfl, rfl, rfl, by decide +kernel, rfl, by decide +kernel, by decide +kernel⟩
theorem ok_rows_apart {f : Addr} {fd : FuncData} (T : Glb mg) (F : Fun K "rows_apart" "rows_apart" (top 28) f fd) (hm : mg "rows_apart" = some (.ref f)) (hb : Binds K fd ["width", "lot"] []) (h_require_width : FnD P w K mg base "require_width" 2 1 F_require_width) (h_apart_in : FnD P w K mg base "apart_in" 6 2 F_apart_in) (h_require_lot : FnD P w K mg base "require_lot" 4 2 F_require_lot) : FnD P w K mg base "rows_apart" 7 2 F_rows_apart := by
  refine fnD (k := 6) F hm hb sc_rows_apart F_rows_apart fun cdv A outer s H E hr hgu ds μ hl hG => ⟨b_rows_apart, ?_, rfl⟩
  have hu := room_u hr
  exact (sd_cons (sd_drop (pd_call h_require_width (hr.mono (by decide)) hgu (by rfl) (pa_c (pd_var 0 (pv 0)) pa_n) (al_c al_n)))
    (sd_cons (sd_drop (pd_call h_require_lot (hr.mono (by decide)) hgu (by rfl) (pa_c (pd_var 0 (pv 0)) (pa_c (pd_var 1 (pv 1)) pa_n)) (al_c (al_c al_n))))
    (sd_one (sd_ret (pd_call h_apart_in (hr.mono (by decide)) hgu (by rfl) (pa_c (pd_var 0 (pv 0)) (pa_c (pd_var 1 (pv 1)) pa_n)) (al_c (al_c al_n)))))))
theorem sc_L_dice : FnScope ["script", "spot", "cell", "great", "seed"] ["script", "spot"] (defScope (top 30)) := ⟨rfl, rfl, rfl, by decide +kernel, rfl, by decide +kernel, by decide +kernel⟩
theorem ok_L_dice {f : Addr} {fd : FuncData} (T : Glb mg) (F : Fun K "_law_dice" "_law_dice" (top 30) f fd) (hm : mg "_law_dice" = some (.ref f)) (hb : Binds K fd ["script", "spot"] []) : FnD P w K mg base "_law_dice" 1 2 F_L_dice := by
  refine fnD (k := 0) F hm hb sc_L_dice F_L_dice fun cdv A outer s H E hr hgu ds μ hl hG => ⟨b_L_dice, ?_, rfl⟩
  have hu := room_u hr
  exact (sd_cons (sd_asg (fun te h => ps_set (i := 2) sc_L_dice.nd rfl (by first | exact Or.inl rfl | exact Or.inr rfl) h) (pd_if (pt_cm c_lt (pd_var 1 (pv 1)) (pd_b bi_len (by rfl) T.b_len rfl (pa_c (pd_var 0 (pv 0)) pa_n))) (pd_ty bi_int (by rfl) T.b_int rfl (pa_c (pd_ix (pd_var 0 (pv 0)) (pd_var 1 (pv 1))) pa_n)) (pd_add (pd_mul pd_int (pd_var 1 (pv 1))) pd_int)))
    (sd_cons (sd_asg (fun te h => ps_set (i := 3) sc_L_dice.nd rfl (by first | exact Or.inl rfl | exact Or.inr rfl) h) (pd_mod (pd_ty bi_int (by rfl) T.b_int rfl (pa_c (pd_b bi_abs (by rfl) T.b_abs rfl (pa_c (pd_var 2 (pv 2)) pa_n)) pa_n)) (pd_pow (pd_pow pd_int pd_int) pd_int)))
    (sd_cons (sd_asg (fun te h => ps_set (i := 4) sc_L_dice.nd rfl (by first | exact Or.inl rfl | exact Or.inr rfl) h) (pd_add (pd_add (pd_add (pd_mul (pd_mod (pd_var 3 (pv 3)) pd_int) pd_int) (pd_mul pd_int (pd_var 1 (pv 1)))) (pd_mul pd_int (pd_ty bi_int (by rfl) T.b_int rfl (pa_c (pd_cm c_lt (pd_var 2 (pv 2)) pd_int) pa_n)))) pd_int))
    (sd_one (sd_retF (pf_lst (pa_c (pd_b (bi_max2 rfl) (by rfl) T.b_max rfl (pa_c pd_int (pa_c (pd_sub (pd_var 3 (pv 3)) (pd_pow pd_int pd_int)) pa_n))) (pa_c (pd_var 4 (pv 4)) (pa_c pd_int pa_n)))))))))
theorem sc_L_roll : FnScope ["dice", "total", "found", "one", "two"] ["dice", "total"] (defScope (top 31)) := ⟨rfl, rfl, rfl, by decide +kernel, rfl, by decide +kernel, by decide +kernel⟩
theorem ok_L_roll {f : Addr} {fd : FuncData} (T : Glb mg) (F : Fun K "_law_roll" "_law_roll" (top 31) f fd) (hm : mg "_law_roll" = some (.ref f)) (hb : Binds K fd ["dice", "total"] []) : FnD P w K mg base "_law_roll" 1 2 F_L_roll := by
  refine fnD (k := 0) F hm hb sc_L_roll F_L_roll fun cdv A outer s H E hr hgu ds μ hl hG => ⟨b_L_roll, ?_, rfl⟩
  have hu := room_u hr
  exact (sd_cons (sd_if (pt_cm c_gt (pd_ix (pd_var 0 (pv 0)) pd_int) pd_int) (sd_cons (sd_asg (fun te h => ps_set (i := 2) sc_L_roll.nd rfl (by first | exact Or.inl rfl | exact Or.inr rfl) h) (pd_mod (pd_ix (pd_var 0 (pv 0)) pd_int) (pd_var 1 (pv 1))))
    (sd_cons (sd_setI (fun te t h g => ps_asg h g) set_list ss_list (pd_fdiv (pd_ix (pd_var 0 (pv 0)) pd_int) (pd_var 1 (pv 1))) (pd_var 0 (pv 0)) pd_int)
    (sd_one (sd_ret (pd_ty bi_int (by rfl) T.b_int rfl (pa_c (pd_var 2 (pv 2)) pa_n)))))) sd_nil)
    (sd_cons (sd_setI (fun te t h g => ps_asg h g) set_list ss_list (pd_add (pd_ix (pd_var 0 (pv 0)) pd_int) pd_int) (pd_var 0 (pv 0)) pd_int)
    (sd_cons (sd_asg (fun te h => ps_set (i := 3) sc_L_roll.nd rfl (by first | exact Or.inl rfl | exact Or.inr rfl) h) (pd_mod (pd_add (pd_ix (pd_var 0 (pv 0)) pd_int) (pd_mul pd_int (pd_ix (pd_var 0 (pv 0)) pd_int))) pd_int))
    (sd_cons (sd_asg (fun te h => ps_set (i := 4) sc_L_roll.nd rfl (by first | exact Or.inl rfl | exact Or.inr rfl) h) (pd_add (pd_mul (pd_mod (pd_add (pd_mul (pd_var 3 (pv 3)) (pd_var 3 (pv 3))) (pd_mul pd_int (pd_ix (pd_var 0 (pv 0)) pd_int))) pd_int) pd_int) (pd_var 3 (pv 3))))
    (sd_one (sd_ret (pd_mod (pd_ty bi_int (by rfl) T.b_int rfl (pa_c (pd_fdiv (pd_var 4 (pv 4)) pd_int) pa_n)) (pd_var 1 (pv 1)))))))))
theorem sc_L_lead : FnScope ["row", "at", "number"] ["row"] (defScope (top 35)) := ⟨rfl, rfl, rfl, by decide +kernel, rfl, by decide +kernel, by decide +kernel⟩
theorem ok_L_lead {f : Addr} {fd : FuncData} (T : Glb mg) (F : Fun K "_law_lead" "_law_lead" (top 35) f fd) (hm : mg "_law_lead" = some (.ref f)) (hb : Binds K fd ["row"] []) : FnD P w K mg base "_law_lead" 1 1 F_L_lead := by
  refine fnD (k := 0) F hm hb sc_L_lead F_L_lead fun cdv A outer s H E hr hgu ds μ hl hG => ⟨b_L_lead, ?_, rfl⟩
  have hu := room_u hr
  exact (sd_one (sd_ret (pd_b (bi_min rfl) (by rfl) T.b_min rfl (pa_c (pd_add (pd_f (pf_lc (own := [("at", 1), ("number", 2)]) rfl sc_L_lead.nd (by kernel_rfl) (id_en (pa_c (pd_var 0 (pv 0)) pa_n) (by rfl) T.b_enumerate) (fun b => (gd_tup rfl (gd_cons (gd_name (pg_name (i := 1) sc_L_lead.nd rfl (by first | exact Or.inl rfl | exact Or.inr rfl))) (gd_cons (gd_name (pg_name (i := 2) sc_L_lead.nd rfl (by first | exact Or.inl rfl | exact Or.inr rfl))) gd_nil)))) (fun b => (td_one (pt_cm (c_neS hu) (pd_var 2 (pv 2)) pd_int))) (fun b => (pd_var 1 (pv 1))))) (pd_f (pf_lst (pa_c (pd_b bi_len (by rfl) T.b_len rfl (pa_c (pd_var 0 (pv 0)) pa_n)) pa_n)))) pa_n))))
theorem sc_L_gcd : FnScope ["one", "other"] ["one", "other"] (defScope (top 34)) := ⟨rfl, rfl, rfl, by decide +kernel, rfl, by decide +kernel, by decide +kernel⟩
theorem ok_L_gcd {f : Addr} {fd : FuncData} (T : Glb mg) (F : Fun K "_law_gcd" "_law_gcd" (top 34) f fd) (hm : mg "_law_gcd" = some (.ref f)) (hb : Binds K fd ["one", "other"] []) : FnD P w K mg base "_law_gcd" 1 2 F_L_gcd := by
  refine fnD (k := 0) F hm hb sc_L_gcd F_L_gcd fun cdv A outer s H E hr hgu ds μ hl hG => ⟨b_L_gcd (fu0_L_gcd ds μ), ?_, rfl⟩
  have hu := room_u hr
  exact (sd_cons (sd_while (fu0_L_gcd ds μ) (passes_of rfl) (pt_cm (c_neS hu) (pd_var 1 (pv 1)) pd_int) (sd_one (sd_par (fun ta h => ps_par (i := 0) (j := 1) rfl sc_L_gcd.nd rfl rfl (by decide) rfl rfl h (by rfl)) (pa_c (pd_var 1 (pv 1)) (pa_c (pd_mod (pd_var 0 (pv 0)) (pd_var 1 (pv 1))) pa_n)))))
    (sd_one (sd_ret (pd_b bi_abs (by rfl) T.b_abs rfl (pa_c (pd_var 0 (pv 0)) pa_n)))))
theorem sc_L_lowest : FnScope ["row", "share", "number", "sign"] ["row"] (defScope (top 36)) := ⟨rfl, rfl, rfl, by decide +kernel, rfl, by decide +kernel, by decide +kernel⟩
theorem ok_L_lowest {f : Addr} {fd : FuncData} (T : Glb mg) (F : Fun K "_law_lowest" "_law_lowest" (top 36) f fd) (hm : mg "_law_lowest" = some (.ref f)) (hb : Binds K fd ["row"] []) (h_L_gcd : FnD P w K mg base "_law_gcd" 1 2 F_L_gcd) (h_L_lead : FnD P w K mg base "_law_lead" 1 1 F_L_lead) : FnD P w K mg base "_law_lowest" 2 1 F_L_lowest := by
  refine fnD (k := 1) F hm hb sc_L_lowest F_L_lowest fun cdv A outer s H E hr hgu ds μ hl hG => ⟨b_L_lowest, ?_, rfl⟩
  have hu := room_u hr
  exact (sd_cons (sd_asg (fun te h => ps_set (i := 1) sc_L_lowest.nd rfl (by first | exact Or.inl rfl | exact Or.inr rfl) h) pd_int)
    (sd_cons (sd_for (passes_of rfl) rfl (id_seq (pd_var 0 (pv 0))) (gd_name (pg_name (i := 2) sc_L_lowest.nd rfl (by first | exact Or.inl rfl | exact Or.inr rfl))) (sd_one (sd_asg (fun te h => ps_set (i := 1) sc_L_lowest.nd rfl (by first | exact Or.inl rfl | exact Or.inr rfl) h) (pd_call h_L_gcd (hr.mono (by decide)) hgu (by rfl) (pa_c (pd_var 1 (pv 1)) (pa_c (pd_var 2 (pv 2)) pa_n)) (al_c (al_c al_n))))))
    (sd_cons (sd_if (pt_cm (c_eqS hu) (pd_var 1 (pv 1)) pd_int) (sd_one (sd_ret (pd_ty bi_tuple (by rfl) T.b_tuple rfl (pa_c (pd_var 0 (pv 0)) pa_n)))) sd_nil)
    (sd_cons (sd_asg (fun te h => ps_set (i := 3) sc_L_lowest.nd rfl (by first | exact Or.inl rfl | exact Or.inr rfl) h) (pd_if (pt_cm c_gt (pd_ix (pd_var 0 (pv 0)) (pd_call h_L_lead (hr.mono (by decide)) hgu (by rfl) (pa_c (pd_var 0 (pv 0)) pa_n) (al_c al_n))) pd_int) pd_int (pd_neg pd_int)))
    (sd_one (sd_ret (pd_ty bi_tuple (by rfl) T.b_tuple rfl (pa_c (pd_f (pf_lc (own := [("number", 2)]) rfl sc_L_lowest.nd (by kernel_rfl) (id_seq (pd_var 0 (pv 0))) (fun b => (gd_name (pg_name (i := 2) sc_L_lowest.nd rfl (by first | exact Or.inl rfl | exact Or.inr rfl)))) (fun b => td_nil) (fun b => (pd_mul (pd_var 3 (pv 3)) (pd_fdiv (pd_var 2 (pv 2)) (pd_var 1 (pv 1))))))) pa_n))))))))
theorem sc_L_less : FnScope ["row", "other", "at", "one", "two"] ["row", "other"] (defScope (top 38)) := ⟨rfl, rfl, rfl, by decide +kernel, rfl, by decide +kernel, by decide +kernel⟩
theorem ok_L_less {f : Addr} {fd : FuncData} (T : Glb mg) (F : Fun K "_law_less" "_law_less" (top 38) f fd) (hm : mg "_law_less" = some (.ref f)) (hb : Binds K fd ["row", "other"] []) (h_L_lead : FnD P w K mg base "_law_lead" 1 1 F_L_lead) : FnD P w K mg base "_law_less" 2 2 F_L_less := by
  refine fnD (k := 1) F hm hb sc_L_less F_L_less fun cdv A outer s H E hr hgu ds μ hl hG => ⟨b_L_less, ?_, rfl⟩
  have hu := room_u hr
  exact (sd_cons (sd_asg (fun te h => ps_set (i := 2) sc_L_less.nd rfl (by first | exact Or.inl rfl | exact Or.inr rfl) h) (pd_call h_L_lead (hr.mono (by decide)) hgu (by rfl) (pa_c (pd_var 1 (pv 1)) pa_n) (al_c al_n)))
    (sd_cons (sd_if (pt_cm (c_eqS hu) (pd_ix (pd_var 0 (pv 0)) (pd_var 2 (pv 2))) pd_int) (sd_one (sd_ret (pd_var 0 (pv 0)))) sd_nil)
    (sd_one (sd_ret (pd_ty bi_tuple (by rfl) T.b_tuple rfl (pa_c (pd_f (pf_lc (own := [("one", 3), ("two", 4)]) rfl sc_L_less.nd (by kernel_rfl) (id_zp (pa_c (pd_var 0 (pv 0)) (pa_c (pd_var 1 (pv 1)) pa_n)) (by rfl) T.b_zip) (fun b => (gd_tup rfl (gd_cons (gd_name (pg_name (i := 3) sc_L_less.nd rfl (by first | exact Or.inl rfl | exact Or.inr rfl))) (gd_cons (gd_name (pg_name (i := 4) sc_L_less.nd rfl (by first | exact Or.inl rfl | exact Or.inr rfl))) gd_nil)))) (fun b => td_nil) (fun b => (pd_sub (pd_mul (pd_ix (pd_var 1 (pv 1)) (pd_var 2 (pv 2))) (pd_var 3 (pv 3))) (pd_mul (pd_ix (pd_var 0 (pv 0)) (pd_var 2 (pv 2))) (pd_var 4 (pv 4))))))) pa_n))))))
theorem sc_L_with_row : FnScope ["lot", "row", "other", "rows", "pair", "one"] ["lot", "row"] (defScope (top 39)) := ⟨rfl, rfl, rfl, by decide +kernel, rfl, by decide +kernel, by decide +kernel⟩
theorem ok_L_with_row {f : Addr} {fd : FuncData} (T : Glb mg) (F : Fun K "_law_with_row" "_law_with_row" (top 39) f fd) (hm : mg "_law_with_row" = some (.ref f)) (hb : Binds K fd ["lot", "row"] []) (h_L_lead : FnD P w K mg base "_law_lead" 1 1 F_L_lead) (h_L_lowest : FnD P w K mg base "_law_lowest" 2 1 F_L_lowest) (h_L_less : FnD P w K mg base "_law_less" 2 2 F_L_less) : FnD P w K mg base "_law_with_row" 3 2 F_L_with_row := by
  refine fnD (k := 2) F hm hb sc_L_with_row F_L_with_row fun cdv A outer s H E hr hgu ds μ hl hG => ⟨b_L_with_row, ?_, rfl⟩
  have hu := room_u hr
  exact (sd_cons (sd_for (passes_of rfl) rfl (id_seq (pd_var 0 (pv 0))) (gd_name (pg_name (i := 2) sc_L_with_row.nd rfl (by first | exact Or.inl rfl | exact Or.inr rfl))) (sd_one (sd_asg (fun te h => ps_set (i := 1) sc_L_with_row.nd rfl (by first | exact Or.inl rfl | exact Or.inr rfl) h) (pd_call h_L_less (hr.mono (by decide)) hgu (by rfl) (pa_c (pd_var 1 (pv 1)) (pa_c (pd_var 2 (pv 2)) pa_n)) (al_c (al_c al_n))))))
    (sd_cons (sd_if (pt_cm (c_eqS hu) (pd_call h_L_lead (hr.mono (by decide)) hgu (by rfl) (pa_c (pd_var 1 (pv 1)) pa_n) (al_c al_n)) (pd_b bi_len (by rfl) T.b_len rfl (pa_c (pd_var 1 (pv 1)) pa_n))) (sd_one (sd_ret (pd_var 0 (pv 0)))) sd_nil)
    (sd_cons (sd_asg (fun te h => ps_set (i := 1) sc_L_with_row.nd rfl (by first | exact Or.inl rfl | exact Or.inr rfl) h) (pd_call h_L_lowest (hr.mono (by decide)) hgu (by rfl) (pa_c (pd_var 1 (pv 1)) pa_n) (al_c al_n)))
    (sd_cons (sd_asg (fun te h => ps_set (i := 3) sc_L_with_row.nd rfl (by first | exact Or.inl rfl | exact Or.inr rfl) h) (pd_add (pd_f (pf_lc (own := [("other", 2)]) rfl sc_L_with_row.nd (by kernel_rfl) (id_seq (pd_var 0 (pv 0))) (fun b => (gd_name (pg_name (i := 2) sc_L_with_row.nd rfl (by first | exact Or.inl rfl | exact Or.inr rfl)))) (fun b => td_nil) (fun b => (pd_call h_L_lowest (hr.mono (by decide)) hgu (by rfl) (pa_c (pd_call h_L_less (hr.mono (by decide)) hgu (by rfl) (pa_c (pd_var 2 (pv 2)) (pa_c (pd_var 1 (pv 1)) pa_n)) (al_c (al_c al_n))) pa_n) (al_c al_n))))) (pd_f (pf_lst (pa_c (pd_var 1 (pv 1)) pa_n)))))
    (sd_one (sd_ret (pd_ty bi_tuple (by rfl) T.b_tuple rfl (pa_c (pd_f (pf_lc (own := [("pair", 4)]) rfl sc_L_with_row.nd (by kernel_rfl) (id_seq (pd_f (pf_b (bif_sorted hu) (by rfl) T.b_sorted rfl (pa_c (pd_f (pf_lc (own := [("one", 5)]) rfl sc_L_with_row.nd (by kernel_rfl) (id_seq (pd_var 3 (pv 3))) (fun b => (gd_name (pg_name (i := 5) sc_L_with_row.nd rfl (by first | exact Or.inl rfl | exact Or.inr rfl)))) (fun b => td_nil) (fun b => (pd_tup (pa_c (pd_call h_L_lead (hr.mono (by decide)) hgu (by rfl) (pa_c (pd_var 5 (pv 5)) pa_n) (al_c al_n)) (pa_c (pd_var 5 (pv 5)) pa_n)))))) pa_n)))) (fun b => (gd_name (pg_name (i := 4) sc_L_with_row.nd rfl (by first | exact Or.inl rfl | exact Or.inr rfl)))) (fun b => td_nil) (fun b => (pd_ix (pd_var 4 (pv 4)) pd_int)))) pa_n))))))))
theorem sc_L_lot : FnScope ["rows", "lot", "row"] ["rows"] (defScope (top 40)) := ⟨rfl, rfl, rfl, by decide +kernel, rfl, by decide +kernel, by decide +kernel⟩
theorem ok_L_lot {f : Addr} {fd : FuncData} (T : Glb mg) (F : Fun K "_law_lot" "_law_lot" (top 40) f fd) (hm : mg "_law_lot" = some (.ref f)) (hb : Binds K fd ["rows"] []) (h_L_with_row : FnD P w K mg base "_law_with_row" 3 2 F_L_with_row) : FnD P w K mg base "_law_lot" 4 1 F_L_lot := by
  refine fnD (k := 3) F hm hb sc_L_lot F_L_lot fun cdv A outer s H E hr hgu ds μ hl hG => ⟨b_L_lot, ?_, rfl⟩
  have hu := room_u hr
  exact (sd_cons (sd_asg (fun te h => ps_set (i := 1) sc_L_lot.nd rfl (by first | exact Or.inl rfl | exact Or.inr rfl) h) (pd_tup pa_n))
    (sd_cons (sd_for (passes_of rfl) rfl (id_seq (pd_var 0 (pv 0))) (gd_name (pg_name (i := 2) sc_L_lot.nd rfl (by first | exact Or.inl rfl | exact Or.inr rfl))) (sd_one (sd_asg (fun te h => ps_set (i := 1) sc_L_lot.nd rfl (by first | exact Or.inl rfl | exact Or.inr rfl) h) (pd_call h_L_with_row (hr.mono (by decide)) hgu (by rfl) (pa_c (pd_var 1 (pv 1)) (pa_c (pd_var 2 (pv 2)) pa_n)) (al_c (al_c al_n))))))
    (sd_one (sd_ret (pd_var 1 (pv 1))))))
theorem sc_L_units : FnScope ["wide", "spot", "at"] ["wide"] (defScope (top 43)) := ⟨rfl, rfl, rfl, by decide +kernel, rfl, by decide +kernel, by decide +kernel⟩
theorem ok_L_units {f : Addr} {fd : FuncData} (T : Glb mg) (F : Fun K "_law_units" "_law_units" (top 43) f fd) (hm : mg "_law_units" = some (.ref f)) (hb : Binds K fd ["wide"] []) : FnD P w K mg base "_law_units" 1 1 F_L_units := by
  refine fnD (k := 0) F hm hb sc_L_units F_L_units fun cdv A outer s H E hr hgu ds μ hl hG => ⟨b_L_units, ?_, rfl⟩
  have hu := room_u hr
  exact (sd_one (sd_retF (pf_lc (own := [("spot", 1)]) rfl sc_L_units.nd (by kernel_rfl) (id_rng1 (by rfl) T.b_range (pa_c (pd_var 0 (pv 0)) pa_n)) (fun b => (gd_name (pg_name (i := 1) sc_L_units.nd rfl (by first | exact Or.inl rfl | exact Or.inr rfl)))) (fun b => td_nil) (fun b => (pd_ty bi_tuple (by rfl) T.b_tuple rfl (pa_c (pd_f (pf_lc (own := [("at", 2)]) rfl sc_L_units.nd (by kernel_rfl) (id_rng1 (by rfl) T.b_range (pa_c (pd_var 0 (pv 0)) pa_n)) (fun b => (gd_name (pg_name (i := 2) sc_L_units.nd rfl (by first | exact Or.inl rfl | exact Or.inr rfl)))) (fun b => td_nil) (fun b => (pd_ty bi_int (by rfl) T.b_int rfl (pa_c (pd_cm (c_eqS hu) (pd_var 2 (pv 2)) (pd_var 1 (pv 1))) pa_n))))) pa_n))))))
theorem sc_joined_lots : FnScope ["width", "lot", "other"] ["width", "lot", "other"] (defScope (top 26)) := ⟨rfl, rfl, rfl, by decide +kernel, rfl, by decide +kernel, by decide +kernel⟩
theorem ok_joined_lots {f : Addr} {fd : FuncData} (T : Glb mg) (F : Fun K "joined_lots" "joined_lots" (top 26) f fd) (hm : mg "joined_lots" = some (.ref f)) (hb : Binds K fd ["width", "lot", "other"] []) (h_lot_in : FnD P w K mg base "lot_in" 5 1 F_lot_in) (h_require_two_lots : FnD P w K mg base "require_two_lots" 5 3 F_require_two_lots) : FnD P w K mg base "joined_lots" 6 3 F_joined_lots := by
  refine fnD (k := 5) F hm hb sc_joined_lots F_joined_lots fun cdv A outer s H E hr hgu ds μ hl hG => ⟨b_joined_lots, ?_, rfl⟩
  have hu := room_u hr
  exact (sd_cons (sd_drop (pd_call h_require_two_lots (hr.mono (by decide)) hgu (by rfl) (pa_c (pd_var 0 (pv 0)) (pa_c (pd_var 1 (pv 1)) (pa_c (pd_var 2 (pv 2)) pa_n))) (al_c (al_c (al_c al_n)))))
    (sd_one (sd_ret (pd_call h_lot_in (hr.mono (by decide)) hgu (by rfl) (pa_c (pd_add (pd_var 1 (pv 1)) (pd_var 2 (pv 2))) pa_n) (al_c al_n)))))
theorem sc_L_dot : FnScope ["one", "other", "left", "right"] ["one", "other"] (defScope (top 37)) := ⟨rfl, rfl, rfl, by decide +kernel, rfl, by decide +kernel, by decide +kernel⟩
theorem ok_L_dot {f : Addr} {fd : FuncData} (T : Glb mg) (F : Fun K "_law_dot" "_law_dot" (top 37) f fd) (hm : mg "_law_dot" = some (.ref f)) (hb : Binds K fd ["one", "other"] []) : FnD P w K mg base "_law_dot" 1 2 F_L_dot := by
  refine fnD (k := 0) F hm hb sc_L_dot F_L_dot fun cdv A outer s H E hr hgu ds μ hl hG => ⟨b_L_dot, ?_, rfl⟩
  have hu := room_u hr
  exact (sd_one (sd_ret (pd_b (bi_sum rfl) (by rfl) T.b_sum rfl (pa_c (pd_f (pf_lc (own := [("left", 2), ("right", 3)]) rfl sc_L_dot.nd (by kernel_rfl) (id_zp (pa_c (pd_var 0 (pv 0)) (pa_c (pd_var 1 (pv 1)) pa_n)) (by rfl) T.b_zip) (fun b => (gd_tup rfl (gd_cons (gd_name (pg_name (i := 2) sc_L_dot.nd rfl (by first | exact Or.inl rfl | exact Or.inr rfl))) (gd_cons (gd_name (pg_name (i := 3) sc_L_dot.nd rfl (by first | exact Or.inl rfl | exact Or.inr rfl))) gd_nil)))) (fun b => td_nil) (fun b => (pd_mul (pd_var 2 (pv 2)) (pd_var 3 (pv 3)))))) pa_n))))
theorem sc_L_holds : FnScope ["lot", "row", "other"] ["lot", "row"] (defScope (top 41)) := ⟨rfl, rfl, rfl, by decide +kernel, rfl, by decide +kernel, by decide +kernel⟩
theorem ok_L_holds {f : Addr} {fd : FuncData} (T : Glb mg) (F : Fun K "_law_holds" "_law_holds" (top 41) f fd) (hm : mg "_law_holds" = some (.ref f)) (hb : Binds K fd ["lot", "row"] []) (h_L_lead : FnD P w K mg base "_law_lead" 1 1 F_L_lead) (h_L_less : FnD P w K mg base "_law_less" 2 2 F_L_less) : FnD P w K mg base "_law_holds" 3 2 F_L_holds := by
  refine fnD (k := 2) F hm hb sc_L_holds F_L_holds fun cdv A outer s H E hr hgu ds μ hl hG => ⟨b_L_holds, ?_, rfl⟩
  have hu := room_u hr
  exact (sd_cons (sd_for (passes_of rfl) rfl (id_seq (pd_var 0 (pv 0))) (gd_name (pg_name (i := 2) sc_L_holds.nd rfl (by first | exact Or.inl rfl | exact Or.inr rfl))) (sd_one (sd_asg (fun te h => ps_set (i := 1) sc_L_holds.nd rfl (by first | exact Or.inl rfl | exact Or.inr rfl) h) (pd_call h_L_less (hr.mono (by decide)) hgu (by rfl) (pa_c (pd_var 1 (pv 1)) (pa_c (pd_var 2 (pv 2)) pa_n)) (al_c (al_c al_n))))))
    (sd_one (sd_ret (pd_cm (c_eqS hu) (pd_call h_L_lead (hr.mono (by decide)) hgu (by rfl) (pa_c (pd_var 1 (pv 1)) pa_n) (al_c al_n)) (pd_b bi_len (by rfl) T.b_len rfl (pa_c (pd_var 1 (pv 1)) pa_n))))))
theorem sc_L_apart : FnScope ["lot", "wide", "row", "leads", "found", "at", "share", "line"] ["lot", "wide"] (defScope (top 42)) := ⟨rfl, rfl, rfl, by decide +kernel, rfl, by decide +kernel, by decide +kernel⟩
theorem ok_L_apart {f : Addr} {fd : FuncData} (T : Glb mg) (F : Fun K "_law_apart" "_law_apart" (top 42) f fd) (hm : mg "_law_apart" = some (.ref f)) (hb : Binds K fd ["lot", "wide"] []) (h_L_lead : FnD P w K mg base "_law_lead" 1 1 F_L_lead) (h_L_lot : FnD P w K mg base "_law_lot" 4 1 F_L_lot) : FnD P w K mg base "_law_apart" 5 2 F_L_apart := by
  refine fnD (k := 4) F hm hb sc_L_apart F_L_apart fun cdv A outer s H E hr hgu ds μ hl hG => ⟨b_L_apart, ?_, rfl⟩
  have hu := room_u hr
  exact (sd_cons (sd_parM (fun ta h => ps_par (i := 3) (j := 4) rfl sc_L_apart.nd rfl rfl (by decide) rfl rfl h (by rfl)) (pm_v (pd_f (pf_lc (own := [("row", 2)]) rfl sc_L_apart.nd (by kernel_rfl) (id_seq (pd_var 0 (pv 0))) (fun b => (gd_name (pg_name (i := 2) sc_L_apart.nd rfl (by first | exact Or.inl rfl | exact Or.inr rfl)))) (fun b => td_nil) (fun b => (pd_call h_L_lead (hr.mono (by decide)) hgu (by rfl) (pa_c (pd_var 2 (pv 2)) pa_n) (al_c al_n))))) (pm_c (pf_lst pa_n) pm_n)))
    (sd_cons (sd_frz 4 (sd_for (passes_of rfl) rfl (id_rng1 (by rfl) T.b_range (pa_c (pd_var 1 (pv 1)) pa_n)) (gd_name (pg_name (i := 5) sc_L_apart.nd rfl (by first | exact Or.inl rfl | exact Or.inr rfl))) (sd_one (sd_if (pt_cm (c_ni hu) (pd_var 5 (pv 5)) (pd_var 3 (pv 3))) (sd_cons (sd_asg (fun te h => ps_set (i := 6) sc_L_apart.nd rfl (by first | exact Or.inl rfl | exact Or.inr rfl) h) pd_int)
    (sd_cons (sd_for (passes_of rfl) rfl (id_seq (pd_var 0 (pv 0))) (gd_name (pg_name (i := 2) sc_L_apart.nd rfl (by first | exact Or.inl rfl | exact Or.inr rfl))) (sd_one (sd_asg (fun te h => ps_set (i := 6) sc_L_apart.nd rfl (by first | exact Or.inl rfl | exact Or.inr rfl) h) (pd_mul (pd_var 6 (pv 6)) (pd_ix (pd_var 2 (pv 2)) (pd_call h_L_lead (hr.mono (by decide)) hgu (by rfl) (pa_c (pd_var 2 (pv 2)) pa_n) (al_c al_n)))))))
    (sd_cons (sd_asgO (fun te h => ps_set (i := 7) sc_L_apart.nd rfl (by first | exact Or.inl rfl | exact Or.inr rfl) h) (pf_rep (pf_lst (pa_c pd_int pa_n)) (pd_var 1 (pv 1))))
    (sd_cons (sd_setI (fun te t h g => ps_asg h g) set_list ss_list (pd_var 6 (pv 6)) (pd_var 7 (pv 7)) (pd_var 5 (pv 5)))
    (sd_cons (sd_for (passes_of rfl) rfl (id_seq (pd_var 0 (pv 0))) (gd_name (pg_name (i := 2) sc_L_apart.nd rfl (by first | exact Or.inl rfl | exact Or.inr rfl))) (sd_one (sd_setI (fun te t h g => ps_asg h g) set_list ss_list (pd_sub pd_int (pd_mul (pd_ix (pd_var 2 (pv 2)) (pd_var 5 (pv 5))) (pd_fdiv (pd_var 6 (pv 6)) (pd_ix (pd_var 2 (pv 2)) (pd_call h_L_lead (hr.mono (by decide)) hgu (by rfl) (pa_c (pd_var 2 (pv 2)) pa_n) (al_c al_n)))))) (pd_var 7 (pv 7)) (pd_call h_L_lead (hr.mono (by decide)) hgu (by rfl) (pa_c (pd_var 2 (pv 2)) pa_n) (al_c al_n)))))
    (sd_one (sd_drop (pd_append (pd_var 4 (pv 4)) (pa_c (pd_ty bi_tuple (by rfl) T.b_tuple rfl (pa_c (pd_var 7 (pv 7)) pa_n)) pa_n))))))))) sd_nil))))
    (sd_one (sd_ret (pd_call h_L_lot (hr.mono (by decide)) hgu (by rfl) (pa_c (pd_var 4 (pv 4)) pa_n) (al_c al_n))))))
theorem sc_L_pick : FnScope ["dice", "items"] ["dice", "items"] (defScope (top 32)) := ⟨rfl, rfl, rfl, by decide +kernel, rfl, by decide +kernel, by decide +kernel⟩
theorem ok_L_pick {f : Addr} {fd : FuncData} (T : Glb mg) (F : Fun K "_law_pick" "_law_pick" (top 32) f fd) (hm : mg "_law_pick" = some (.ref f)) (hb : Binds K fd ["dice", "items"] []) (h_L_roll : FnD P w K mg base "_law_roll" 1 2 F_L_roll) : FnD P w K mg base "_law_pick" 2 2 F_L_pick := by
  refine fnD (k := 1) F hm hb sc_L_pick F_L_pick fun cdv A outer s H E hr hgu ds μ hl hG => ⟨b_L_pick, ?_, rfl⟩
  have hu := room_u hr
  exact (sd_one (sd_ret (pd_ix (pd_var 1 (pv 1)) (pd_call h_L_roll (hr.mono (by decide)) hgu (by rfl) (pa_c (pd_var 0 (pv 0)) (pa_c (pd_b bi_len (by rfl) T.b_len rfl (pa_c (pd_var 1 (pv 1)) pa_n)) pa_n)) (al_c (al_c al_n))))))
theorem sc_L_rw_drawn : FnScope ["dice", "wide", "many", "found", "turn", "way", "row", "one", "other", "left", "right", "at", "first", "last"] ["dice", "wide", "many"] (defScope (top 44)) := ⟨rfl, rfl, rfl, by decide +kernel, rfl, by decide +kernel, by decide +kernel⟩
theorem ok_L_rw_drawn {f : Addr} {fd : FuncData} (T : Glb mg) (F : Fun K "_law_rw_drawn" "_law_rw_drawn" (top 44) f fd) (hm : mg "_law_rw_drawn" = some (.ref f)) (hb : Binds K fd ["dice", "wide", "many"] []) (h_L_roll : FnD P w K mg base "_law_roll" 1 2 F_L_roll) (h_L_pick : FnD P w K mg base "_law_pick" 2 2 F_L_pick) : FnD P w K mg base "_law_rw_drawn" 3 3 F_L_rw_drawn := by
  refine fnD (k := 2) F hm hb sc_L_rw_drawn F_L_rw_drawn fun cdv A outer s H E hr hgu ds μ hl hG => ⟨b_L_rw_drawn, ?_, rfl⟩
  have hu := room_u hr
  exact (sd_cons (sd_asgO (fun te h => ps_set (i := 3) sc_L_rw_drawn.nd rfl (by first | exact Or.inl rfl | exact Or.inr rfl) h) (pf_lst pa_n))
    (sd_cons (sd_for (passes_of rfl) rfl (id_rng1 (by rfl) T.b_range (pa_c (pd_var 2 (pv 2)) pa_n)) (gd_name (pg_name (i := 4) sc_L_rw_drawn.nd rfl (by first | exact Or.inl rfl | exact Or.inr rfl))) (sd_cons (sd_asg (fun te h => ps_set (i := 5) sc_L_rw_drawn.nd rfl (by first | exact Or.inl rfl | exact Or.inr rfl) h) (pd_call h_L_roll (hr.mono (by decide)) hgu (by rfl) (pa_c (pd_var 0 (pv 0)) (pa_c pd_int pa_n)) (al_c (al_c al_n))))
    (sd_cons (sd_asg (fun te h => ps_set (i := 6) sc_L_rw_drawn.nd rfl (by first | exact Or.inl rfl | exact Or.inr rfl) h) (pd_ty bi_tuple (by rfl) T.b_tuple rfl (pa_c (pd_f (pf_lc (own := [("at", 11)]) rfl sc_L_rw_drawn.nd (by kernel_rfl) (id_rng1 (by rfl) T.b_range (pa_c (pd_var 1 (pv 1)) pa_n)) (fun b => (gd_name (pg_name (i := 11) sc_L_rw_drawn.nd rfl (by first | exact Or.inl rfl | exact Or.inr rfl)))) (fun b => td_nil) (fun b => (pd_call h_L_pick (hr.mono (by decide)) hgu (by rfl) (pa_c (pd_var 0 (pv 0)) (pa_c (pd_f (pf_lst (pa_c pd_int (pa_c pd_int (pa_c pd_int (pa_c (pd_neg pd_int) (pa_c pd_int (pa_c (pd_neg pd_int) (pa_c pd_int (pa_c (pd_add (pd_pow pd_int pd_int) pd_int) pa_n)))))))))) pa_n)) (al_c (al_c al_n)))))) pa_n)))
    (sd_cons (sd_if (pt_cm (c_eqS hu) (pd_var 5 (pv 5)) pd_int) (sd_one (sd_asg (fun te h => ps_set (i := 6) sc_L_rw_drawn.nd rfl (by first | exact Or.inl rfl | exact Or.inr rfl) h) (pd_mul (pd_tup (pa_c pd_int pa_n)) (pd_var 1 (pv 1))))) (sd_one (sd_if (PWD.pt (pw_a (pt_cm c_lt (pd_var 5 (pv 5)) pd_int) (pw_a1 (pt_cm (c_neS hu) (pd_var 3 (pv 3)) (pd_f (pf_lst pa_n)))))) (sd_cons (sd_par (fun ta h => ps_par (i := 7) (j := 8) rfl sc_L_rw_drawn.nd rfl rfl (by decide) rfl rfl h (by rfl)) (pa_c (pd_lend 3 (pd_call h_L_pick (hr.mono (by decide)) hgu (by rfl) (pa_c (pd_var 0 (pv 0)) (pa_c (pd_var 3 (pv 3)) pa_n)) (al_c (al_c al_n)))) (pa_c (pd_lend 3 (pd_call h_L_pick (hr.mono (by decide)) hgu (by rfl) (pa_c (pd_var 0 (pv 0)) (pa_c (pd_var 3 (pv 3)) pa_n)) (al_c (al_c al_n)))) pa_n)))
    (sd_cons (sd_asgG (fun te t h g => ps_asg h g) (pd_tup (pa_c (pd_sub (pd_call h_L_roll (hr.mono (by decide)) hgu (by rfl) (pa_c (pd_var 0 (pv 0)) (pa_c pd_int pa_n)) (al_c (al_c al_n))) pd_int) (pa_c (pd_sub (pd_call h_L_roll (hr.mono (by decide)) hgu (by rfl) (pa_c (pd_var 0 (pv 0)) (pa_c pd_int pa_n)) (al_c (al_c al_n))) pd_int) pa_n))) (gd_tup rfl (gd_cons (gd_name (pg_name (i := 9) sc_L_rw_drawn.nd rfl (by first | exact Or.inl rfl | exact Or.inr rfl))) (gd_cons (gd_name (pg_name (i := 10) sc_L_rw_drawn.nd rfl (by first | exact Or.inl rfl | exact Or.inr rfl))) gd_nil))))
    (sd_one (sd_asg (fun te h => ps_set (i := 6) sc_L_rw_drawn.nd rfl (by first | exact Or.inl rfl | exact Or.inr rfl) h) (pd_ty bi_tuple (by rfl) T.b_tuple rfl (pa_c (pd_f (pf_lc (own := [("first", 12), ("last", 13)]) rfl sc_L_rw_drawn.nd (by kernel_rfl) (id_zp (pa_c (pd_var 7 (pv 7)) (pa_c (pd_var 8 (pv 8)) pa_n)) (by rfl) T.b_zip) (fun b => (gd_tup rfl (gd_cons (gd_name (pg_name (i := 12) sc_L_rw_drawn.nd rfl (by first | exact Or.inl rfl | exact Or.inr rfl))) (gd_cons (gd_name (pg_name (i := 13) sc_L_rw_drawn.nd rfl (by first | exact Or.inl rfl | exact Or.inr rfl))) gd_nil)))) (fun b => td_nil) (fun b => (pd_add (pd_mul (pd_var 9 (pv 9)) (pd_var 12 (pv 12))) (pd_mul (pd_var 10 (pv 10)) (pd_var 13 (pv 13))))))) pa_n)))))) sd_nil)))
    (sd_one (sd_drop (pd_append (pd_var 3 (pv 3)) (pa_c (pd_var 6 (pv 6)) pa_n))))))))
    (sd_one (sd_retF (pf_take 3 (pv 3))))))
theorem sc_L_shuffled : FnScope ["dice", "items", "found", "left"] ["dice", "items"] (defScope (top 33)) := ⟨rfl, rfl, rfl, by decide +kernel, rfl, by decide +kernel, by decide +kernel⟩
theorem ok_L_shuffled {f : Addr} {fd : FuncData} (T : Glb mg) (F : Fun K "_law_shuffled" "_law_shuffled" (top 33) f fd) (hm : mg "_law_shuffled" = some (.ref f)) (hb : Binds K fd ["dice", "items"] []) (h_L_roll : FnD P w K mg base "_law_roll" 1 2 F_L_roll) : FnD P w K mg base "_law_shuffled" 2 2 F_L_shuffled := by
  refine fnD (k := 1) F hm hb sc_L_shuffled F_L_shuffled fun cdv A outer s H E hr hgu ds μ hl hG => ⟨b_L_shuffled (fu0_L_shuffled ds μ), ?_, rfl⟩
  have hu := room_u hr
  exact (sd_cons (sd_parM (fun ta h => ps_par (i := 2) (j := 3) rfl sc_L_shuffled.nd rfl rfl (by decide) rfl rfl h (by rfl)) (pm_c (pf_lst pa_n) (pm_c (pf_ty bif_list (by rfl) T.b_list rfl (pa_c (pd_var 1 (pv 1)) pa_n)) pm_n)))
    (sd_cons (sd_while (fu0_L_shuffled ds μ) (passes_of rfl) (pt_cm (c_neS hu) (pd_var 3 (pv 3)) (pd_f (pf_lst pa_n))) (sd_one (sd_drop (pd_append (pd_var 2 (pv 2)) (pa_c (pd_popAt (pd_var 3 (pv 3)) (pa_c (pd_call h_L_roll (hr.mono (by decide)) hgu (by rfl) (pa_c (pd_var 0 (pv 0)) (pa_c (pd_b bi_len (by rfl) T.b_len rfl (pa_c (pd_var 3 (pv 3)) pa_n)) pa_n)) (al_c (al_c al_n))) pa_n)) pa_n)))))
    (sd_one (sd_retF (pf_take 2 (pv 2))))))
theorem sc_L_rw_mixed : FnScope ["dice", "rows", "found", "turn", "one", "other", "by", "told", "row", "left", "right", "number"] ["dice", "rows"] (defScope (top 45)) := ⟨rfl, rfl, rfl, by decide +kernel, rfl, by decide +kernel, by decide +kernel⟩
theorem ok_L_rw_mixed {f : Addr} {fd : FuncData} (T : Glb mg) (F : Fun K "_law_rw_mixed" "_law_rw_mixed" (top 45) f fd) (hm : mg "_law_rw_mixed" = some (.ref f)) (hb : Binds K fd ["dice", "rows"] []) (h_L_pick : FnD P w K mg base "_law_pick" 2 2 F_L_pick) (h_L_shuffled : FnD P w K mg base "_law_shuffled" 2 2 F_L_shuffled) : FnD P w K mg base "_law_rw_mixed" 3 2 F_L_rw_mixed := by
  refine fnD (k := 2) F hm hb sc_L_rw_mixed F_L_rw_mixed fun cdv A outer s H E hr hgu ds μ hl hG => ⟨b_L_rw_mixed, ?_, rfl⟩
  have hu := room_u hr
  exact (sd_cons (sd_asgO (fun te h => ps_set (i := 2) sc_L_rw_mixed.nd rfl (by first | exact Or.inl rfl | exact Or.inr rfl) h) (pf_ty bif_list (by rfl) T.b_list rfl (pa_c (pd_var 1 (pv 1)) pa_n)))
    (sd_cons (sd_frz 2 (sd_for (passes_of rfl) rfl (id_rng1 (by rfl) T.b_range (pa_c (pd_if (pt_cm c_gt (pd_b bi_len (by rfl) T.b_len rfl (pa_c (pd_var 1 (pv 1)) pa_n)) pd_int) pd_int pd_int) pa_n)) (gd_name (pg_name (i := 3) sc_L_rw_mixed.nd rfl (by first | exact Or.inl rfl | exact Or.inr rfl))) (sd_cons (sd_asgG (fun te t h g => ps_asg h g) (pd_sl (pd_f (pf_call h_L_shuffled (hr.mono (by decide)) hgu (by rfl) (pa_c (pd_var 0 (pv 0)) (pa_c (pd_f (pf_lrg rfl (by rfl) T.b_list (by rfl) T.b_range (pd_b bi_len (by rfl) T.b_len rfl (pa_c (pd_var 2 (pv 2)) pa_n)))) pa_n)) (al_c (al_c al_n)))) po_n (po_s pd_int)) (gd_lst rfl (gd_cons (gd_name (pg_name (i := 4) sc_L_rw_mixed.nd rfl (by first | exact Or.inl rfl | exact Or.inr rfl))) (gd_cons (gd_name (pg_name (i := 5) sc_L_rw_mixed.nd rfl (by first | exact Or.inl rfl | exact Or.inr rfl))) gd_nil))))
    (sd_cons (sd_asg (fun te h => ps_set (i := 6) sc_L_rw_mixed.nd rfl (by first | exact Or.inl rfl | exact Or.inr rfl) h) (pd_call h_L_pick (hr.mono (by decide)) hgu (by rfl) (pa_c (pd_var 0 (pv 0)) (pa_c (pd_f (pf_lst (pa_c pd_int (pa_c (pd_neg pd_int) (pa_c pd_int (pa_c (pd_neg pd_int) pa_n)))))) pa_n)) (al_c (al_c al_n))))
    (sd_one (sd_setI (fun te t h g => ps_asg h g) set_list ss_list (pd_ty bi_tuple (by rfl) T.b_tuple rfl (pa_c (pd_f (pf_lc (own := [("left", 9), ("right", 10)]) rfl sc_L_rw_mixed.nd (by kernel_rfl) (id_zp (pa_c (pd_ix (pd_var 2 (pv 2)) (pd_var 4 (pv 4))) (pa_c (pd_ix (pd_var 2 (pv 2)) (pd_var 5 (pv 5))) pa_n)) (by rfl) T.b_zip) (fun b => (gd_tup rfl (gd_cons (gd_name (pg_name (i := 9) sc_L_rw_mixed.nd rfl (by first | exact Or.inl rfl | exact Or.inr rfl))) (gd_cons (gd_name (pg_name (i := 10) sc_L_rw_mixed.nd rfl (by first | exact Or.inl rfl | exact Or.inr rfl))) gd_nil)))) (fun b => td_nil) (fun b => (pd_add (pd_var 9 (pv 9)) (pd_mul (pd_var 6 (pv 6)) (pd_var 10 (pv 10))))))) pa_n)) (pd_var 2 (pv 2)) (pd_var 4 (pv 4))))))))
    (sd_cons (sd_asgO (fun te h => ps_set (i := 7) sc_L_rw_mixed.nd rfl (by first | exact Or.inl rfl | exact Or.inr rfl) h) (pf_lst pa_n))
    (sd_cons (sd_frz 7 (sd_for (passes_of rfl) rfl (id_seq (pd_var 2 (pv 2))) (gd_name (pg_name (i := 8) sc_L_rw_mixed.nd rfl (by first | exact Or.inl rfl | exact Or.inr rfl))) (sd_cons (sd_asg (fun te h => ps_set (i := 6) sc_L_rw_mixed.nd rfl (by first | exact Or.inl rfl | exact Or.inr rfl) h) (pd_call h_L_pick (hr.mono (by decide)) hgu (by rfl) (pa_c (pd_var 0 (pv 0)) (pa_c (pd_f (pf_lst (pa_c pd_int (pa_c (pd_neg pd_int) (pa_c pd_int pa_n))))) pa_n)) (al_c (al_c al_n))))
    (sd_one (sd_drop (pd_append (pd_var 7 (pv 7)) (pa_c (pd_ty bi_tuple (by rfl) T.b_tuple rfl (pa_c (pd_f (pf_lc (own := [("number", 11)]) rfl sc_L_rw_mixed.nd (by kernel_rfl) (id_seq (pd_var 8 (pv 8))) (fun b => (gd_name (pg_name (i := 11) sc_L_rw_mixed.nd rfl (by first | exact Or.inl rfl | exact Or.inr rfl)))) (fun b => td_nil) (fun b => (pd_mul (pd_var 6 (pv 6)) (pd_var 11 (pv 11)))))) pa_n)) pa_n)))))))
    (sd_one (sd_retF (pf_call h_L_shuffled (hr.mono (by decide)) hgu (by rfl) (pa_c (pd_var 0 (pv 0)) (pa_c (pd_var 7 (pv 7)) pa_n)) (al_c (al_c al_n)))))))))
theorem sc_L_met : FnScope ["wide", "one", "other"] ["wide", "one", "other"] (defScope (top 46)) := ⟨rfl, rfl, rfl, by decide +kernel, rfl, by decide +kernel, by decide +kernel⟩
theorem ok_L_met {f : Addr} {fd : FuncData} (T : Glb mg) (F : Fun K "_law_met" "_law_met" (top 46) f fd) (hm : mg "_law_met" = some (.ref f)) (hb : Binds K fd ["wide", "one", "other"] []) (h_L_lot : FnD P w K mg base "_law_lot" 4 1 F_L_lot) (h_L_apart : FnD P w K mg base "_law_apart" 5 2 F_L_apart) : FnD P w K mg base "_law_met" 6 3 F_L_met := by
  refine fnD (k := 5) F hm hb sc_L_met F_L_met fun cdv A outer s H E hr hgu ds μ hl hG => ⟨b_L_met, ?_, rfl⟩
  have hu := room_u hr
  exact (sd_one (sd_ret (pd_call h_L_apart (hr.mono (by decide)) hgu (by rfl) (pa_c (pd_call h_L_lot (hr.mono (by decide)) hgu (by rfl) (pa_c (pd_add (pd_f (pf_ty bif_list (by rfl) T.b_list rfl (pa_c (pd_call h_L_apart (hr.mono (by decide)) hgu (by rfl) (pa_c (pd_var 1 (pv 1)) (pa_c (pd_var 0 (pv 0)) pa_n)) (al_c (al_c al_n))) pa_n))) (pd_f (pf_ty bif_list (by rfl) T.b_list rfl (pa_c (pd_call h_L_apart (hr.mono (by decide)) hgu (by rfl) (pa_c (pd_var 2 (pv 2)) (pa_c (pd_var 0 (pv 0)) pa_n)) (al_c (al_c al_n))) pa_n)))) pa_n) (al_c al_n)) (pa_c (pd_var 0 (pv 0)) pa_n)) (al_c (al_c al_n)))))
theorem sc_L_right : FnScope ["dice", "wide", "rows", "lot", "more", "row", "other", "both", "met", "apart", "one"] ["dice", "wide"] (defScope (top 47)) := ⟨rfl, rfl, rfl, by decide +kernel, rfl, by decide +kernel, by decide +kernel⟩
theorem ok_L_right {f : Addr} {fd : FuncData} (T : Glb mg) (F : Fun K "_law_right" "_law_right" (top 47) f fd) (hm : mg "_law_right" = some (.ref f)) (hb : Binds K fd ["dice", "wide"] []) (h_lot_of : FnD P w K mg base "lot_of" 6 2 F_lot_of) (h_holds : FnD P w K mg base "holds" 5 3 F_holds) (h_joined_lots : FnD P w K mg base "joined_lots" 6 3 F_joined_lots) (h_met_lots : FnD P w K mg base "met_lots" 7 3 F_met_lots) (h_rows_apart : FnD P w K mg base "rows_apart" 7 2 F_rows_apart) (h_L_roll : FnD P w K mg base "_law_roll" 1 2 F_L_roll) (h_L_dot : FnD P w K mg base "_law_dot" 1 2 F_L_dot) (h_L_lot : FnD P w K mg base "_law_lot" 4 1 F_L_lot) (h_L_holds : FnD P w K mg base "_law_holds" 3 2 F_L_holds) (h_L_apart : FnD P w K mg base "_law_apart" 5 2 F_L_apart) (h_L_rw_drawn : FnD P w K mg base "_law_rw_drawn" 3 3 F_L_rw_drawn) (h_L_rw_mixed : FnD P w K mg base "_law_rw_mixed" 3 2 F_L_rw_mixed) (h_L_met : FnD P w K mg base "_law_met" 6 3 F_L_met) : FnD P w K mg base "_law_right" 8 2 F_L_right := by
  refine fnD (k := 7) F hm hb sc_L_right F_L_right fun cdv A outer s H E hr hgu ds μ hl hG => ⟨b_L_right, ?_, rfl⟩
  have hu := room_u hr
  exact (sd_cons (sd_asg (fun te h => ps_set (i := 2) sc_L_right.nd rfl (by first | exact Or.inl rfl | exact Or.inr rfl) h) (pd_f (pf_call h_L_rw_drawn (hr.mono (by decide)) hgu (by rfl) (pa_c (pd_var 0 (pv 0)) (pa_c (pd_var 1 (pv 1)) (pa_c (pd_call h_L_roll (hr.mono (by decide)) hgu (by rfl) (pa_c (pd_var 0 (pv 0)) (pa_c (pd_add (pd_var 1 (pv 1)) pd_int) pa_n)) (al_c (al_c al_n))) pa_n))) (al_c (al_c (al_c al_n))))))
    (sd_cons (sd_par (fun ta h => ps_par (i := 3) (j := 4) rfl sc_L_right.nd rfl rfl (by decide) rfl rfl h (by rfl)) (pa_c (pd_call h_L_lot (hr.mono (by decide)) hgu (by rfl) (pa_c (pd_var 2 (pv 2)) pa_n) (al_c al_n)) (pa_c (pd_f (pf_call h_L_rw_drawn (hr.mono (by decide)) hgu (by rfl) (pa_c (pd_var 0 (pv 0)) (pa_c (pd_var 1 (pv 1)) (pa_c (pd_add pd_int (pd_call h_L_roll (hr.mono (by decide)) hgu (by rfl) (pa_c (pd_var 0 (pv 0)) (pa_c (pd_var 1 (pv 1)) pa_n)) (al_c (al_c al_n)))) pa_n))) (al_c (al_c (al_c al_n))))) pa_n)))
    (sd_cons (sd_if (PWD.pt (pw_o (pt_cm (c_neS hu) (pd_b (bi_repr hgu hu) (by rfl) T.b_repr rfl (pa_c (pd_call h_lot_of (hr.mono (by decide)) hgu (by rfl) (pa_c (pd_var 1 (pv 1)) (pa_c (pd_ty bi_tuple (by rfl) T.b_tuple rfl (pa_c (pd_var 2 (pv 2)) pa_n)) pa_n)) (al_c (al_c al_n))) pa_n)) (pd_b (bi_repr hgu hu) (by rfl) T.b_repr rfl (pa_c (pd_var 3 (pv 3)) pa_n))) (pw_o1 (pt_cm (c_neS hu) (pd_call h_lot_of (hr.mono (by decide)) hgu (by rfl) (pa_c (pd_var 1 (pv 1)) (pa_c (pd_ty bi_tuple (by rfl) T.b_tuple rfl (pa_c (pd_f (pf_call h_L_rw_mixed (hr.mono (by decide)) hgu (by rfl) (pa_c (pd_var 0 (pv 0)) (pa_c (pd_var 2 (pv 2)) pa_n)) (al_c (al_c al_n)))) pa_n)) pa_n)) (al_c (al_c al_n))) (pd_var 3 (pv 3)))))) (sd_one (sd_ret pd_bl)) sd_nil)
    (sd_cons (sd_if (PWD.pt (pw_o (pt_cm (c_neS hu) (pd_call h_lot_of (hr.mono (by decide)) hgu (by rfl) (pa_c (pd_var 1 (pv 1)) (pa_c (pd_var 3 (pv 3)) pa_n)) (al_c (al_c al_n))) (pd_var 3 (pv 3))) (pw_o1 (pt_cm (c_neS hu) (pd_call h_lot_of (hr.mono (by decide)) hgu (by rfl) (pa_c (pd_var 1 (pv 1)) (pa_c (pd_rev (pd_var 3 (pv 3))) pa_n)) (al_c (al_c al_n))) (pd_var 3 (pv 3)))))) (sd_one (sd_ret pd_bl)) sd_nil)
    (sd_cons (sd_for (passes_of rfl) rfl (id_seq (pd_add (pd_add (pd_var 4 (pv 4)) (pd_var 2 (pv 2))) (pd_f (pf_lst (pa_c (pd_mul (pd_tup (pa_c pd_int pa_n)) (pd_var 1 (pv 1))) pa_n))))) (gd_name (pg_name (i := 5) sc_L_right.nd rfl (by first | exact Or.inl rfl | exact Or.inr rfl))) (sd_one (sd_if (pt_cm (c_neS hu) (pd_b (bi_repr hgu hu) (by rfl) T.b_repr rfl (pa_c (pd_call h_holds (hr.mono (by decide)) hgu (by rfl) (pa_c (pd_var 1 (pv 1)) (pa_c (pd_var 3 (pv 3)) (pa_c (pd_var 5 (pv 5)) pa_n))) (al_c (al_c (al_c al_n)))) pa_n)) (pd_b (bi_repr hgu hu) (by rfl) T.b_repr rfl (pa_c (pd_call h_L_holds (hr.mono (by decide)) hgu (by rfl) (pa_c (pd_var 3 (pv 3)) (pa_c (pd_var 5 (pv 5)) pa_n)) (al_c (al_c al_n))) pa_n))) (sd_one (sd_ret pd_bl)) sd_nil)))
    (sd_cons (sd_asg (fun te h => ps_set (i := 6) sc_L_right.nd rfl (by first | exact Or.inl rfl | exact Or.inr rfl) h) (pd_call h_L_lot (hr.mono (by decide)) hgu (by rfl) (pa_c (pd_var 4 (pv 4)) pa_n) (al_c al_n)))
    (sd_cons (sd_par (fun ta h => ps_par (i := 7) (j := 8) rfl sc_L_right.nd rfl rfl (by decide) rfl rfl h (by rfl)) (pa_c (pd_call h_joined_lots (hr.mono (by decide)) hgu (by rfl) (pa_c (pd_var 1 (pv 1)) (pa_c (pd_var 3 (pv 3)) (pa_c (pd_var 6 (pv 6)) pa_n))) (al_c (al_c (al_c al_n)))) (pa_c (pd_call h_met_lots (hr.mono (by decide)) hgu (by rfl) (pa_c (pd_var 1 (pv 1)) (pa_c (pd_var 3 (pv 3)) (pa_c (pd_var 6 (pv 6)) pa_n))) (al_c (al_c (al_c al_n)))) pa_n)))
    (sd_cons (sd_if (PWD.pt (pw_o (pt_cm (c_neS hu) (pd_b (bi_repr hgu hu) (by rfl) T.b_repr rfl (pa_c (pd_var 7 (pv 7)) pa_n)) (pd_b (bi_repr hgu hu) (by rfl) T.b_repr rfl (pa_c (pd_call h_L_lot (hr.mono (by decide)) hgu (by rfl) (pa_c (pd_add (pd_var 2 (pv 2)) (pd_var 4 (pv 4))) pa_n) (al_c al_n)) pa_n))) (pw_o1 (pt_cm (c_neS hu) (pd_b (bi_repr hgu hu) (by rfl) T.b_repr rfl (pa_c (pd_var 8 (pv 8)) pa_n)) (pd_b (bi_repr hgu hu) (by rfl) T.b_repr rfl (pa_c (pd_call h_L_met (hr.mono (by decide)) hgu (by rfl) (pa_c (pd_var 1 (pv 1)) (pa_c (pd_var 3 (pv 3)) (pa_c (pd_var 6 (pv 6)) pa_n))) (al_c (al_c (al_c al_n)))) pa_n)))))) (sd_one (sd_ret pd_bl)) sd_nil)
    (sd_cons (sd_if (PWD.pt (pw_o (pt_cm (c_neS hu) (pd_add (pd_b bi_len (by rfl) T.b_len rfl (pa_c (pd_var 7 (pv 7)) pa_n)) (pd_b bi_len (by rfl) T.b_len rfl (pa_c (pd_var 8 (pv 8)) pa_n))) (pd_add (pd_b bi_len (by rfl) T.b_len rfl (pa_c (pd_var 3 (pv 3)) pa_n)) (pd_b bi_len (by rfl) T.b_len rfl (pa_c (pd_var 6 (pv 6)) pa_n)))) (pw_o1 (pt_cm (c_neS hu) (pd_call h_joined_lots (hr.mono (by decide)) hgu (by rfl) (pa_c (pd_var 1 (pv 1)) (pa_c (pd_var 6 (pv 6)) (pa_c (pd_var 3 (pv 3)) pa_n))) (al_c (al_c (al_c al_n)))) (pd_var 7 (pv 7)))))) (sd_one (sd_ret pd_bl)) sd_nil)
    (sd_cons (sd_asg (fun te h => ps_set (i := 9) sc_L_right.nd rfl (by first | exact Or.inl rfl | exact Or.inr rfl) h) (pd_call h_rows_apart (hr.mono (by decide)) hgu (by rfl) (pa_c (pd_var 1 (pv 1)) (pa_c (pd_var 3 (pv 3)) pa_n)) (al_c (al_c al_n))))
    (sd_cons (sd_if (PWD.pt (pw_o (pt_cm (c_neS hu) (pd_b (bi_repr hgu hu) (by rfl) T.b_repr rfl (pa_c (pd_var 9 (pv 9)) pa_n)) (pd_b (bi_repr hgu hu) (by rfl) T.b_repr rfl (pa_c (pd_call h_L_apart (hr.mono (by decide)) hgu (by rfl) (pa_c (pd_var 3 (pv 3)) (pa_c (pd_var 1 (pv 1)) pa_n)) (al_c (al_c al_n))) pa_n))) (pw_o (pt_cm (c_neS hu) (pd_add (pd_b bi_len (by rfl) T.b_len rfl (pa_c (pd_var 9 (pv 9)) pa_n)) (pd_b bi_len (by rfl) T.b_len rfl (pa_c (pd_var 3 (pv 3)) pa_n))) (pd_var 1 (pv 1))) (pw_o1 (pt_cm (c_neS hu) (pd_call h_rows_apart (hr.mono (by decide)) hgu (by rfl) (pa_c (pd_var 1 (pv 1)) (pa_c (pd_var 9 (pv 9)) pa_n)) (al_c (al_c al_n))) (pd_var 3 (pv 3))))))) (sd_one (sd_ret pd_bl)) sd_nil)
    (sd_one (sd_ret (pd_cm (c_eqS hu) (pd_f (pf_lc (own := [("row", 5)]) rfl sc_L_right.nd (by kernel_rfl) (id_seq (pd_var 9 (pv 9))) (fun b => (gd_name (pg_name (i := 5) sc_L_right.nd rfl (by first | exact Or.inl rfl | exact Or.inr rfl)))) (fun b => (td_one (pt_cm (c_neS hu) (pd_f (pf_lc (own := [("one", 10)]) rfl sc_L_right.nd (by kernel_rfl) (id_seq (pd_var 2 (pv 2))) (fun b => (gd_name (pg_name (i := 10) sc_L_right.nd rfl (by first | exact Or.inl rfl | exact Or.inr rfl)))) (fun b => (td_one (pt_cm (c_neS hu) (pd_call h_L_dot (hr.mono (by decide)) hgu (by rfl) (pa_c (pd_var 5 (pv 5)) (pa_c (pd_var 10 (pv 10)) pa_n)) (al_c (al_c al_n))) pd_int))) (fun b => pd_int))) (pd_f (pf_lst pa_n))))) (fun b => pd_int))) (pd_f (pf_lst pa_n))))))))))))))))
theorem sc_law : FnScope ["script", "spot", "dice", "turn", "units", "rows", "at", "lot", "told", "one", "other"] ["script"] (defScope (top 48)) := ⟨rfl, rfl, rfl, by decide +kernel, rfl, by decide +kernel, by decide +kernel⟩
theorem ok_law {f : Addr} {fd : FuncData} (T : Glb mg) (F : Fun K "law" "law" (top 48) f fd) (hm : mg "law" = some (.ref f)) (hb : Binds K fd ["script"] []) (h_lot_of : FnD P w K mg base "lot_of" 6 2 F_lot_of) (h_holds : FnD P w K mg base "holds" 5 3 F_holds) (h_met_lots : FnD P w K mg base "met_lots" 7 3 F_met_lots) (h_rows_apart : FnD P w K mg base "rows_apart" 7 2 F_rows_apart) (h_L_dice : FnD P w K mg base "_law_dice" 1 2 F_L_dice) (h_L_roll : FnD P w K mg base "_law_roll" 1 2 F_L_roll) (h_L_lot : FnD P w K mg base "_law_lot" 4 1 F_L_lot) (h_L_units : FnD P w K mg base "_law_units" 1 1 F_L_units) (h_L_right : FnD P w K mg base "_law_right" 8 2 F_L_right) : FnD P w K mg base "law" 9 1 F_law := by
  refine fnD (k := 8) F hm hb sc_law F_law fun cdv A outer s H E hr hgu ds μ hl hG => ⟨b_law, ?_, rfl⟩
  have hu := room_u hr
  exact (sd_cons (sd_for (passes_of rfl) rfl (id_rng1 (by rfl) T.b_range (pa_c (pd_b (bi_max2 rfl) (by rfl) T.b_max rfl (pa_c pd_int (pa_c (pd_b (bi_min2 rfl) (by rfl) T.b_min rfl (pa_c pd_int (pa_c (pd_b bi_len (by rfl) T.b_len rfl (pa_c (pd_var 0 (pv 0)) pa_n)) pa_n))) pa_n))) pa_n)) (gd_name (pg_name (i := 1) sc_law.nd rfl (by first | exact Or.inl rfl | exact Or.inr rfl))) (sd_cons (sd_asgR (fun te h => ps_set (i := 2) sc_law.nd rfl (by first | exact Or.inl rfl | exact Or.inr rfl) h) (pf_call h_L_dice (hr.mono (by decide)) hgu (by rfl) (pa_c (pd_var 0 (pv 0)) (pa_c (pd_var 1 (pv 1)) pa_n)) (al_c (al_c al_n))))
    (sd_one (sd_for (passes_of rfl) rfl (id_rng1 (by rfl) T.b_range (pa_c pd_int pa_n)) (gd_name (pg_name (i := 3) sc_law.nd rfl (by first | exact Or.inl rfl | exact Or.inr rfl))) (sd_one (sd_if (pt_nt (pt_tr (pd_call h_L_right (hr.mono (by decide)) hgu (by rfl) (pa_c (pd_var 2 (pv 2)) (pa_c (pd_add pd_int (pd_call h_L_roll (hr.mono (by decide)) hgu (by rfl) (pa_c (pd_var 2 (pv 2)) (pa_c pd_int pa_n)) (al_c (al_c al_n)))) pa_n)) (al_c (al_c al_n))))) (sd_one (sd_ret pd_bl)) sd_nil))))))
    (sd_cons (sd_asg (fun te h => ps_set (i := 4) sc_law.nd rfl (by first | exact Or.inl rfl | exact Or.inr rfl) h) (pd_f (pf_call h_L_units (hr.mono (by decide)) hgu (by rfl) (pa_c pd_int pa_n) (al_c al_n))))
    (sd_cons (sd_if (pt_cm (c_eqS hu) (pd_b bi_len (by rfl) T.b_len rfl (pa_c (pd_var 0 (pv 0)) pa_n)) pd_int) (sd_cons (sd_asgO (fun te h => ps_set (i := 5) sc_law.nd rfl (by first | exact Or.inl rfl | exact Or.inr rfl) h) (pf_lst pa_n))
    (sd_cons (sd_for (passes_of rfl) rfl (id_rng1 (by rfl) T.b_range (pa_c pd_int pa_n)) (gd_name (pg_name (i := 6) sc_law.nd rfl (by first | exact Or.inl rfl | exact Or.inr rfl))) (sd_one (sd_drop (pd_append (pd_var 5 (pv 5)) (pa_c (pd_ty bi_tuple (by rfl) T.b_tuple rfl (pa_c (pd_f (pf_lc (own := [("one", 9), ("other", 10)]) rfl sc_law.nd (by kernel_rfl) (id_zp (pa_c (pd_ix (pd_var 4 (pv 4)) (pd_var 6 (pv 6))) (pa_c (pd_ix (pd_var 4 (pv 4)) (pd_add (pd_var 6 (pv 6)) pd_int)) pa_n)) (by rfl) T.b_zip) (fun b => (gd_tup rfl (gd_cons (gd_name (pg_name (i := 9) sc_law.nd rfl (by first | exact Or.inl rfl | exact Or.inr rfl))) (gd_cons (gd_name (pg_name (i := 10) sc_law.nd rfl (by first | exact Or.inl rfl | exact Or.inr rfl))) gd_nil)))) (fun b => td_nil) (fun b => (pd_sub (pd_mul pd_int (pd_var 9 (pv 9))) (pd_mul pd_int (pd_var 10 (pv 10))))))) pa_n)) pa_n)))))
    (sd_cons (sd_asg (fun te h => ps_set (i := 5) sc_law.nd rfl (by first | exact Or.inl rfl | exact Or.inr rfl) h) (pd_ty bi_tuple (by rfl) T.b_tuple rfl (pa_c (pd_var 5 (pv 5)) pa_n)))
    (sd_cons (sd_asg (fun te h => ps_set (i := 7) sc_law.nd rfl (by first | exact Or.inl rfl | exact Or.inr rfl) h) (pd_call h_L_lot (hr.mono (by decide)) hgu (by rfl) (pa_c (pd_var 5 (pv 5)) pa_n) (al_c al_n)))
    (sd_one (sd_if (PWD.pt (pw_o (pt_cm (c_neS hu) (pd_call h_lot_of (hr.mono (by decide)) hgu (by rfl) (pa_c pd_int (pa_c (pd_rev (pd_var 5 (pv 5))) pa_n)) (al_c (al_c al_n))) (pd_var 7 (pv 7))) (pw_o (pt_cm (c_neS hu) (pd_b bi_len (by rfl) T.b_len rfl (pa_c (pd_call h_rows_apart (hr.mono (by decide)) hgu (by rfl) (pa_c pd_int (pa_c (pd_var 7 (pv 7)) pa_n)) (al_c (al_c al_n))) pa_n)) pd_int) (pw_o1 (pt_nt (pt_tr (pd_call h_holds (hr.mono (by decide)) hgu (by rfl) (pa_c pd_int (pa_c (pd_var 7 (pv 7)) (pa_c (pd_ix (pd_var 5 (pv 5)) pd_int) pa_n))) (al_c (al_c (al_c al_n)))))))))) (sd_one (sd_ret pd_bl)) sd_nil)))))) sd_nil)
    (sd_cons (sd_asg (fun te h => ps_set (i := 8) sc_law.nd rfl (by first | exact Or.inl rfl | exact Or.inr rfl) h) (pd_f (pf_lst (pa_c (pd_call h_lot_of (hr.mono (by decide)) hgu (by rfl) (pa_c pd_int (pa_c (pd_tup (pa_c (pd_tup (pa_c pd_int (pa_c pd_int (pa_c pd_int pa_n)))) (pa_c (pd_tup (pa_c pd_int (pa_c pd_int (pa_c pd_int pa_n)))) (pa_c (pd_tup (pa_c pd_int (pa_c pd_int (pa_c pd_int pa_n)))) pa_n)))) pa_n)) (al_c (al_c al_n))) (pa_c (pd_call h_lot_of (hr.mono (by decide)) hgu (by rfl) (pa_c pd_int (pa_c (pd_tup pa_n) pa_n)) (al_c (al_c al_n))) (pa_c (pd_call h_rows_apart (hr.mono (by decide)) hgu (by rfl) (pa_c pd_int (pa_c (pd_tup pa_n) pa_n)) (al_c (al_c al_n))) (pa_c (pd_call h_met_lots (hr.mono (by decide)) hgu (by rfl) (pa_c pd_int (pa_c (pd_tup pa_n) (pa_c (pd_tup (pa_c (pd_tup (pa_c pd_int pa_n)) pa_n)) pa_n))) (al_c (al_c (al_c al_n)))) pa_n)))))))
    (sd_one (sd_ret (pd_cm (c_eqS hu) (pd_var 8 (pv 8)) (pd_f (pf_lst (pa_c (pd_tup (pa_c (pd_tup (pa_c pd_int (pa_c pd_int (pa_c (pd_neg pd_int) pa_n)))) (pa_c (pd_tup (pa_c pd_int (pa_c pd_int (pa_c pd_int pa_n)))) pa_n))) (pa_c (pd_tup pa_n) (pa_c (pd_tup (pa_c (pd_tup (pa_c pd_int (pa_c pd_int pa_n))) (pa_c (pd_tup (pa_c pd_int (pa_c pd_int pa_n))) pa_n))) (pa_c (pd_tup pa_n) pa_n)))))))))))))
end
end K11

namespace K11
open PySem PySem.Spec PyProof.Rows L2 DL
variable [DLX]
theorem all_mk {P : Program} {w : World} {K : PySem.W.Frag} {h : Heap} {mg : Str → Option Value} (X : K.In h) (G : h.Ns mainGlobals mg)
    {f0 : Addr} {od0 an0 : Option Addr} {sl0 : Array (Option Value)} {oc0 kV0 dc0 pm0 cd0 ct0 : Value}
    (a0 : PySem.W.nsIn K mainGlobals "is_integer" = some (some (.ref f0))) (l0 : K.lookup f0 = some ⟨oc0, od0, .func (PySem.W.fnOf "is_integer" "is_integer" (defArgs (top 7)) (defBody (top 7)) (defScope (top 7)) .none kV0 dc0 pm0 an0 cd0 ct0), sl0⟩) (c0 : PySem.W.codeIn K cd0 "is_integer" = true) (k0 : PySem.W.keepIn K (.ref f0) = true)
    {f1 : Addr} {od1 an1 : Option Addr} {sl1 : Array (Option Value)} {oc1 kV1 dc1 pm1 cd1 ct1 : Value}
    (a1 : PySem.W.nsIn K mainGlobals "require_width" = some (some (.ref f1))) (l1 : K.lookup f1 = some ⟨oc1, od1, .func (PySem.W.fnOf "require_width" "require_width" (defArgs (top 8)) (defBody (top 8)) (defScope (top 8)) .none kV1 dc1 pm1 an1 cd1 ct1), sl1⟩) (c1 : PySem.W.codeIn K cd1 "require_width" = true) (k1 : PySem.W.keepIn K (.ref f1) = true)
    {f2 : Addr} {od2 an2 : Option Addr} {sl2 : Array (Option Value)} {oc2 kV2 dc2 pm2 cd2 ct2 : Value}
    (a2 : PySem.W.nsIn K mainGlobals "lead_in" = some (some (.ref f2))) (l2 : K.lookup f2 = some ⟨oc2, od2, .func (PySem.W.fnOf "lead_in" "lead_in" (defArgs (top 10)) (defBody (top 10)) (defScope (top 10)) .none kV2 dc2 pm2 an2 cd2 ct2), sl2⟩) (c2 : PySem.W.codeIn K cd2 "lead_in" = true) (k2 : PySem.W.keepIn K (.ref f2) = true)
    {f3 : Addr} {od3 an3 : Option Addr} {sl3 : Array (Option Value)} {oc3 kV3 dc3 pm3 cd3 ct3 : Value}
    (a3 : PySem.W.nsIn K mainGlobals "common_share" = some (some (.ref f3))) (l3 : K.lookup f3 = some ⟨oc3, od3, .func (PySem.W.fnOf "common_share" "common_share" (defArgs (top 11)) (defBody (top 11)) (defScope (top 11)) .none kV3 dc3 pm3 an3 cd3 ct3), sl3⟩) (c3 : PySem.W.codeIn K cd3 "common_share" = true) (k3 : PySem.W.keepIn K (.ref f3) = true)
    {f4 : Addr} {od4 an4 : Option Addr} {sl4 : Array (Option Value)} {oc4 kV4 dc4 pm4 cd4 ct4 : Value}
    (a4 : PySem.W.nsIn K mainGlobals "lowest_row" = some (some (.ref f4))) (l4 : K.lookup f4 = some ⟨oc4, od4, .func (PySem.W.fnOf "lowest_row" "lowest_row" (defArgs (top 12)) (defBody (top 12)) (defScope (top 12)) .none kV4 dc4 pm4 an4 cd4 ct4), sl4⟩) (c4 : PySem.W.codeIn K cd4 "lowest_row" = true) (k4 : PySem.W.keepIn K (.ref f4) = true)
    {f5 : Addr} {od5 an5 : Option Addr} {sl5 : Array (Option Value)} {oc5 kV5 dc5 pm5 cd5 ct5 : Value}
    (a5 : PySem.W.nsIn K mainGlobals "less_by" = some (some (.ref f5))) (l5 : K.lookup f5 = some ⟨oc5, od5, .func (PySem.W.fnOf "less_by" "less_by" (defArgs (top 14)) (defBody (top 14)) (defScope (top 14)) .none kV5 dc5 pm5 an5 cd5 ct5), sl5⟩) (c5 : PySem.W.codeIn K cd5 "less_by" = true) (k5 : PySem.W.keepIn K (.ref f5) = true)
    {f6 : Addr} {od6 an6 : Option Addr} {sl6 : Array (Option Value)} {oc6 kV6 dc6 pm6 cd6 ct6 : Value}
    (a6 : PySem.W.nsIn K mainGlobals "rest_by" = some (some (.ref f6))) (l6 : K.lookup f6 = some ⟨oc6, od6, .func (PySem.W.fnOf "rest_by" "rest_by" (defArgs (top 15)) (defBody (top 15)) (defScope (top 15)) .none kV6 dc6 pm6 an6 cd6 ct6), sl6⟩) (c6 : PySem.W.codeIn K cd6 "rest_by" = true) (k6 : PySem.W.keepIn K (.ref f6) = true)
    {f7 : Addr} {od7 an7 : Option Addr} {sl7 : Array (Option Value)} {oc7 kV7 dc7 pm7 cd7 ct7 : Value}
    (a7 : PySem.W.nsIn K mainGlobals "with_row" = some (some (.ref f7))) (l7 : K.lookup f7 = some ⟨oc7, od7, .func (PySem.W.fnOf "with_row" "with_row" (defArgs (top 17)) (defBody (top 17)) (defScope (top 17)) .none kV7 dc7 pm7 an7 cd7 ct7), sl7⟩) (c7 : PySem.W.codeIn K cd7 "with_row" = true) (k7 : PySem.W.keepIn K (.ref f7) = true)
    {f8 : Addr} {od8 an8 : Option Addr} {sl8 : Array (Option Value)} {oc8 kV8 dc8 pm8 cd8 ct8 : Value}
    (a8 : PySem.W.nsIn K mainGlobals "lot_in" = some (some (.ref f8))) (l8 : K.lookup f8 = some ⟨oc8, od8, .func (PySem.W.fnOf "lot_in" "lot_in" (defArgs (top 18)) (defBody (top 18)) (defScope (top 18)) .none kV8 dc8 pm8 an8 cd8 ct8), sl8⟩) (c8 : PySem.W.codeIn K cd8 "lot_in" = true) (k8 : PySem.W.keepIn K (.ref f8) = true)
    {f9 : Addr} {od9 an9 : Option Addr} {sl9 : Array (Option Value)} {oc9 kV9 dc9 pm9 cd9 ct9 : Value}
    (a9 : PySem.W.nsIn K mainGlobals "is_plain_row" = some (some (.ref f9))) (l9 : K.lookup f9 = some ⟨oc9, od9, .func (PySem.W.fnOf "is_plain_row" "is_plain_row" (defArgs (top 9)) (defBody (top 9)) (defScope (top 9)) .none kV9 dc9 pm9 an9 cd9 ct9), sl9⟩) (c9 : PySem.W.codeIn K cd9 "is_plain_row" = true) (k9 : PySem.W.keepIn K (.ref f9) = true)
    {f10 : Addr} {od10 an10 : Option Addr} {sl10 : Array (Option Value)} {oc10 kV10 dc10 pm10 cd10 ct10 : Value}
    (a10 : PySem.W.nsIn K mainGlobals "require_rows" = some (some (.ref f10))) (l10 : K.lookup f10 = some ⟨oc10, od10, .func (PySem.W.fnOf "require_rows" "require_rows" (defArgs (top 21)) (defBody (top 21)) (defScope (top 21)) .none kV10 dc10 pm10 an10 cd10 ct10), sl10⟩) (c10 : PySem.W.codeIn K cd10 "require_rows" = true) (k10 : PySem.W.keepIn K (.ref f10) = true)
    {f11 : Addr} {od11 an11 : Option Addr} {sl11 : Array (Option Value)} {oc11 kV11 dc11 pm11 cd11 ct11 : Value}
    (a11 : PySem.W.nsIn K mainGlobals "lot_of" = some (some (.ref f11))) (l11 : K.lookup f11 = some ⟨oc11, od11, .func (PySem.W.fnOf "lot_of" "lot_of" (defArgs (top 23)) (defBody (top 23)) (defScope (top 23)) .none kV11 dc11 pm11 an11 cd11 ct11), sl11⟩) (c11 : PySem.W.codeIn K cd11 "lot_of" = true) (k11 : PySem.W.keepIn K (.ref f11) = true)
    {f12 : Addr} {od12 an12 : Option Addr} {sl12 : Array (Option Value)} {oc12 kV12 dc12 pm12 cd12 ct12 : Value}
    (a12 : PySem.W.nsIn K mainGlobals "does_hold" = some (some (.ref f12))) (l12 : K.lookup f12 = some ⟨oc12, od12, .func (PySem.W.fnOf "does_hold" "does_hold" (defArgs (top 16)) (defBody (top 16)) (defScope (top 16)) .none kV12 dc12 pm12 an12 cd12 ct12), sl12⟩) (c12 : PySem.W.codeIn K cd12 "does_hold" = true) (k12 : PySem.W.keepIn K (.ref f12) = true)
    {f13 : Addr} {od13 an13 : Option Addr} {sl13 : Array (Option Value)} {oc13 kV13 dc13 pm13 cd13 ct13 : Value}
    (a13 : PySem.W.nsIn K mainGlobals "require_row" = some (some (.ref f13))) (l13 : K.lookup f13 = some ⟨oc13, od13, .func (PySem.W.fnOf "require_row" "require_row" (defArgs (top 20)) (defBody (top 20)) (defScope (top 20)) .none kV13 dc13 pm13 an13 cd13 ct13), sl13⟩) (c13 : PySem.W.codeIn K cd13 "require_row" = true) (k13 : PySem.W.keepIn K (.ref f13) = true)
    {f14 : Addr} {od14 an14 : Option Addr} {sl14 : Array (Option Value)} {oc14 kV14 dc14 pm14 cd14 ct14 : Value}
    (a14 : PySem.W.nsIn K mainGlobals "is_plain_lot" = some (some (.ref f14))) (l14 : K.lookup f14 = some ⟨oc14, od14, .func (PySem.W.fnOf "is_plain_lot" "is_plain_lot" (defArgs (top 13)) (defBody (top 13)) (defScope (top 13)) .none kV14 dc14 pm14 an14 cd14 ct14), sl14⟩) (c14 : PySem.W.codeIn K cd14 "is_plain_lot" = true) (k14 : PySem.W.keepIn K (.ref f14) = true)
    {f15 : Addr} {od15 an15 : Option Addr} {sl15 : Array (Option Value)} {oc15 kV15 dc15 pm15 cd15 ct15 : Value}
    (a15 : PySem.W.nsIn K mainGlobals "require_lot" = some (some (.ref f15))) (l15 : K.lookup f15 = some ⟨oc15, od15, .func (PySem.W.fnOf "require_lot" "require_lot" (defArgs (top 22)) (defBody (top 22)) (defScope (top 22)) .none kV15 dc15 pm15 an15 cd15 ct15), sl15⟩) (c15 : PySem.W.codeIn K cd15 "require_lot" = true) (k15 : PySem.W.keepIn K (.ref f15) = true)
    {f16 : Addr} {od16 an16 : Option Addr} {sl16 : Array (Option Value)} {oc16 kV16 dc16 pm16 cd16 ct16 : Value}
    (a16 : PySem.W.nsIn K mainGlobals "holds" = some (some (.ref f16))) (l16 : K.lookup f16 = some ⟨oc16, od16, .func (PySem.W.fnOf "holds" "holds" (defArgs (top 24)) (defBody (top 24)) (defScope (top 24)) .none kV16 dc16 pm16 an16 cd16 ct16), sl16⟩) (c16 : PySem.W.codeIn K cd16 "holds" = true) (k16 : PySem.W.keepIn K (.ref f16) = true)
    {f17 : Addr} {od17 an17 : Option Addr} {sl17 : Array (Option Value)} {oc17 kV17 dc17 pm17 cd17 ct17 : Value}
    (a17 : PySem.W.nsIn K mainGlobals "apart_in" = some (some (.ref f17))) (l17 : K.lookup f17 = some ⟨oc17, od17, .func (PySem.W.fnOf "apart_in" "apart_in" (defArgs (top 19)) (defBody (top 19)) (defScope (top 19)) .none kV17 dc17 pm17 an17 cd17 ct17), sl17⟩) (c17 : PySem.W.codeIn K cd17 "apart_in" = true) (k17 : PySem.W.keepIn K (.ref f17) = true)
    {f18 : Addr} {od18 an18 : Option Addr} {sl18 : Array (Option Value)} {oc18 kV18 dc18 pm18 cd18 ct18 : Value}
    (a18 : PySem.W.nsIn K mainGlobals "require_two_lots" = some (some (.ref f18))) (l18 : K.lookup f18 = some ⟨oc18, od18, .func (PySem.W.fnOf "require_two_lots" "require_two_lots" (defArgs (top 25)) (defBody (top 25)) (defScope (top 25)) .none kV18 dc18 pm18 an18 cd18 ct18), sl18⟩) (c18 : PySem.W.codeIn K cd18 "require_two_lots" = true) (k18 : PySem.W.keepIn K (.ref f18) = true)
    {f19 : Addr} {od19 an19 : Option Addr} {sl19 : Array (Option Value)} {oc19 kV19 dc19 pm19 cd19 ct19 : Value}
    (a19 : PySem.W.nsIn K mainGlobals "met_lots" = some (some (.ref f19))) (l19 : K.lookup f19 = some ⟨oc19, od19, .func (PySem.W.fnOf "met_lots" "met_lots" (defArgs (top 27)) (defBody (top 27)) (defScope (top 27)) .none kV19 dc19 pm19 an19 cd19 ct19), sl19⟩) (c19 : PySem.W.codeIn K cd19 "met_lots" = true) (k19 : PySem.W.keepIn K (.ref f19) = true)
    {f20 : Addr} {od20 an20 : Option Addr} {sl20 : Array (Option Value)} {oc20 kV20 dc20 pm20 cd20 ct20 : Value}
    (a20 : PySem.W.nsIn K mainGlobals "rows_apart" = some (some (.ref f20))) (l20 : K.lookup f20 = some ⟨oc20, od20, .func (PySem.W.fnOf "rows_apart" "rows_apart" (defArgs (top 28)) (defBody (top 28)) (defScope (top 28)) .none kV20 dc20 pm20 an20 cd20 ct20), sl20⟩) (c20 : PySem.W.codeIn K cd20 "rows_apart" = true) (k20 : PySem.W.keepIn K (.ref f20) = true)
    {f21 : Addr} {od21 an21 : Option Addr} {sl21 : Array (Option Value)} {oc21 kV21 dc21 pm21 cd21 ct21 : Value}
    (a21 : PySem.W.nsIn K mainGlobals "_law_dice" = some (some (.ref f21))) (l21 : K.lookup f21 = some ⟨oc21, od21, .func (PySem.W.fnOf "_law_dice" "_law_dice" (defArgs (top 30)) (defBody (top 30)) (defScope (top 30)) .none kV21 dc21 pm21 an21 cd21 ct21), sl21⟩) (c21 : PySem.W.codeIn K cd21 "_law_dice" = true) (k21 : PySem.W.keepIn K (.ref f21) = true)
    {f22 : Addr} {od22 an22 : Option Addr} {sl22 : Array (Option Value)} {oc22 kV22 dc22 pm22 cd22 ct22 : Value}
    (a22 : PySem.W.nsIn K mainGlobals "_law_roll" = some (some (.ref f22))) (l22 : K.lookup f22 = some ⟨oc22, od22, .func (PySem.W.fnOf "_law_roll" "_law_roll" (defArgs (top 31)) (defBody (top 31)) (defScope (top 31)) .none kV22 dc22 pm22 an22 cd22 ct22), sl22⟩) (c22 : PySem.W.codeIn K cd22 "_law_roll" = true) (k22 : PySem.W.keepIn K (.ref f22) = true)
    {f23 : Addr} {od23 an23 : Option Addr} {sl23 : Array (Option Value)} {oc23 kV23 dc23 pm23 cd23 ct23 : Value}
    (a23 : PySem.W.nsIn K mainGlobals "_law_lead" = some (some (.ref f23))) (l23 : K.lookup f23 = some ⟨oc23, od23, .func (PySem.W.fnOf "_law_lead" "_law_lead" (defArgs (top 35)) (defBody (top 35)) (defScope (top 35)) .none kV23 dc23 pm23 an23 cd23 ct23), sl23⟩) (c23 : PySem.W.codeIn K cd23 "_law_lead" = true) (k23 : PySem.W.keepIn K (.ref f23) = true)
    {f24 : Addr} {od24 an24 : Option Addr} {sl24 : Array (Option Value)} {oc24 kV24 dc24 pm24 cd24 ct24 : Value}
    (a24 : PySem.W.nsIn K mainGlobals "_law_gcd" = some (some (.ref f24))) (l24 : K.lookup f24 = some ⟨oc24, od24, .func (PySem.W.fnOf "_law_gcd" "_law_gcd" (defArgs (top 34)) (defBody (top 34)) (defScope (top 34)) .none kV24 dc24 pm24 an24 cd24 ct24), sl24⟩) (c24 : PySem.W.codeIn K cd24 "_law_gcd" = true) (k24 : PySem.W.keepIn K (.ref f24) = true)
    {f25 : Addr} {od25 an25 : Option Addr} {sl25 : Array (Option Value)} {oc25 kV25 dc25 pm25 cd25 ct25 : Value}
    (a25 : PySem.W.nsIn K mainGlobals "_law_lowest" = some (some (.ref f25))) (l25 : K.lookup f25 = some ⟨oc25, od25, .func (PySem.W.fnOf "_law_lowest" "_law_lowest" (defArgs (top 36)) (defBody (top 36)) (defScope (top 36)) .none kV25 dc25 pm25 an25 cd25 ct25), sl25⟩) (c25 : PySem.W.codeIn K cd25 "_law_lowest" = true) (k25 : PySem.W.keepIn K (.ref f25) = true)
    {f26 : Addr} {od26 an26 : Option Addr} {sl26 : Array (Option Value)} {oc26 kV26 dc26 pm26 cd26 ct26 : Value}
    (a26 : PySem.W.nsIn K mainGlobals "_law_less" = some (some (.ref f26))) (l26 : K.lookup f26 = some ⟨oc26, od26, .func (PySem.W.fnOf "_law_less" "_law_less" (defArgs (top 38)) (defBody (top 38)) (defScope (top 38)) .none kV26 dc26 pm26 an26 cd26 ct26), sl26⟩) (c26 : PySem.W.codeIn K cd26 "_law_less" = true) (k26 : PySem.W.keepIn K (.ref f26) = true)
    {f27 : Addr} {od27 an27 : Option Addr} {sl27 : Array (Option Value)} {oc27 kV27 dc27 pm27 cd27 ct27 : Value}
    (a27 : PySem.W.nsIn K mainGlobals "_law_with_row" = some (some (.ref f27))) (l27 : K.lookup f27 = some ⟨oc27, od27, .func (PySem.W.fnOf "_law_with_row" "_law_with_row" (defArgs (top 39)) (defBody (top 39)) (defScope (top 39)) .none kV27 dc27 pm27 an27 cd27 ct27), sl27⟩) (c27 : PySem.W.codeIn K cd27 "_law_with_row" = true) (k27 : PySem.W.keepIn K (.ref f27) = true)
    {f28 : Addr} {od28 an28 : Option Addr} {sl28 : Array (Option Value)} {oc28 kV28 dc28 pm28 cd28 ct28 : Value}
    (a28 : PySem.W.nsIn K mainGlobals "_law_lot" = some (some (.ref f28))) (l28 : K.lookup f28 = some ⟨oc28, od28, .func (PySem.W.fnOf "_law_lot" "_law_lot" (defArgs (top 40)) (defBody (top 40)) (defScope (top 40)) .none kV28 dc28 pm28 an28 cd28 ct28), sl28⟩) (c28 : PySem.W.codeIn K cd28 "_law_lot" = true) (k28 : PySem.W.keepIn K (.ref f28) = true)
    {f29 : Addr} {od29 an29 : Option Addr} {sl29 : Array (Option Value)} {oc29 kV29 dc29 pm29 cd29 ct29 : Value}
    (a29 : PySem.W.nsIn K mainGlobals "_law_units" = some (some (.ref f29))) (l29 : K.lookup f29 = some ⟨oc29, od29, .func (PySem.W.fnOf "_law_units" "_law_units" (defArgs (top 43)) (defBody (top 43)) (defScope (top 43)) .none kV29 dc29 pm29 an29 cd29 ct29), sl29⟩) (c29 : PySem.W.codeIn K cd29 "_law_units" = true) (k29 : PySem.W.keepIn K (.ref f29) = true)
    {f30 : Addr} {od30 an30 : Option Addr} {sl30 : Array (Option Value)} {oc30 kV30 dc30 pm30 cd30 ct30 : Value}
    (a30 : PySem.W.nsIn K mainGlobals "joined_lots" = some (some (.ref f30))) (l30 : K.lookup f30 = some ⟨oc30, od30, .func (PySem.W.fnOf "joined_lots" "joined_lots" (defArgs (top 26)) (defBody (top 26)) (defScope (top 26)) .none kV30 dc30 pm30 an30 cd30 ct30), sl30⟩) (c30 : PySem.W.codeIn K cd30 "joined_lots" = true) (k30 : PySem.W.keepIn K (.ref f30) = true)
    {f31 : Addr} {od31 an31 : Option Addr} {sl31 : Array (Option Value)} {oc31 kV31 dc31 pm31 cd31 ct31 : Value}
    (a31 : PySem.W.nsIn K mainGlobals "_law_dot" = some (some (.ref f31))) (l31 : K.lookup f31 = some ⟨oc31, od31, .func (PySem.W.fnOf "_law_dot" "_law_dot" (defArgs (top 37)) (defBody (top 37)) (defScope (top 37)) .none kV31 dc31 pm31 an31 cd31 ct31), sl31⟩) (c31 : PySem.W.codeIn K cd31 "_law_dot" = true) (k31 : PySem.W.keepIn K (.ref f31) = true)
    {f32 : Addr} {od32 an32 : Option Addr} {sl32 : Array (Option Value)} {oc32 kV32 dc32 pm32 cd32 ct32 : Value}
    (a32 : PySem.W.nsIn K mainGlobals "_law_holds" = some (some (.ref f32))) (l32 : K.lookup f32 = some ⟨oc32, od32, .func (PySem.W.fnOf "_law_holds" "_law_holds" (defArgs (top 41)) (defBody (top 41)) (defScope (top 41)) .none kV32 dc32 pm32 an32 cd32 ct32), sl32⟩) (c32 : PySem.W.codeIn K cd32 "_law_holds" = true) (k32 : PySem.W.keepIn K (.ref f32) = true)
    {f33 : Addr} {od33 an33 : Option Addr} {sl33 : Array (Option Value)} {oc33 kV33 dc33 pm33 cd33 ct33 : Value}
    (a33 : PySem.W.nsIn K mainGlobals "_law_apart" = some (some (.ref f33))) (l33 : K.lookup f33 = some ⟨oc33, od33, .func (PySem.W.fnOf "_law_apart" "_law_apart" (defArgs (top 42)) (defBody (top 42)) (defScope (top 42)) .none kV33 dc33 pm33 an33 cd33 ct33), sl33⟩) (c33 : PySem.W.codeIn K cd33 "_law_apart" = true) (k33 : PySem.W.keepIn K (.ref f33) = true)
    {f34 : Addr} {od34 an34 : Option Addr} {sl34 : Array (Option Value)} {oc34 kV34 dc34 pm34 cd34 ct34 : Value}
    (a34 : PySem.W.nsIn K mainGlobals "_law_pick" = some (some (.ref f34))) (l34 : K.lookup f34 = some ⟨oc34, od34, .func (PySem.W.fnOf "_law_pick" "_law_pick" (defArgs (top 32)) (defBody (top 32)) (defScope (top 32)) .none kV34 dc34 pm34 an34 cd34 ct34), sl34⟩) (c34 : PySem.W.codeIn K cd34 "_law_pick" = true) (k34 : PySem.W.keepIn K (.ref f34) = true)
    {f35 : Addr} {od35 an35 : Option Addr} {sl35 : Array (Option Value)} {oc35 kV35 dc35 pm35 cd35 ct35 : Value}
    (a35 : PySem.W.nsIn K mainGlobals "_law_rw_drawn" = some (some (.ref f35))) (l35 : K.lookup f35 = some ⟨oc35, od35, .func (PySem.W.fnOf "_law_rw_drawn" "_law_rw_drawn" (defArgs (top 44)) (defBody (top 44)) (defScope (top 44)) .none kV35 dc35 pm35 an35 cd35 ct35), sl35⟩) (c35 : PySem.W.codeIn K cd35 "_law_rw_drawn" = true) (k35 : PySem.W.keepIn K (.ref f35) = true)
    {f36 : Addr} {od36 an36 : Option Addr} {sl36 : Array (Option Value)} {oc36 kV36 dc36 pm36 cd36 ct36 : Value}
    (a36 : PySem.W.nsIn K mainGlobals "_law_shuffled" = some (some (.ref f36))) (l36 : K.lookup f36 = some ⟨oc36, od36, .func (PySem.W.fnOf "_law_shuffled" "_law_shuffled" (defArgs (top 33)) (defBody (top 33)) (defScope (top 33)) .none kV36 dc36 pm36 an36 cd36 ct36), sl36⟩) (c36 : PySem.W.codeIn K cd36 "_law_shuffled" = true) (k36 : PySem.W.keepIn K (.ref f36) = true)
    {f37 : Addr} {od37 an37 : Option Addr} {sl37 : Array (Option Value)} {oc37 kV37 dc37 pm37 cd37 ct37 : Value}
    (a37 : PySem.W.nsIn K mainGlobals "_law_rw_mixed" = some (some (.ref f37))) (l37 : K.lookup f37 = some ⟨oc37, od37, .func (PySem.W.fnOf "_law_rw_mixed" "_law_rw_mixed" (defArgs (top 45)) (defBody (top 45)) (defScope (top 45)) .none kV37 dc37 pm37 an37 cd37 ct37), sl37⟩) (c37 : PySem.W.codeIn K cd37 "_law_rw_mixed" = true) (k37 : PySem.W.keepIn K (.ref f37) = true)
    {f38 : Addr} {od38 an38 : Option Addr} {sl38 : Array (Option Value)} {oc38 kV38 dc38 pm38 cd38 ct38 : Value}
    (a38 : PySem.W.nsIn K mainGlobals "_law_met" = some (some (.ref f38))) (l38 : K.lookup f38 = some ⟨oc38, od38, .func (PySem.W.fnOf "_law_met" "_law_met" (defArgs (top 46)) (defBody (top 46)) (defScope (top 46)) .none kV38 dc38 pm38 an38 cd38 ct38), sl38⟩) (c38 : PySem.W.codeIn K cd38 "_law_met" = true) (k38 : PySem.W.keepIn K (.ref f38) = true)
    {f39 : Addr} {od39 an39 : Option Addr} {sl39 : Array (Option Value)} {oc39 kV39 dc39 pm39 cd39 ct39 : Value}
    (a39 : PySem.W.nsIn K mainGlobals "_law_right" = some (some (.ref f39))) (l39 : K.lookup f39 = some ⟨oc39, od39, .func (PySem.W.fnOf "_law_right" "_law_right" (defArgs (top 47)) (defBody (top 47)) (defScope (top 47)) .none kV39 dc39 pm39 an39 cd39 ct39), sl39⟩) (c39 : PySem.W.codeIn K cd39 "_law_right" = true) (k39 : PySem.W.keepIn K (.ref f39) = true)
    {f40 : Addr} {od40 an40 : Option Addr} {sl40 : Array (Option Value)} {oc40 kV40 dc40 pm40 cd40 ct40 : Value}
    (a40 : PySem.W.nsIn K mainGlobals "law" = some (some (.ref f40))) (l40 : K.lookup f40 = some ⟨oc40, od40, .func (PySem.W.fnOf "law" "law" (defArgs (top 48)) (defBody (top 48)) (defScope (top 48)) .none kV40 dc40 pm40 an40 cd40 ct40), sl40⟩) (c40 : PySem.W.codeIn K cd40 "law" = true) (k40 : PySem.W.keepIn K (.ref f40) = true)
    (z_abs : PySem.W.nsIn K mainGlobals "abs" = some none)
    (z_all : PySem.W.nsIn K mainGlobals "all" = some none)
    (z_any : PySem.W.nsIn K mainGlobals "any" = some none)
    (z_bool : PySem.W.nsIn K mainGlobals "bool" = some none)
    (z_enumerate : PySem.W.nsIn K mainGlobals "enumerate" = some none)
    (z_int : PySem.W.nsIn K mainGlobals "int" = some none)
    (z_isinstance : PySem.W.nsIn K mainGlobals "isinstance" = some none)
    (z_len : PySem.W.nsIn K mainGlobals "len" = some none)
    (z_list : PySem.W.nsIn K mainGlobals "list" = some none)
    (z_max : PySem.W.nsIn K mainGlobals "max" = some none)
    (z_min : PySem.W.nsIn K mainGlobals "min" = some none)
    (z_range : PySem.W.nsIn K mainGlobals "range" = some none)
    (z_repr : PySem.W.nsIn K mainGlobals "repr" = some none)
    (z_sorted : PySem.W.nsIn K mainGlobals "sorted" = some none)
    (z_sum : PySem.W.nsIn K mainGlobals "sum" = some none)
    (z_tuple : PySem.W.nsIn K mainGlobals "tuple" = some none)
    (z_zip : PySem.W.nsIn K mainGlobals "zip" = some none)
    {t_MAX_WIDTH : Tok} (e_MAX_WIDTH : PySem.W.nsIn K mainGlobals "MAX_WIDTH" = some (some (.int (60) t_MAX_WIDTH)))
    {base : Heap} : FnD P w K mg base "law" 9 1 F_law := by
  have T : Glb mg := ⟨PySem.W.mg_none_of X G z_abs, PySem.W.mg_none_of X G z_all, PySem.W.mg_none_of X G z_any, PySem.W.mg_none_of X G z_bool, PySem.W.mg_none_of X G z_enumerate, PySem.W.mg_none_of X G z_int, PySem.W.mg_none_of X G z_isinstance, PySem.W.mg_none_of X G z_len, PySem.W.mg_none_of X G z_list, PySem.W.mg_none_of X G z_max, PySem.W.mg_none_of X G z_min, PySem.W.mg_none_of X G z_range, PySem.W.mg_none_of X G z_repr, PySem.W.mg_none_of X G z_sorted, PySem.W.mg_none_of X G z_sum, PySem.W.mg_none_of X G z_tuple, PySem.W.mg_none_of X G z_zip, ⟨_, PySem.W.mg_of X G e_MAX_WIDTH⟩⟩
  have F0 := fun_mk (st := top 7) l0 c0 k0
  have h_is_integer : FnD P w K mg base "is_integer" 1 1 F_is_integer := ok_is_integer T F0 (PySem.W.mg_of X G a0) (F0.binds (ps := ["value"]) fun _ _ _ _ _ _ us hl => match us, hl with | [_], _ => rfl) 
  have F1 := fun_mk (st := top 8) l1 c1 k1
  have h_require_width : FnD P w K mg base "require_width" 2 1 F_require_width := ok_require_width T F1 (PySem.W.mg_of X G a1) (F1.binds (ps := ["width"]) fun _ _ _ _ _ _ us hl => match us, hl with | [_], _ => rfl) h_is_integer
  have F2 := fun_mk (st := top 10) l2 c2 k2
  have h_lead_in : FnD P w K mg base "lead_in" 1 1 F_lead_in := ok_lead_in T F2 (PySem.W.mg_of X G a2) (F2.binds (ps := ["row"]) fun _ _ _ _ _ _ us hl => match us, hl with | [_], _ => rfl) 
  have F3 := fun_mk (st := top 11) l3 c3 k3
  have h_common_share : FnD P w K mg base "common_share" 1 2 F_common_share := ok_common_share T F3 (PySem.W.mg_of X G a3) (F3.binds (ps := ["one", "other"]) fun _ _ _ _ _ _ us hl => match us, hl with | [_, _], _ => rfl) 
  have F4 := fun_mk (st := top 12) l4 c4 k4
  have h_lowest_row : FnD P w K mg base "lowest_row" 2 1 F_lowest_row := ok_lowest_row T F4 (PySem.W.mg_of X G a4) (F4.binds (ps := ["row"]) fun _ _ _ _ _ _ us hl => match us, hl with | [_], _ => rfl) h_lead_in h_common_share
  have F5 := fun_mk (st := top 14) l5 c5 k5
  have h_less_by : FnD P w K mg base "less_by" 2 2 F_less_by := ok_less_by T F5 (PySem.W.mg_of X G a5) (F5.binds (ps := ["row", "other"]) fun _ _ _ _ _ _ us hl => match us, hl with | [_, _], _ => rfl) h_lead_in
  have F6 := fun_mk (st := top 15) l6 c6 k6
  have h_rest_by : FnD P w K mg base "rest_by" 3 2 F_rest_by := ok_rest_by T F6 (PySem.W.mg_of X G a6) (F6.binds (ps := ["lot", "row"]) fun _ _ _ _ _ _ us hl => match us, hl with | [_, _], _ => rfl) h_less_by
  have F7 := fun_mk (st := top 17) l7 c7 k7
  have h_with_row : FnD P w K mg base "with_row" 4 2 F_with_row := ok_with_row T F7 (PySem.W.mg_of X G a7) (F7.binds (ps := ["lot", "row"]) fun _ _ _ _ _ _ us hl => match us, hl with | [_, _], _ => rfl) h_lead_in h_lowest_row h_less_by h_rest_by
  have F8 := fun_mk (st := top 18) l8 c8 k8
  have h_lot_in : FnD P w K mg base "lot_in" 5 1 F_lot_in := ok_lot_in T F8 (PySem.W.mg_of X G a8) (F8.binds (ps := ["rows"]) fun _ _ _ _ _ _ us hl => match us, hl with | [_], _ => rfl) h_with_row
  have F9 := fun_mk (st := top 9) l9 c9 k9
  have h_is_plain_row : FnD P w K mg base "is_plain_row" 2 2 F_is_plain_row := ok_is_plain_row T F9 (PySem.W.mg_of X G a9) (F9.binds (ps := ["width", "value"]) fun _ _ _ _ _ _ us hl => match us, hl with | [_, _], _ => rfl) h_is_integer
  have F10 := fun_mk (st := top 21) l10 c10 k10
  have h_require_rows : FnD P w K mg base "require_rows" 3 2 F_require_rows := ok_require_rows T F10 (PySem.W.mg_of X G a10) (F10.binds (ps := ["width", "rows"]) fun _ _ _ _ _ _ us hl => match us, hl with | [_, _], _ => rfl) h_is_plain_row
  have F11 := fun_mk (st := top 23) l11 c11 k11
  have h_lot_of : FnD P w K mg base "lot_of" 6 2 F_lot_of := ok_lot_of T F11 (PySem.W.mg_of X G a11) (F11.binds (ps := ["width", "rows"]) fun _ _ _ _ _ _ us hl => match us, hl with | [_, _], _ => rfl) h_require_width h_lot_in h_require_rows
  have F12 := fun_mk (st := top 16) l12 c12 k12
  have h_does_hold : FnD P w K mg base "does_hold" 4 2 F_does_hold := ok_does_hold T F12 (PySem.W.mg_of X G a12) (F12.binds (ps := ["lot", "row"]) fun _ _ _ _ _ _ us hl => match us, hl with | [_, _], _ => rfl) h_lead_in h_rest_by
  have F13 := fun_mk (st := top 20) l13 c13 k13
  have h_require_row : FnD P w K mg base "require_row" 3 2 F_require_row := ok_require_row T F13 (PySem.W.mg_of X G a13) (F13.binds (ps := ["width", "row"]) fun _ _ _ _ _ _ us hl => match us, hl with | [_, _], _ => rfl) h_is_plain_row
  have F14 := fun_mk (st := top 13) l14 c14 k14
  have h_is_plain_lot : FnD P w K mg base "is_plain_lot" 3 2 F_is_plain_lot := ok_is_plain_lot T F14 (PySem.W.mg_of X G a14) (F14.binds (ps := ["width", "value"]) fun _ _ _ _ _ _ us hl => match us, hl with | [_, _], _ => rfl) h_is_plain_row h_lead_in h_lowest_row
  have F15 := fun_mk (st := top 22) l15 c15 k15
  have h_require_lot : FnD P w K mg base "require_lot" 4 2 F_require_lot := ok_require_lot T F15 (PySem.W.mg_of X G a15) (F15.binds (ps := ["width", "lot"]) fun _ _ _ _ _ _ us hl => match us, hl with | [_, _], _ => rfl) h_is_plain_lot
  have F16 := fun_mk (st := top 24) l16 c16 k16
  have h_holds : FnD P w K mg base "holds" 5 3 F_holds := ok_holds T F16 (PySem.W.mg_of X G a16) (F16.binds (ps := ["width", "lot", "row"]) fun _ _ _ _ _ _ us hl => match us, hl with | [_, _, _], _ => rfl) h_require_width h_does_hold h_require_row h_require_lot
  have F17 := fun_mk (st := top 19) l17 c17 k17
  have h_apart_in : FnD P w K mg base "apart_in" 6 2 F_apart_in := ok_apart_in T F17 (PySem.W.mg_of X G a17) (F17.binds (ps := ["width", "lot"]) fun _ _ _ _ _ _ us hl => match us, hl with | [_, _], _ => rfl) h_lead_in h_lot_in
  have F18 := fun_mk (st := top 25) l18 c18 k18
  have h_require_two_lots : FnD P w K mg base "require_two_lots" 5 3 F_require_two_lots := ok_require_two_lots T F18 (PySem.W.mg_of X G a18) (F18.binds (ps := ["width", "lot", "other"]) fun _ _ _ _ _ _ us hl => match us, hl with | [_, _, _], _ => rfl) h_require_width h_require_lot
  have F19 := fun_mk (st := top 27) l19 c19 k19
  have h_met_lots : FnD P w K mg base "met_lots" 7 3 F_met_lots := ok_met_lots T F19 (PySem.W.mg_of X G a19) (F19.binds (ps := ["width", "lot", "other"]) fun _ _ _ _ _ _ us hl => match us, hl with | [_, _, _], _ => rfl) h_lot_in h_apart_in h_require_two_lots
  have F20 := fun_mk (st := top 28) l20 c20 k20
  have h_rows_apart : FnD P w K mg base "rows_apart" 7 2 F_rows_apart := ok_rows_apart T F20 (PySem.W.mg_of X G a20) (F20.binds (ps := ["width", "lot"]) fun _ _ _ _ _ _ us hl => match us, hl with | [_, _], _ => rfl) h_require_width h_apart_in h_require_lot
  have F21 := fun_mk (st := top 30) l21 c21 k21
  have h_L_dice : FnD P w K mg base "_law_dice" 1 2 F_L_dice := ok_L_dice T F21 (PySem.W.mg_of X G a21) (F21.binds (ps := ["script", "spot"]) fun _ _ _ _ _ _ us hl => match us, hl with | [_, _], _ => rfl) 
  have F22 := fun_mk (st := top 31) l22 c22 k22
  have h_L_roll : FnD P w K mg base "_law_roll" 1 2 F_L_roll := ok_L_roll T F22 (PySem.W.mg_of X G a22) (F22.binds (ps := ["dice", "total"]) fun _ _ _ _ _ _ us hl => match us, hl with | [_, _], _ => rfl) 
  have F23 := fun_mk (st := top 35) l23 c23 k23
  have h_L_lead : FnD P w K mg base "_law_lead" 1 1 F_L_lead := ok_L_lead T F23 (PySem.W.mg_of X G a23) (F23.binds (ps := ["row"]) fun _ _ _ _ _ _ us hl => match us, hl with | [_], _ => rfl) 
  have F24 := fun_mk (st := top 34) l24 c24 k24
  have h_L_gcd : FnD P w K mg base "_law_gcd" 1 2 F_L_gcd := ok_L_gcd T F24 (PySem.W.mg_of X G a24) (F24.binds (ps := ["one", "other"]) fun _ _ _ _ _ _ us hl => match us, hl with | [_, _], _ => rfl) 
  have F25 := fun_mk (st := top 36) l25 c25 k25
  have h_L_lowest : FnD P w K mg base "_law_lowest" 2 1 F_L_lowest := ok_L_lowest T F25 (PySem.W.mg_of X G a25) (F25.binds (ps := ["row"]) fun _ _ _ _ _ _ us hl => match us, hl with | [_], _ => rfl) h_L_gcd h_L_lead
  have F26 := fun_mk (st := top 38) l26 c26 k26
  have h_L_less : FnD P w K mg base "_law_less" 2 2 F_L_less := ok_L_less T F26 (PySem.W.mg_of X G a26) (F26.binds (ps := ["row", "other"]) fun _ _ _ _ _ _ us hl => match us, hl with | [_, _], _ => rfl) h_L_lead
  have F27 := fun_mk (st := top 39) l27 c27 k27
  have h_L_with_row : FnD P w K mg base "_law_with_row" 3 2 F_L_with_row := ok_L_with_row T F27 (PySem.W.mg_of X G a27) (F27.binds (ps := ["lot", "row"]) fun _ _ _ _ _ _ us hl => match us, hl with | [_, _], _ => rfl) h_L_lead h_L_lowest h_L_less
  have F28 := fun_mk (st := top 40) l28 c28 k28
  have h_L_lot : FnD P w K mg base "_law_lot" 4 1 F_L_lot := ok_L_lot T F28 (PySem.W.mg_of X G a28) (F28.binds (ps := ["rows"]) fun _ _ _ _ _ _ us hl => match us, hl with | [_], _ => rfl) h_L_with_row
  have F29 := fun_mk (st := top 43) l29 c29 k29
  have h_L_units : FnD P w K mg base "_law_units" 1 1 F_L_units := ok_L_units T F29 (PySem.W.mg_of X G a29) (F29.binds (ps := ["wide"]) fun _ _ _ _ _ _ us hl => match us, hl with | [_], _ => rfl) 
  have F30 := fun_mk (st := top 26) l30 c30 k30
  have h_joined_lots : FnD P w K mg base "joined_lots" 6 3 F_joined_lots := ok_joined_lots T F30 (PySem.W.mg_of X G a30) (F30.binds (ps := ["width", "lot", "other"]) fun _ _ _ _ _ _ us hl => match us, hl with | [_, _, _], _ => rfl) h_lot_in h_require_two_lots
  have F31 := fun_mk (st := top 37) l31 c31 k31
  have h_L_dot : FnD P w K mg base "_law_dot" 1 2 F_L_dot := ok_L_dot T F31 (PySem.W.mg_of X G a31) (F31.binds (ps := ["one", "other"]) fun _ _ _ _ _ _ us hl => match us, hl with | [_, _], _ => rfl) 
  have F32 := fun_mk (st := top 41) l32 c32 k32
  have h_L_holds : FnD P w K mg base "_law_holds" 3 2 F_L_holds := ok_L_holds T F32 (PySem.W.mg_of X G a32) (F32.binds (ps := ["lot", "row"]) fun _ _ _ _ _ _ us hl => match us, hl with | [_, _], _ => rfl) h_L_lead h_L_less
  have F33 := fun_mk (st := top 42) l33 c33 k33
  have h_L_apart : FnD P w K mg base "_law_apart" 5 2 F_L_apart := ok_L_apart T F33 (PySem.W.mg_of X G a33) (F33.binds (ps := ["lot", "wide"]) fun _ _ _ _ _ _ us hl => match us, hl with | [_, _], _ => rfl) h_L_lead h_L_lot
  have F34 := fun_mk (st := top 32) l34 c34 k34
  have h_L_pick : FnD P w K mg base "_law_pick" 2 2 F_L_pick := ok_L_pick T F34 (PySem.W.mg_of X G a34) (F34.binds (ps := ["dice", "items"]) fun _ _ _ _ _ _ us hl => match us, hl with | [_, _], _ => rfl) h_L_roll
  have F35 := fun_mk (st := top 44) l35 c35 k35
  have h_L_rw_drawn : FnD P w K mg base "_law_rw_drawn" 3 3 F_L_rw_drawn := ok_L_rw_drawn T F35 (PySem.W.mg_of X G a35) (F35.binds (ps := ["dice", "wide", "many"]) fun _ _ _ _ _ _ us hl => match us, hl with | [_, _, _], _ => rfl) h_L_roll h_L_pick
  have F36 := fun_mk (st := top 33) l36 c36 k36
  have h_L_shuffled : FnD P w K mg base "_law_shuffled" 2 2 F_L_shuffled := ok_L_shuffled T F36 (PySem.W.mg_of X G a36) (F36.binds (ps := ["dice", "items"]) fun _ _ _ _ _ _ us hl => match us, hl with | [_, _], _ => rfl) h_L_roll
  have F37 := fun_mk (st := top 45) l37 c37 k37
  have h_L_rw_mixed : FnD P w K mg base "_law_rw_mixed" 3 2 F_L_rw_mixed := ok_L_rw_mixed T F37 (PySem.W.mg_of X G a37) (F37.binds (ps := ["dice", "rows"]) fun _ _ _ _ _ _ us hl => match us, hl with | [_, _], _ => rfl) h_L_pick h_L_shuffled
  have F38 := fun_mk (st := top 46) l38 c38 k38
  have h_L_met : FnD P w K mg base "_law_met" 6 3 F_L_met := ok_L_met T F38 (PySem.W.mg_of X G a38) (F38.binds (ps := ["wide", "one", "other"]) fun _ _ _ _ _ _ us hl => match us, hl with | [_, _, _], _ => rfl) h_L_lot h_L_apart
  have F39 := fun_mk (st := top 47) l39 c39 k39
  have h_L_right : FnD P w K mg base "_law_right" 8 2 F_L_right := ok_L_right T F39 (PySem.W.mg_of X G a39) (F39.binds (ps := ["dice", "wide"]) fun _ _ _ _ _ _ us hl => match us, hl with | [_, _], _ => rfl) h_lot_of h_holds h_joined_lots h_met_lots h_rows_apart h_L_roll h_L_dot h_L_lot h_L_holds h_L_apart h_L_rw_drawn h_L_rw_mixed h_L_met
  have F40 := fun_mk (st := top 48) l40 c40 k40
  have h_law : FnD P w K mg base "law" 9 1 F_law := ok_law T F40 (PySem.W.mg_of X G a40) (F40.binds (ps := ["script"]) fun _ _ _ _ _ _ us hl => match us, hl with | [_], _ => rfl) h_lot_of h_holds h_met_lots h_rows_apart h_L_dice h_L_roll h_L_lot h_L_units h_L_right
  exact h_law
end K11

instance k11DLX : DL.DLX := ⟨[], fun _ => none⟩
namespace K11
open PySem PySem.Spec PyProof.Rows L2 DL
/-! ### the values that are met: trees without things that change -/
inductive Fine : D → Prop
  | non : Fine .non
  | bl (b : Bool) : Fine (.bl b)
  | int (i : Int) : Fine (.int i)
  | str (x : Str) : Fine (.str x)
  | tup (xs : List D) (h : ∀ x ∈ xs, Fine x) : Fine (.tup xs)
  | lst (xs : List D) (h : ∀ x ∈ xs, Fine x) : Fine (.lst xs)
  | dct (kvs : List (D × D)) : Fine (.dct kvs)
def isI : D → Bool | .int _ => true | _ => false
theorem Fine.no {d : D} (h : Fine d) : noOwn d = true := by cases h <;> rfl
theorem is_integer_ok {d : D} (h : Fine d) (μ : List Cell) : F_is_integer [d] μ = .ok (.bl (isI d)) μ := by
  cases h <;> rfl
theorem ri_fine (xs : List Int) : Fine (Ri xs) := .tup _ fun x hx => by
  obtain ⟨i, _, rfl⟩ := List.mem_map.mp hx
  exact .int i
/-- a row of w ints -/
def rowB (w : Nat) : D → Bool
  | .tup xs => xs.length == w && xs.all isI
  | _ => false
theorem rowB_of {w : Nat} {d : D} (h : rowB w d = true) : ∃ xs : List Int, d = Ri xs ∧ xs.length = w := by
  unfold rowB at h
  split at h
  · rename_i ds
    rw [Bool.and_eq_true] at h
    have key : ∀ ds : List D, ds.all isI = true → ∃ xs : List Int, ds = xs.map .int := by
      intro ds
      induction ds with
      | nil => exact fun _ => ⟨[], rfl⟩
      | cons d ds ih =>
        intro h
        rw [List.all_cons, Bool.and_eq_true] at h
        obtain ⟨xs, rfl⟩ := ih h.2
        cases d <;> simp [isI] at h
        exact ⟨_ :: xs, rfl⟩
    obtain ⟨xs, rfl⟩ := key ds h.2
    exact ⟨xs, rfl, by simpa using h.1⟩
  · cases h
theorem rowB_ri (w : Nat) (xs : List Int) : rowB w (Ri xs) = (xs.length == w) := by
  unfold rowB
  have : (xs.map D.int).all isI = true := by simp [isI]
  simp [this]
/-- all(..) of bools -/
theorem bl_py {α : Type} (f : α → Bool) : ∀ xs : List α, toPyL (xs.map fun x => D.bl (f x)) = some (xs.map fun x => .bool (f x))
  | [] => rfl
  | x :: xs => by simp [toPyL, toPy, bl_py f xs]
theorem bl_plain {α : Type} (f : α → Bool) : ∀ xs : List α, PyData.plainAll (xs.map fun x => PyData.bool (f x)) = true
  | [] => by simp [PyData.plainAll]
  | x :: xs => by simp [PyData.plainAll, PyData.plain, bl_plain f xs]
@[simp] theorem all_bl {α : Type} (s : S) (f : α → Bool) (xs : List α) : gAll s [.lst (xs.map fun x => .bl (f x))] = some (.bl (xs.all f)) := by
  simp only [gAll, asl_lst, Option.bind_some, truthP, bl_py, bl_plain, Bool.true_and]
  rw [if_pos (by simp)]
  simp only [Option.map_some]
  congr 2
  rw [List.all_map]
  rfl
@[simp] theorem any_bl {α : Type} (s : S) (f : α → Bool) (xs : List α) : gAny s [.lst (xs.map fun x => .bl (f x))] = some (.bl (xs.any f)) := by
  simp only [gAny, asl_lst, Option.bind_some, truthP, bl_py, bl_plain, Bool.true_and]
  rw [if_pos (by simp)]
  simp only [Option.map_some]
  congr 2
  rw [List.any_map]
  rfl
theorem require_width_ok {w : Nat} (h1 : 1 ≤ w) (h2 : w ≤ 60) (μ : List Cell) : F_require_width [.int w] μ = .ok .non μ := by
  have d1 : decide ((1 : Int) ≤ w) = true := decide_eq_true (by omega)
  have d2 : decide ((w : Int) ≤ 60) = true := decide_eq_true (by omega)
  simp [F_require_width, b_require_width, runF, is_integer_ok (.int _), isI, dChainT, dChain, d1, d2]
/-- a comprehension over fine data -/
theorem isI_comp (a b : D) (c : Slot) (μ : List Cell) : ∀ ds : List D, (∀ d ∈ ds, Fine d) → dLcGo [2] (gNm 2) dYes (dCall F_is_integer (dCons (dVar 2) dNil)) ds ⟨[.val a, .val b, c], μ⟩ = .ok (ds.map fun d => .bl (isI d)) ⟨[.val a, .val b, c], μ⟩
  | [], _ => rfl
  | d :: ds, h => by
    have hd := h d (by simp)
    simp [dLcGo, wipeD, backD, is_integer_ok hd, hd.no, isI_comp a b c μ ds fun x hx => h x (by simp [hx])]
theorem is_plain_row_ok {w : Nat} {v : D} (h : Fine v) (hl : ∀ xs, v = .tup xs → xs.length ≤ 16777216) (μ : List Cell) : F_is_plain_row [.int w, v] μ = .ok (.bl (rowB w v)) μ := by
  cases h with
  | tup xs hx =>
    have hl := hl xs rfl
    by_cases hw : xs.length = w
    · subst hw
      simp [F_is_plain_row, b_is_plain_row, runF, gIsi, tyD, kitB, gLen, hl, isI_comp _ _ _ _ _ hx, rowB]
    · have e : ((xs.length : Int) == (w : Int)) = false := by simp; omega
      have e2 : (xs.length == w) = false := by simpa using hw
      simp [F_is_plain_row, b_is_plain_row, runF, gIsi, tyD, kitB, gLen, e, rowB, e2]
  | non => rfl
  | bl b => rfl
  | int i => rfl
  | str x => rfl
  | lst xs h => rfl
  | dct k => rfl
end K11

namespace K11
open PySem PySem.Spec PyProof.Rows L2 DL
def lead : List Int → Option Nat
  | [] => none
  | x :: xs => if x = 0 then (lead xs).map (· + 1) else some 0
def optD : Option Nat → D | some i => .int i | none => .non
theorem lead_loop (r : Slot) (μ : List Cell) : ∀ (xs : List Int) (k : Nat) (a b : Slot), ∃ a' b', dFor (gT (gC (gNm 1) (gC (gNm 2) gN))) (dIfS (dCmpT neS (dVar 2) (dC (.int (0)))) (dRet (dVar 1)) dSkip) (enD k (xs.map .int)) ⟨[r, a, b], μ⟩ =
    (match lead xs with | some i => .rt (.int ((k : Int) + (i : Int))) ⟨[r, a', b'], μ⟩ | none => .nx ⟨[r, a', b'], μ⟩)
  | [], k, a, b => ⟨a, b, rfl⟩
  | x :: xs, k, a, b => by
    by_cases h : x = 0
    · subst h
      obtain ⟨a', b', e⟩ := lead_loop r μ xs (k + 1) (.val (.int k)) (.val (.int 0))
      refine ⟨a', b', ?_⟩
      simp [enD, dFor, lead]
      rw [e]
      cases lead xs with
      | none => rfl
      | some i =>
        simp only [Option.map_some]
        rw [show ((k + 1 : Nat) : Int) + (i : Int) = (k : Int) + ((i + 1 : Nat) : Int) from by omega]
    · refine ⟨.val (.int k), .val (.int x), ?_⟩
      have hx : (!(x == 0)) = true := by simpa using h
      simp [enD, dFor, lead, h, hx]
theorem lead_in_ok (xs : List Int) (μ : List Cell) : F_lead_in [Ri xs] μ = .ok (optD (lead xs)) μ := by
  obtain ⟨a', b', e⟩ := lead_loop (.val (Ri xs)) μ xs 0 .no .no
  simp [F_lead_in, b_lead_in, runF, dForI, e]
  cases lead xs with
  | none => simp [optD]
  | some i => simp [optD]
/-! the common share -/
theorem fmod_lt {a b : Int} (h : b ≠ 0) : (a.fmod b).natAbs < b.natAbs := by
  rcases Int.lt_or_gt_of_ne h with h | h
  · have e : a.fmod b = -((-a).fmod (-b)) := by rw [Int.neg_fmod_neg, Int.neg_neg]
    have h1 := Int.fmod_nonneg_of_pos (-a) (b := -b) (by omega)
    have h2 := Int.fmod_lt_of_pos (-a) (b := -b) (by omega)
    omega
  · have h1 := Int.fmod_nonneg_of_pos a h
    have h2 := Int.fmod_lt_of_pos a h
    omega
theorem gcd_fmod (a b : Int) : Int.gcd b (a.fmod b) = Int.gcd a b := by
  rw [Int.fmod_def, Int.gcd_sub_mul_left_right, Int.gcd_comm]
theorem share_loop (μ : List Cell) : ∀ (n : Nat) (a b : Int), b.natAbs < n → ∃ g : Int, g.natAbs = Int.gcd a b ∧ dWhile (dCmpT neS (dVar 1) (dC (.int (0)))) (dPar 0 1 (dCons (dVar 1) (dCons (dOp gMod (dVar 0) (dVar 1)) dNil))) n ⟨[.val (.int a), .val (.int b)], μ⟩ = .nx ⟨[.val (.int g), .val (.int 0)], μ⟩
  | 0, a, b, h => by omega
  | n + 1, a, b, h => by
    by_cases hb : b = 0
    · subst hb
      exact ⟨a, by simp, by simp [dWhile]⟩
    · obtain ⟨g, h1, h2⟩ := share_loop μ n b (a.fmod b) (by have := fmod_lt (a := a) hb; omega)
      refine ⟨g, by rw [h1, gcd_fmod], ?_⟩
      have hx : (!(b == 0)) = true := by simpa using hb
      simp [dWhile, hx, dPar, mod_ii hb, h2]
theorem common_share_ok (a b : Int) (μ : List Cell) : F_common_share [.int a, .int b] μ = .ok (.int (Int.gcd a b)) μ := by
  obtain ⟨g, h1, h2⟩ := share_loop μ (b.natAbs + 1) a b (by omega)
  simp [F_common_share, fu0_common_share, b_common_share, runF, h2, gAbs]
  split <;> omega
theorem L_gcd_ok (a b : Int) (μ : List Cell) : F_L_gcd [.int a, .int b] μ = .ok (.int (Int.gcd a b)) μ := common_share_ok a b μ
/-! the lowest row -/
def gcdF (g : Nat) : List Int → Nat
  | [] => g
  | x :: xs => gcdF (Int.gcd g x) xs
def gcdL (xs : List Int) : Nat := gcdF 0 xs
def leadV (xs : List Int) : Int := match lead xs with | some i => xs.getD i 0 | none => 0
def sgn (xs : List Int) : Int := if leadV xs < 0 then -(gcdL xs : Int) else gcdL xs
def low (xs : List Int) : List Int := if gcdL xs = 0 then xs else xs.map fun x => x.fdiv (sgn xs)
theorem gcdF_dvd : ∀ (xs : List Int) (g : Nat), gcdF g xs ∣ g ∧ ∀ x ∈ xs, (gcdF g xs : Int) ∣ x
  | [], g => ⟨Nat.dvd_refl _, by simp⟩
  | x :: xs, g => by
    obtain ⟨h1, h2⟩ := gcdF_dvd xs (Int.gcd g x)
    have a1 : (Int.gcd g x : Int) ∣ (g : Int) := Int.gcd_dvd_left ..
    have a2 : (Int.gcd g x : Int) ∣ x := Int.gcd_dvd_right ..
    refine ⟨Nat.dvd_trans h1 (Int.natCast_dvd_natCast.mp a1), fun y hy => ?_⟩
    rcases List.mem_cons.mp hy with rfl | hy
    · exact Int.dvd_trans (Int.natCast_dvd_natCast.mpr h1) a2
    · exact h2 y hy
theorem gcdF_zero : ∀ (xs : List Int) (g : Nat), gcdF g xs = 0 ↔ g = 0 ∧ ∀ x ∈ xs, x = 0
  | [], g => by simp [gcdF]
  | x :: xs, g => by
    rw [gcdF, gcdF_zero xs]
    simp only [Int.gcd_eq_zero_iff, List.mem_cons, forall_eq_or_imp]
    constructor
    · rintro ⟨⟨a, b⟩, c⟩
      exact ⟨by omega, b, c⟩
    · rintro ⟨a, b, c⟩
      exact ⟨⟨by omega, b⟩, c⟩
theorem lead_some : ∀ {xs : List Int} {i : Nat}, lead xs = some i → ∃ h : i < xs.length, xs[i] ≠ 0
  | [], i, h => by simp [lead] at h
  | x :: xs, i, h => by
    unfold lead at h
    split at h
    · simp only [Option.map_eq_some_iff] at h
      obtain ⟨j, h1, rfl⟩ := h
      obtain ⟨h2, h3⟩ := lead_some h1
      exact ⟨by simp; omega, by simpa using h3⟩
    · cases h
      exact ⟨by simp, by simpa⟩
theorem lead_none : ∀ {xs : List Int}, lead xs = none ↔ ∀ x ∈ xs, x = 0
  | [] => by simp [lead]
  | x :: xs => by
    unfold lead
    split
    · rename_i h
      simp [h, lead_none (xs := xs)]
    · rename_i h
      simp [h]
theorem gcdL_zero {xs : List Int} : gcdL xs = 0 ↔ lead xs = none := by
  rw [lead_none, gcdL, gcdF_zero]
  simp
/-- the ints are not too great -/
def Bd (n : Nat) (xs : List Int) : Prop := ∀ x ∈ xs, x.natAbs < 2 ^ n
theorem log_lt {a n : Nat} (h : a < 2 ^ n) (hn : 0 < n) : a.log2 < n := by
  by_cases ha : a = 0
  · subst ha; simpa using hn
  · exact (Nat.log2_lt ha).mpr h
theorem fdivOk_of {a b : Int} {n : Nat} (h0 : b ≠ 0) (h : b.natAbs < 2 ^ n) (hn : 0 < n) (hn2 : n ≤ 8900) : fdivOk a b = true := by
  have hl := log_lt h hn
  unfold fdivOk Builtin.divisionGoesByPylong
  have e : (b == 0) = false := by simpa using h0
  have e2 : (b != 0) = true := by simpa using h0
  simp only [e, e2, Bool.true_and, Bool.not_eq_true', Bool.and_eq_false_iff, decide_eq_false_iff_not]
  left
  simp only [Bool.false_eq_true, if_false]
  omega
theorem gcdL_bd {xs : List Int} {n : Nat} (h : Bd n xs) (h0 : gcdL xs ≠ 0) : gcdL xs < 2 ^ n := by
  have h1 : lead xs ≠ none := fun z => h0 (gcdL_zero.mpr z)
  cases e : lead xs with
  | none => exact absurd e h1
  | some i =>
    obtain ⟨hi, hx⟩ := lead_some e
    have hm : xs[i] ∈ xs := List.getElem_mem hi
    have hd := (gcdF_dvd xs 0).2 _ hm
    have := Nat.le_of_dvd (by omega) (Int.ofNat_dvd_left.mp hd)
    have := h _ hm
    unfold gcdL
    omega
theorem share_for (r : Slot) (μ : List Cell) : ∀ (xs : List Int) (g : Nat) (c : DL.Slot), ∃ c', (c' = c ∨ ∃ d, c' = .val d) ∧ dFor (gNm 2) (dAsg 1 (dCall F_common_share (dCons (dVar 1) (dCons (dVar 2) dNil)))) (xs.map .int) ⟨[r, .val (.int g), c], μ⟩ = .nx ⟨[r, .val (.int (gcdF g xs)), c'], μ⟩
  | [], g, c => ⟨c, .inl rfl, rfl⟩
  | x :: xs, g, c => by
    obtain ⟨c', hc, e⟩ := share_for r μ xs (Int.gcd g x) (.val (.int x))
    refine ⟨c', .inr (hc.elim (fun z => ⟨_, z⟩) fun z => z), ?_⟩
    simp [dFor, common_share_ok, gcdF]
    exact e
theorem div_comp (r c : Slot) (μ : List Cell) {s : Int} (h : ∀ a, fdivOk a s = true) : ∀ xs : List Int, dLcGo [2] (gNm 2) dYes (dOp gFdiv (dVar 2) (dVar 1)) (xs.map .int) ⟨[r, .val (.int s), c], μ⟩ = .ok (xs.map fun x => .int (x.fdiv s)) ⟨[r, .val (.int s), c], μ⟩
  | [] => rfl
  | x :: xs => by
    simp [dLcGo, wipeD, backD, fdiv_ii (h x), div_comp r c μ h xs]
theorem ix_row (s : S) (xs : List Int) (i : Nat) (h : i < xs.length) : gIx s (.tup (xs.map .int)) (.int i) = some (.int xs[i]) := by
  simp [gIx, L2.atI, L2.ixN, h]
theorem gcdL_lt {xs : List Int} {n : Nat} (h : Bd n xs) : gcdL xs < 2 ^ n := by
  by_cases h0 : gcdL xs = 0
  · rw [h0]; exact Nat.two_pow_pos n
  · exact gcdL_bd h h0
theorem lowest_row_okg {xs : List Int} (h : gcdL xs < 2 ^ 8900) (hl : xs.length ≤ 16777216) (μ : List Cell) : F_lowest_row [Ri xs] μ = .ok (Ri (low xs)) μ := by
  obtain ⟨c', hc, e⟩ := share_for (.val (Ri xs)) μ xs 0 .no
  have hc : c' = .no ∨ ∃ d, c' = .val d := hc
  have e : dFor (gNm 2) (dAsg 1 (dCall F_common_share (dCons (dVar 1) (dCons (dVar 2) dNil)))) (xs.map .int) ⟨[.val (Ri xs), .val (.int 0), .no], μ⟩ = .nx ⟨[.val (Ri xs), .val (.int (gcdL xs)), c'], μ⟩ := e
  by_cases h0 : gcdL xs = 0
  · simp [F_lowest_row, b_lowest_row, runF, dForI, e, h0, gTuple, low]
  · have h1 : ((gcdL xs : Int) == 0) = false := by simpa using h0
    cases el : lead xs with
    | none => exact absurd (gcdL_zero.mpr el) h0
    | some i =>
      obtain ⟨hi, hx⟩ := lead_some el
      have hb := h
      have lv : leadV xs = xs[i] := by
        unfold leadV
        rw [el]
        simp [List.getD, hi]
      by_cases hs : xs[i] < 0
      · have ed : decide (xs[i] < 0) = true := decide_eq_true hs
        have es : sgn xs = -(gcdL xs : Int) := by unfold sgn; rw [lv, if_pos hs]
        have ok : ∀ a, fdivOk a (-(gcdL xs : Int)) = true := fun a => fdivOk_of (n := 8900) (by omega) (by omega) (by decide) (by decide)
        rcases hc with rfl | ⟨d, rfl⟩ <;> simp [F_lowest_row, b_lowest_row, runF, dForI, e, h1, lead_in_ok, el, optD, ix_row _ _ _ hi, ed, gTuple, low, h0, hl, div_comp _ _ _ ok, es]
      · have ed : decide (xs[i] < 0) = false := decide_eq_false hs
        have es : sgn xs = (gcdL xs : Int) := by unfold sgn; rw [lv, if_neg hs]
        have ok : ∀ a, fdivOk a (gcdL xs : Int) = true := fun a => fdivOk_of (n := 8900) (by omega) (by omega) (by decide) (by decide)
        rcases hc with rfl | ⟨d, rfl⟩ <;> simp [F_lowest_row, b_lowest_row, runF, dForI, e, h1, lead_in_ok, el, optD, ix_row _ _ _ hi, ed, gTuple, low, h0, hl, div_comp _ _ _ ok, es]
theorem lowest_row_ok {xs : List Int} (h : Bd 8900 xs) (hl : xs.length ≤ 16777216) (μ : List Cell) : F_lowest_row [Ri xs] μ = .ok (Ri (low xs)) μ := lowest_row_okg (gcdL_lt h) hl μ
end K11

namespace K11
open PySem PySem.Spec PyProof.Rows L2 DL
/-! ### the law's lead and lowest -/
def nz (k : Nat) : List Int → List Int
  | [] => []
  | x :: xs => if x = 0 then nz (k + 1) xs else (k : Int) :: nz (k + 1) xs
def leadL (xs : List Int) : Nat := match lead xs with | some i => i | none => xs.length
theorem nz_comp (r : DL.Slot) (μ : List Cell) : ∀ (xs : List Int) (k : Nat), dLcGo [1, 2] (gT (gC (gNm 1) (gC (gNm 2) gN))) (dCmpT neS (dVar 2) (dC (.int (0)))) (dVar 1) (enD k (xs.map .int)) ⟨[r, .no, .no], μ⟩ = .ok ((nz k xs).map .int) ⟨[r, .no, .no], μ⟩
  | [], k => rfl
  | x :: xs, k => by
    by_cases h : x = 0
    · subst h
      simp [enD, dLcGo, wipeD, backD, nz, nz_comp r μ xs (k + 1)]
    · have hx : (!(x == 0)) = true := by simpa using h
      simp [enD, dLcGo, wipeD, backD, nz, nz_comp r μ xs (k + 1), h, hx]
theorem nz_ge : ∀ (xs : List Int) (k : Nat), ∀ y ∈ nz k xs, (k : Int) ≤ y
  | [], k => by simp [nz]
  | x :: xs, k => by
    intro y hy
    unfold nz at hy
    split at hy
    · have := nz_ge xs (k + 1) y hy
      omega
    · rcases List.mem_cons.mp hy with rfl | hy
      · omega
      · have := nz_ge xs (k + 1) y hy
        omega
theorem nz_lead : ∀ (xs : List Int) (k : Nat), match lead xs with | some i => ∃ rest, nz k xs = ((k + i : Nat) : Int) :: rest ∧ ∀ y ∈ rest, ((k + i : Nat) : Int) ≤ y | none => nz k xs = []
  | [], k => by simp [lead, nz]
  | x :: xs, k => by
    have ih := nz_lead xs (k + 1)
    by_cases hx : x = 0
    · simp only [lead, nz, hx, if_true]
      cases e : lead xs with
      | none => rw [e] at ih; simpa using ih
      | some i =>
        rw [e] at ih
        obtain ⟨rest, h1, h2⟩ := ih
        simp only [Option.map_some]
        rw [show k + 1 + i = k + (i + 1) from by omega] at h1 h2
        exact ⟨rest, h1, h2⟩
    · simp only [lead, nz, hx, if_false]
      refine ⟨nz (k + 1) xs, by simp, fun y hy => ?_⟩
      have := nz_ge xs (k + 1) y hy
      omega
theorem min_head (a : Int) (l : List Int) (h : ∀ y ∈ l, a ≤ y) : l.foldl min a = a := by
  induction l with
  | nil => rfl
  | cons b l ih =>
    rw [List.foldl_cons, show min a b = a from by have := h b (by simp); omega]
    exact ih fun y hy => h y (by simp [hy])
theorem ints_map (ns : List Int) : intsD (ns.map .int) = some ns := by
  unfold intsD
  induction ns with
  | nil => rfl
  | cons n ns ih => simp [List.mapM_cons, DL.intD, ih]
theorem nz_len : ∀ (xs : List Int) (k : Nat), (nz k xs).length ≤ xs.length
  | [], k => by simp [nz]
  | x :: xs, k => by
    have := nz_len xs (k + 1)
    unfold nz
    split <;> simp <;> omega
theorem add_ll (s : S) (a b : List D) (h : a.length + b.length ≤ 16777216) : gAdd s (.lst a) (.lst b) = some (.lst (a ++ b)) := by
  simp [gAdd, h]
theorem lead_lt {xs : List Int} : leadL xs ≤ xs.length := by
  unfold leadL
  cases e : lead xs with
  | none => exact Nat.le_refl _
  | some i => exact Nat.le_of_lt (lead_some e).1
theorem L_lead_ok (xs : List Int) (hl : xs.length < 16777216) (μ : List Cell) : F_L_lead [Ri xs] μ = .ok (.int (leadL xs)) μ := by
  have h2 := nz_len xs 0
  have h3 := nz_lead xs 0
  have e : gAdd ⟨[.val (Ri xs), .no, .no], μ⟩ (.lst ((nz 0 xs).map .int)) (.lst [.int (xs.length : Int)]) = some (.lst ((nz 0 xs).map .int ++ [.int (xs.length : Int)])) := add_ll _ _ _ (by simp; omega)
  have ei : intsD ((nz 0 xs).map .int ++ [.int (xs.length : Int)]) = some (nz 0 xs ++ [(xs.length : Int)]) := by
    have := ints_map (nz 0 xs ++ [(xs.length : Int)])
    rwa [List.map_append] at this
  have en : (enD 0 (xs.map .int)).length = xs.length := by rw [enD_len]; simp
  have em : minD (nz 0 xs ++ [(xs.length : Int)]) = some (.int (leadL xs)) := by
    cases el : lead xs with
    | none => rw [el] at h3; simp [h3, minD, leadL, el]
    | some i =>
      rw [el] at h3
      obtain ⟨rest, h4, h5⟩ := h3
      rw [h4]
      simp only [List.cons_append, minD, Nat.zero_add]
      rw [min_head]
      · simp [leadL, el]
      · intro y hy
        rcases List.mem_append.mp hy with hy | hy
        · simpa using h5 y hy
        · have := (lead_some el).1
          simp at hy
          omega
  simp [F_L_lead, b_L_lead, runF, en, nz_comp, gLen, e, gMin, ei, em, Nat.le_of_lt hl]
theorem fdiv_neg {x g : Int} (h : g ∣ x) (h0 : g ≠ 0) : x.fdiv (-g) = -1 * x.fdiv g := by
  obtain ⟨c, rfl⟩ := h
  have h1 : (g * c).fdiv g = c := by rw [Int.mul_fdiv_cancel_left _ h0]
  have h2 : (g * c).fdiv (-g) = -c := by
    rw [show g * c = (-g) * (-c) from by rw [Int.neg_mul_neg], Int.mul_fdiv_cancel_left _ (by omega)]
  rw [h1, h2]
  omega
theorem mulOk_of {a b : Int} {n m : Nat} (ha : a.natAbs < 2 ^ n) (hb : b.natAbs < 2 ^ m) (hn : 0 < n) (hm : 0 < m) (h : n + m ≤ 50000) : mulOk a b = true := by
  have h1 := log_lt ha hn
  have h2 := log_lt hb hm
  unfold mulOk
  exact decide_eq_true (by omega)
theorem fdiv_abs {x g : Int} (h : g ∣ x) (h0 : g ≠ 0) : (x.fdiv g).natAbs ≤ x.natAbs := by
  obtain ⟨c, rfl⟩ := h
  rw [Int.mul_fdiv_cancel_left _ h0, Int.natAbs_mul]
  have : 1 ≤ g.natAbs := by omega
  exact Nat.le_mul_of_pos_left _ this
theorem shareL_for (r q : DL.Slot) (μ : List Cell) : ∀ (xs : List Int) (g : Nat) (c : DL.Slot), ∃ c', (c' = c ∨ ∃ d, c' = .val d) ∧ dFor (gNm 2) (dAsg 1 (dCall F_L_gcd (dCons (dVar 1) (dCons (dVar 2) dNil)))) (xs.map .int) ⟨[r, .val (.int g), c, q], μ⟩ = .nx ⟨[r, .val (.int (gcdF g xs)), c', q], μ⟩
  | [], g, c => ⟨c, .inl rfl, rfl⟩
  | x :: xs, g, c => by
    obtain ⟨c', hc, e⟩ := shareL_for r q μ xs (Int.gcd g x) (.val (.int x))
    refine ⟨c', .inr (hc.elim (fun z => ⟨_, z⟩) fun z => z), ?_⟩
    simp [dFor, L_gcd_ok, gcdF]
    exact e
theorem divL_comp (r c : DL.Slot) (μ : List Cell) {s g : Int} (hs : s = 1 ∨ s = -1) (h0 : g ≠ 0) (h : ∀ a, fdivOk a g = true) : ∀ xs : List Int, (∀ x ∈ xs, g ∣ x ∧ x.natAbs < 2 ^ 40000) → dLcGo [2] (gNm 2) dYes (dOp gMul (dVar 3) (dOp gFdiv (dVar 2) (dVar 1))) (xs.map .int) ⟨[r, .val (.int g), c, .val (.int s)], μ⟩ = .ok (xs.map fun x => .int (s * x.fdiv g)) ⟨[r, .val (.int g), c, .val (.int s)], μ⟩
  | [], _ => rfl
  | x :: xs, hx => by
    obtain ⟨h1, h2⟩ := hx x (by simp)
    have hm : mulOk s (x.fdiv g) = true := mulOk_of (n := 1) (m := 40000) (by rcases hs with rfl | rfl <;> decide) (by have := fdiv_abs h1 h0; omega) (by decide) (by decide) (by decide)
    simp [dLcGo, wipeD, backD, fdiv_ii (h x), mul_ii hm, divL_comp r c μ hs h0 h xs fun y hy => hx y (by simp [hy])]
theorem L_lowest_okg {xs : List Int} (h : Bd 40000 xs) (hgl : gcdL xs < 2 ^ 8900) (hl : xs.length < 16777216) (μ : List Cell) : F_L_lowest [Ri xs] μ = .ok (Ri (low xs)) μ := by
  obtain ⟨c', hc, e⟩ := shareL_for (.val (Ri xs)) .no μ xs 0 .no
  have hc : c' = .no ∨ ∃ d, c' = .val d := hc
  have e : dFor (gNm 2) (dAsg 1 (dCall F_L_gcd (dCons (dVar 1) (dCons (dVar 2) dNil)))) (xs.map .int) ⟨[.val (Ri xs), .val (.int 0), .no, .no], μ⟩ = .nx ⟨[.val (Ri xs), .val (.int (gcdL xs)), c', .no], μ⟩ := e
  have hl2 := Nat.le_of_lt hl
  by_cases h0 : gcdL xs = 0
  · simp [F_L_lowest, b_L_lowest, runF, dForI, e, h0, gTuple, low]
  · have h1 : ((gcdL xs : Int) == 0) = false := by simpa using h0
    cases el : lead xs with
    | none => exact absurd (gcdL_zero.mpr el) h0
    | some i =>
      obtain ⟨hi, hx⟩ := lead_some el
      have hb := hgl
      have hg : ((gcdL xs : Nat) : Int) ≠ 0 := by omega
      have lv : leadV xs = xs[i] := by
        unfold leadV
        rw [el]
        simp [List.getD, hi]
      have ll : leadL xs = i := by unfold leadL; rw [el]
      have hd : ∀ x ∈ xs, (gcdL xs : Int) ∣ x ∧ x.natAbs < 2 ^ 40000 := fun x hx => ⟨(gcdF_dvd xs 0).2 x hx, h x hx⟩
      have ok : ∀ a, fdivOk a (gcdL xs : Int) = true := fun a => fdivOk_of (n := 8900) (by omega) (by omega) (by decide) (by decide)
      by_cases hs : xs[i] < 0
      · have ed : decide (0 < xs[i]) = false := decide_eq_false (by omega)
        have es : sgn xs = -(gcdL xs : Int) := by unfold sgn; rw [lv, if_pos hs]
        have el2 : low xs = xs.map fun x => -1 * x.fdiv (gcdL xs) := by
          unfold low
          rw [if_neg h0, es]
          exact List.map_congr_left fun x hx => fdiv_neg (hd x hx).1 hg
        have dc := divL_comp (.val (Ri xs)) c' μ (.inr rfl : (-1 : Int) = 1 ∨ (-1 : Int) = -1) hg ok xs hd
        rw [el2]
        rcases hc with rfl | ⟨d, rfl⟩ <;> simp [F_L_lowest, b_L_lowest, runF, dForI, e, h1, L_lead_ok _ hl, ll, ix_row _ _ _ hi, ed, gTuple, hl2, dc]
      · have ed : decide (0 < xs[i]) = true := decide_eq_true (by omega)
        have es : sgn xs = (gcdL xs : Int) := by unfold sgn; rw [lv, if_neg hs]
        have el2 : low xs = xs.map fun x => 1 * x.fdiv (gcdL xs) := by
          unfold low
          rw [if_neg h0, es]
          exact List.map_congr_left fun x hx => by rw [Int.one_mul]
        have dc := divL_comp (.val (Ri xs)) c' μ (.inl rfl : (1 : Int) = 1 ∨ (1 : Int) = -1) hg ok xs hd
        rw [el2]
        rcases hc with rfl | ⟨d, rfl⟩ <;> simp [F_L_lowest, b_L_lowest, runF, dForI, e, h1, L_lead_ok _ hl, ll, ix_row _ _ _ hi, ed, gTuple, hl2, dc]
theorem L_lowest_ok {xs : List Int} (h : Bd 8900 xs) (hl : xs.length < 16777216) (μ : List Cell) : F_L_lowest [Ri xs] μ = .ok (Ri (low xs)) μ :=
  L_lowest_okg (fun x hx => Nat.lt_of_lt_of_le (h x hx) (Nat.pow_le_pow_right (by decide) (by decide))) (gcdL_lt h) hl μ
end K11

namespace K11
open PySem PySem.Spec PyProof.Rows L2 DL
/-! ### rows put together -/
def zw (f : Int → Int → Int) (xs ys : List Int) : List Int := List.zipWith f xs ys
theorem zw_len {f : Int → Int → Int} {xs ys : List Int} (h : xs.length = ys.length) : (zw f xs ys).length = xs.length := by simp [zw, h]
theorem tup_ints (s : S) (xs : List Int) : gTuple s [.lst (xs.map .int)] = some (Ri xs) := rfl
theorem sum_ints (s : S) (xs : List Int) : gSum s [.lst (xs.map .int)] = some (.int xs.sum) := by simp [gSum, ints_map]
theorem mul_comp (a b : DL.Slot) (μ : List Cell) {n m : Nat} (hn : 0 < n) (hm : 0 < m) (hnm : n + m ≤ 50000) : ∀ xs ys : List Int, Bd n xs → Bd m ys → dLcGo [2, 3] (gT (gC (gNm 2) (gC (gNm 3) gN))) dYes (dOp gMul (dVar 2) (dVar 3)) (zpD (xs.map .int) (ys.map .int)) ⟨[a, b, .no, .no], μ⟩ = .ok ((zw (· * ·) xs ys).map .int) ⟨[a, b, .no, .no], μ⟩
  | [], ys, _, _ => by simp [zpD, dLcGo, zw]
  | x :: xs, [], _, _ => by simp [zpD, dLcGo, zw]
  | x :: xs, y :: ys, h1, h2 => by
    have ih := mul_comp a b μ hn hm hnm xs ys (fun z hz => h1 z (by simp [hz])) (fun z hz => h2 z (by simp [hz]))
    have hk := mulOk_of (h1 x (by simp)) (h2 y (by simp)) hn hm hnm
    unfold zw at ih
    simp [zpD, dLcGo, zw, wipeD, backD, ih, mul_ii hk]
theorem zp_len (xs ys : List Int) : (zpD (xs.map .int) (ys.map .int)).length = min xs.length ys.length := by simp [zpD_len]
theorem L_dot_ok {xs ys : List Int} {n m : Nat} (hn : 0 < n) (hm : 0 < m) (hnm : n + m ≤ 50000) (h1 : Bd n xs) (h2 : Bd m ys) (hl : xs.length ≤ 16777216) (μ : List Cell) : F_L_dot [Ri xs, Ri ys] μ = .ok (.int (zw (· * ·) xs ys).sum) μ := by
  have h : min xs.length ys.length ≤ 16777216 := by omega
  simp [F_L_dot, b_L_dot, runF, zp_len, h, mul_comp _ _ _ hn hm hnm _ _ h1 h2, sum_ints]
/-! ### the checks -/
theorem ri_len (xs : List Int) : ∀ ys, Ri xs = .tup ys → ys.length = xs.length := fun ys h => by
  cases h
  simp
theorem require_row_ok {w : Nat} {xs : List Int} (h : xs.length = w) (hl : w ≤ 16777216) (μ : List Cell) : F_require_row [.int w, Ri xs] μ = .ok .non μ := by
  have e := is_plain_row_ok (w := w) (ri_fine xs) (fun ys hy => by rw [ri_len _ _ hy]; omega) μ
  rw [rowB_ri, show (xs.length == w) = true from by simpa using h] at e
  simp [F_require_row, b_require_row, runF, e]
theorem plain_rows (a : D) (μ : List Cell) {w : Nat} (b c : DL.Slot) : ∀ ds : List D, (∀ d ∈ ds, Fine d ∧ ∀ xs, d = .tup xs → xs.length ≤ 16777216) → dLcGo [2] (gNm 2) dYes (dCall F_is_plain_row (dCons (dVar 0) (dCons (dVar 2) dNil))) ds ⟨[.val (.int w), b, c], μ⟩ = .ok (ds.map fun d => .bl (rowB w d)) ⟨[.val (.int w), b, c], μ⟩
  | [], _ => rfl
  | d :: ds, h => by
    obtain ⟨h1, h2⟩ := h d (by simp)
    simp [dLcGo, wipeD, backD, is_plain_row_ok h1 h2, h1.no, plain_rows a μ b c ds fun x hx => h x (by simp [hx])]
theorem require_rows_ok {w : Nat} {m : List (List Int)} (h : ∀ r ∈ m, r.length = w) (hw : w ≤ 16777216) (hl : m.length ≤ 16777216) (μ : List Cell) : F_require_rows [.int w, .tup (m.map Ri)] μ = .ok .non μ := by
  have e := plain_rows (.non) μ (w := w) (.val (.tup (m.map Ri))) .no (m.map Ri) fun d hd => by
    obtain ⟨r, hr, rfl⟩ := List.mem_map.mp hd
    exact ⟨ri_fine r, fun ys hy => by rw [ri_len _ _ hy, h r hr]; exact hw⟩
  have ha : (m.map Ri).all (rowB w) = true := by
    rw [List.all_map, List.all_eq_true]
    intro r hr
    show rowB w (Ri r) = true
    rw [rowB_ri]
    simpa using h r hr
  simp [F_require_rows, b_require_rows, runF, gIsi, tyD, kitB, hl, e, -List.map_map, ha]
end K11

namespace K11
open PySem PySem.Spec PyProof.Rows L2 DL
/-! ### less -/
def at0 (xs : List Int) (j : Nat) : Int := xs.getD j 0
def less (row other : List Int) : List Int := match lead other with
  | none => row
  | some i => if at0 row i = 0 then row else zw (fun a b => at0 other i * a - at0 row i * b) row other
theorem at0_lt {xs : List Int} {i : Nat} (h : i < xs.length) : at0 xs i = xs[i] := by simp [at0, List.getD, h]
theorem at0_ge {xs : List Int} {i : Nat} (h : xs.length ≤ i) : at0 xs i = 0 := by simp [at0, List.getD, h]
theorem lead_iff {xs : List Int} {i : Nat} : lead xs = some i ↔ at0 xs i ≠ 0 ∧ ∀ j < i, at0 xs j = 0 := by
  induction xs generalizing i with
  | nil => simp [lead, at0]
  | cons x xs ih =>
    unfold lead
    by_cases h : x = 0
    · rw [if_pos h]
      simp only [Option.map_eq_some_iff]
      constructor
      · rintro ⟨k, h1, rfl⟩
        obtain ⟨h2, h3⟩ := ih.mp h1
        refine ⟨by simpa [at0] using h2, fun j hj => ?_⟩
        cases j with
        | zero => simpa [at0] using h
        | succ j => simpa [at0] using h3 j (by omega)
      · rintro ⟨h2, h3⟩
        cases i with
        | zero => simp [at0] at h2; exact absurd h h2
        | succ i => exact ⟨i, ih.mpr ⟨by simpa [at0] using h2, fun j hj => by simpa [at0] using h3 (j + 1) (by omega)⟩, rfl⟩
    · rw [if_neg h]
      constructor
      · intro e
        cases e
        exact ⟨by simpa [at0] using h, fun j hj => by omega⟩
      · rintro ⟨h2, h3⟩
        cases i with
        | zero => rfl
        | succ i => exact absurd (by simpa [at0] using h3 0 (by omega)) h
theorem lead_ne {xs : List Int} {j : Nat} (h : at0 xs j ≠ 0) : ∃ i, lead xs = some i ∧ i ≤ j := by
  cases e : lead xs with
  | none =>
    by_cases hj : j < xs.length
    · rw [at0_lt hj] at h
      exact absurd (lead_none.mp e _ (List.getElem_mem hj)) h
    · exact absurd (at0_ge (by omega)) h
  | some i =>
    refine ⟨i, rfl, ?_⟩
    by_cases hj : j < i
    · exact absurd ((lead_iff.mp e).2 j hj) h
    · omega
theorem zw_at {f : Int → Int → Int} (h0 : f 0 0 = 0) {xs ys : List Int} (h : xs.length = ys.length) (j : Nat) : at0 (zw f xs ys) j = f (at0 xs j) (at0 ys j) := by
  by_cases hj : j < xs.length
  · rw [at0_lt (by rw [zw_len h]; exact hj), at0_lt hj, at0_lt (by omega)]
    simp [zw]
  · rw [at0_ge (by rw [zw_len h]; omega), at0_ge (by omega), at0_ge (by omega), h0]
theorem less_len {row other : List Int} (h : row.length = other.length) : (less row other).length = row.length := by
  unfold less
  split
  · rfl
  · split
    · rfl
    · exact zw_len h
theorem less_zero {row other : List Int} (h : row.length = other.length) {i : Nat} (hi : lead other = some i) : at0 (less row other) i = 0 := by
  unfold less
  rw [hi]
  simp only
  split
  · assumption
  · rw [zw_at (by simp) h]
    rw [Int.mul_comm]
    omega
theorem less_iff {row other : List Int} (h : row.length = other.length) {j : Nat} (hj : at0 other j = 0) : at0 (less row other) j = 0 ↔ at0 row j = 0 := by
  unfold less
  split
  · exact Iff.rfl
  · rename_i i hi
    have h1 := (lead_iff.mp hi).1
    split
    · exact Iff.rfl
    · rw [zw_at (by simp) h, hj, Int.mul_zero, Int.sub_zero]
      constructor
      · intro e
        rcases Int.mul_eq_zero.mp e with e | e
        · exact absurd e h1
        · exact e
      · intro e
        rw [e, Int.mul_zero]
theorem bd_at {n : Nat} {xs : List Int} (h : Bd n xs) (j : Nat) : (at0 xs j).natAbs < 2 ^ n := by
  by_cases hj : j < xs.length
  · rw [at0_lt hj]
    exact h _ (List.getElem_mem hj)
  · rw [at0_ge (by omega)]
    exact Nat.pow_pos (by decide)
theorem Bd.mono {n m : Nat} {xs : List Int} (h : Bd n xs) (hn : n ≤ m) : Bd m xs := fun x hx => Nat.lt_of_lt_of_le (h x hx) (Nat.pow_le_pow_right (by decide) hn)
theorem comb_bd {a b c d : Int} {n m : Nat} (ha : a.natAbs < 2 ^ m) (hb : b.natAbs < 2 ^ n) (hc : c.natAbs < 2 ^ n) (hd : d.natAbs < 2 ^ m) : (a * b - c * d).natAbs < 2 ^ (n + m + 1) := by
  have h1 : (a * b).natAbs < 2 ^ (n + m) := by
    rw [Int.natAbs_mul, Nat.add_comm, Nat.pow_add]
    exact Nat.mul_lt_mul'' ha hb
  have h2 : (c * d).natAbs < 2 ^ (n + m) := by
    rw [Int.natAbs_mul, Nat.pow_add]
    exact Nat.mul_lt_mul'' hc hd
  have h3 : (2 : Nat) ^ (n + m + 1) = 2 ^ (n + m) + 2 ^ (n + m) := by rw [Nat.pow_succ]; omega
  omega
theorem less_bd {n m : Nat} {row other : List Int} (h1 : Bd n row) (h2 : Bd m other) : Bd (n + m + 1) (less row other) := by
  unfold less
  split
  · exact h1.mono (by omega)
  · split
    · exact h1.mono (by omega)
    · intro x hx
      unfold zw at hx
      rw [List.mem_iff_getElem] at hx
      obtain ⟨j, hj, rfl⟩ := hx
      rw [List.getElem_zipWith]
      exact comb_bd (bd_at h2 _) (h1 _ (List.getElem_mem _)) (bd_at h1 _) (h2 _ (List.getElem_mem _))
theorem less_comp (μ : List Cell) {row other : List Int} {i : Nat} (hi : i < row.length) (hi2 : i < other.length) {n m : Nat} (hn : 0 < n) (hm : 0 < m) (hnm : n + m ≤ 50000) (br : Bd n row) (bo : Bd m other) : ∀ xs ys : List Int, Bd n xs → Bd m ys →
    dLcGo [3, 4] (gT (gC (gNm 3) (gC (gNm 4) gN))) dYes (dOp gSub (dOp gMul (dOp gIx (dVar 1) (dVar 2)) (dVar 3)) (dOp gMul (dOp gIx (dVar 0) (dVar 2)) (dVar 4))) (zpD (xs.map .int) (ys.map .int)) ⟨[.val (Ri row), .val (Ri other), .val (.int i), .no, .no], μ⟩ =
      .ok ((zw (fun a b => at0 other i * a - at0 row i * b) xs ys).map .int) ⟨[.val (Ri row), .val (Ri other), .val (.int i), .no, .no], μ⟩
  | [], ys, _, _ => by simp [zpD, dLcGo, zw]
  | x :: xs, [], _, _ => by simp [zpD, dLcGo, zw]
  | x :: xs, y :: ys, h1, h2 => by
    have ih := less_comp μ hi hi2 hn hm hnm br bo xs ys (fun z hz => h1 z (by simp [hz])) (fun z hz => h2 z (by simp [hz]))
    have k1 := mulOk_of (bo _ (List.getElem_mem hi2)) (h1 x (by simp)) hm hn (by omega)
    have k2 := mulOk_of (br _ (List.getElem_mem hi)) (h2 y (by simp)) hn hm hnm
    unfold zw at ih
    simp [zpD, dLcGo, zw, wipeD, backD, ih, ix_row _ _ _ hi, ix_row _ _ _ hi2, mul_ii k1, mul_ii k2, at0_lt hi, at0_lt hi2]
theorem less_by_ok {row other : List Int} (h : row.length = other.length) (hl : row.length ≤ 16777216) {i : Nat} (hi : lead other = some i) {n m : Nat} (hn : 0 < n) (hm : 0 < m) (hnm : n + m ≤ 50000) (br : Bd n row) (bo : Bd m other) (μ : List Cell) :
    F_less_by [Ri row, Ri other] μ = .ok (Ri (less row other)) μ := by
  have hio := (lead_some hi).1
  have hir : i < row.length := by omega
  by_cases h0 : row[i] = 0
  · have e : (row[i] == 0) = true := by simpa using h0
    have el : less row other = row := by unfold less; rw [hi]; simp only [at0_lt hir, h0, if_true]
    rw [el]
    simp [F_less_by, b_less_by, runF, lead_in_ok, hi, optD, ix_row _ _ _ hir, e]
  · have e : (row[i] == 0) = false := by simpa using h0
    have el : less row other = zw (fun a b => at0 other i * a - at0 row i * b) row other := by unfold less; rw [hi]; simp only [at0_lt hir, h0, if_false]
    have hmin : min row.length other.length ≤ 16777216 := by omega
    rw [el]
    simp [F_less_by, b_less_by, runF, lead_in_ok, hi, optD, ix_row _ _ _ hir, e, zp_len, hmin, less_comp μ hir hio hn hm hnm br bo row other br bo, tup_ints]
end K11

namespace K11
open PySem PySem.Spec PyProof.Rows L2 DL
/-! ### low, by places -/
theorem fdiv_zero_iff {x g : Int} (h : g ∣ x) (h0 : g ≠ 0) : x.fdiv g = 0 ↔ x = 0 := by
  obtain ⟨c, rfl⟩ := h
  rw [Int.mul_fdiv_cancel_left _ h0]
  constructor
  · intro e; rw [e, Int.mul_zero]
  · intro e
    rcases Int.mul_eq_zero.mp e with e | e
    · exact absurd e h0
    · exact e
theorem sgn_ne {xs : List Int} (h : gcdL xs ≠ 0) : sgn xs ≠ 0 := by unfold sgn; split <;> omega
theorem sgn_dvd {xs : List Int} {x : Int} (h : x ∈ xs) : sgn xs ∣ x := by
  have := (gcdF_dvd xs 0).2 x h
  unfold sgn
  split
  · exact Int.neg_dvd.mpr this
  · exact this
theorem low_len (xs : List Int) : (low xs).length = xs.length := by unfold low; split <;> simp
theorem low_at {xs : List Int} (j : Nat) : at0 (low xs) j = 0 ↔ at0 xs j = 0 := by
  unfold low
  split
  · exact Iff.rfl
  · rename_i h
    by_cases hj : j < xs.length
    · rw [at0_lt (by simpa using hj), at0_lt hj, List.getElem_map]
      exact fdiv_zero_iff (sgn_dvd (List.getElem_mem hj)) (sgn_ne h)
    · rw [at0_ge (by simpa using hj), at0_ge (by omega)]
theorem low_bd {n : Nat} {xs : List Int} (h : Bd n xs) : Bd n (low xs) := by
  unfold low
  split
  · exact h
  · rename_i h0
    intro x hx
    obtain ⟨y, hy, rfl⟩ := List.mem_map.mp hx
    exact Nat.lt_of_le_of_lt (fdiv_abs (sgn_dvd hy) (sgn_ne h0)) (h y hy)
theorem lead_congr {xs ys : List Int} (h : ∀ j, at0 xs j = 0 ↔ at0 ys j = 0) : lead xs = lead ys := by
  cases e : lead xs with
  | none =>
    cases e2 : lead ys with
    | none => rfl
    | some i =>
      obtain ⟨k, h1, _⟩ := lead_ne (xs := xs) (j := i) (fun z => (lead_iff.mp e2).1 ((h i).mp z))
      rw [e] at h1
      cases h1
  | some i =>
    obtain ⟨h1, h2⟩ := lead_iff.mp e
    exact (lead_iff.mpr ⟨fun z => h1 ((h i).mpr z), fun j hj => (h j).mp (h2 j hj)⟩).symm
theorem lead_low (xs : List Int) : lead (low xs) = lead xs := lead_congr fun j => low_at j
/-! ### lots -/
def Apart (r r' : List Int) : Prop := (∀ i, lead r = some i → at0 r' i = 0) ∧ ∀ i, lead r' = some i → at0 r i = 0
theorem Apart.symm {r r' : List Int} (h : Apart r r') : Apart r' r := ⟨h.2, h.1⟩
structure Lt (w n : Nat) (m : List (List Int)) : Prop where
  len : ∀ r ∈ m, r.length = w
  bd : ∀ r ∈ m, Bd n r
  ld : ∀ r ∈ m, lead r ≠ none
  ap : m.Pairwise Apart
theorem Lt.mono {w n k : Nat} {m : List (List Int)} (h : Lt w n m) (hn : n ≤ k) : Lt w k m := ⟨h.len, fun r hr => (h.bd r hr).mono hn, h.ld, h.ap⟩
theorem Lt.perm {w n : Nat} {m m' : List (List Int)} (h : Lt w n m) (p : m'.Perm m) : Lt w n m' :=
  ⟨fun r hr => h.len r (p.mem_iff.mp hr), fun r hr => h.bd r (p.mem_iff.mp hr), fun r hr => h.ld r (p.mem_iff.mp hr), (p.pairwise_iff (fun {_ _} q => q.symm)).mpr h.ap⟩
def rest (lot : List (List Int)) (row : List Int) : List Int := lot.foldl less row
theorem rest_len {w : Nat} : ∀ {lot : List (List Int)} {row : List Int}, (∀ r ∈ lot, r.length = w) → row.length = w → (rest lot row).length = w
  | [], row, _, h => h
  | o :: lot, row, hl, h => by
    have ho := hl o (by simp)
    exact rest_len (lot := lot) (row := less row o) (fun r hr => hl r (by simp [hr])) (by rw [less_len (by omega)]; exact h)
theorem rest_bd {n : Nat} : ∀ {lot : List (List Int)} {row : List Int} {r : Nat}, (∀ o ∈ lot, Bd n o) → Bd r row → Bd (r + lot.length * (n + 1)) (rest lot row)
  | [], row, r, _, h => by simpa [rest] using h
  | o :: lot, row, r, hl, h => by
    have := rest_bd (lot := lot) (row := less row o) (r := r + n + 1) (fun o ho => hl o (by simp [ho])) (less_bd h (hl o (by simp)))
    rw [List.length_cons, show r + (lot.length + 1) * (n + 1) = r + n + 1 + lot.length * (n + 1) from by rw [Nat.add_mul]; omega]
    exact this
/-- what is 0 stays so -/
theorem rest_keep {w : Nat} {j : Nat} : ∀ {lot : List (List Int)} {row : List Int}, (∀ r ∈ lot, r.length = w) → row.length = w → (∀ o ∈ lot, at0 o j = 0) → at0 row j = 0 → at0 (rest lot row) j = 0
  | [], row, _, _, _, h => h
  | o :: lot, row, hl, hr, ho, h => rest_keep (lot := lot) (row := less row o) (fun r hr => hl r (by simp [hr])) (by rw [less_len (by have := hl o (by simp); omega)]; exact hr) (fun o ho' => ho o (by simp [ho']))
      ((less_iff (by have := hl o (by simp); omega) (ho o (by simp))).mpr h)
theorem rest_zero {w : Nat} : ∀ {lot : List (List Int)} {row : List Int}, (∀ r ∈ lot, r.length = w) → row.length = w → lot.Pairwise Apart → ∀ o ∈ lot, ∀ i, lead o = some i → at0 (rest lot row) i = 0
  | [], row, _, _, _ => fun o ho => by simp at ho
  | p :: lot, row, hl, hr, ha => fun o ho i hi => by
    rw [List.pairwise_cons] at ha
    have hp := hl p (by simp)
    have hl' : ∀ r ∈ lot, r.length = w := fun r hr => hl r (by simp [hr])
    have hr' : (less row p).length = w := by rw [less_len (by omega)]; exact hr
    rcases List.mem_cons.mp ho with rfl | ho
    · exact rest_keep (lot := lot) (row := less row o) hl' hr' (fun q hq => (ha.1 q hq).1 i hi) (less_zero (by omega) hi)
    · exact rest_zero (lot := lot) (row := less row p) hl' hr' ha.2 o ho i hi
/-- a row of the lot, rid of a new one that is 0 at its lead -/
theorem less_lead {o left : List Int} (h : o.length = left.length) {i j : Nat} (hi : lead o = some i) (hj : lead left = some j) (h0 : at0 left i = 0) : lead (less o left) = some i := by
  obtain ⟨a1, a2⟩ := lead_iff.mp hi
  obtain ⟨b1, b2⟩ := lead_iff.mp hj
  refine lead_iff.mpr ⟨fun z => a1 ((less_iff h h0).mp z), fun k hk => ?_⟩
  by_cases hz : at0 left k = 0
  · exact (less_iff h hz).mpr (a2 k hk)
  · obtain ⟨j', h1, h2⟩ := lead_ne hz
    rw [hj] at h1
    cases h1
    have e : less o left = o := by unfold less; rw [hj]; simp only [a2 j (by omega), if_true]
    rw [e]
    exact a2 k hk
theorem lt_with {w n : Nat} {lot : List (List Int)} {left : List Int} (L : Lt w n lot) (hl : left.length = w) {b : Nat} (hb : Bd b left) {j : Nat} (hj : lead left = some j) (h0 : ∀ o ∈ lot, ∀ i, lead o = some i → at0 left i = 0) :
    Lt w (n + b + 1) (lot.map (fun o => low (less o left)) ++ [left]) := by
  have key : ∀ o ∈ lot, lead (low (less o left)) = lead o := fun o ho => by
    cases e : lead o with
    | none => exact absurd e (L.ld o ho)
    | some i => rw [lead_low, less_lead (by rw [L.len o ho, hl]) e hj (h0 o ho i e)]
  refine ⟨fun r hr => ?_, fun r hr => ?_, fun r hr => ?_, ?_⟩
  · rcases List.mem_append.mp hr with hr | hr
    · obtain ⟨o, ho, rfl⟩ := List.mem_map.mp hr
      rw [low_len, less_len (by rw [L.len o ho, hl]), L.len o ho]
    · simp at hr; subst hr; exact hl
  · rcases List.mem_append.mp hr with hr | hr
    · obtain ⟨o, ho, rfl⟩ := List.mem_map.mp hr
      exact low_bd (less_bd (L.bd o ho) hb)
    · simp at hr; subst hr; exact hb.mono (by omega)
  · rcases List.mem_append.mp hr with hr | hr
    · obtain ⟨o, ho, rfl⟩ := List.mem_map.mp hr
      rw [key o ho]
      exact L.ld o ho
    · simp at hr; subst hr; rw [hj]; exact fun z => nomatch z
  · rw [List.pairwise_append]
    refine ⟨?_, by simp, fun r hr r' hr' => ?_⟩
    · rw [List.pairwise_map]
      refine L.ap.imp_of_mem fun {o o'} ho ho' ap => ?_
      have one : ∀ o ∈ lot, ∀ o' ∈ lot, (∀ i, lead o = some i → at0 o' i = 0) → ∀ i, lead (low (less o left)) = some i → at0 (low (less o' left)) i = 0 := fun o ho o' ho' h i hi => by
        rw [key o ho] at hi
        rw [low_at]
        exact (less_iff (by rw [L.len o' ho', hl]) (h0 o ho i hi)).mpr (h i hi)
      exact ⟨one o ho o' ho' ap.1, one o' ho' o ho ap.2⟩
    · simp at hr'
      subst hr'
      obtain ⟨o, ho, rfl⟩ := List.mem_map.mp hr
      refine ⟨fun i hi => ?_, fun i hi => ?_⟩
      · rw [key o ho] at hi
        exact h0 o ho i hi
      · rw [low_at]
        exact less_zero (by rw [L.len o ho, hl]) hi
/-! ### the program's words for lots -/
theorem rest_loop (μ : List Cell) (a : DL.Slot) {w n : Nat} (hw : w ≤ 16777216) (hn : 0 < n) : ∀ (lot : List (List Int)) (row : List Int) (r : Nat) (c : DL.Slot), (∀ o ∈ lot, o.length = w ∧ Bd n o ∧ lead o ≠ none) → row.length = w → Bd r row → 0 < r → r + (lot.length + 1) * (n + 1) ≤ 40000 →
    ∃ c', dFor (gNm 2) (dAsg 1 (dCall F_less_by (dCons (dVar 1) (dCons (dVar 2) dNil)))) (lot.map Ri) ⟨[a, .val (Ri row), c], μ⟩ = .nx ⟨[a, .val (Ri (rest lot row)), c'], μ⟩
  | [], row, r, c, _, _, _, _, _ => ⟨c, rfl⟩
  | o :: lot, row, r, c, hl, hr, hb, hr0, hz => by
    obtain ⟨h1, h2, h3⟩ := hl o (by simp)
    cases e : lead o with
    | none => exact absurd e h3
    | some i =>
      have hs : r + (lot.length + 1 + 1) * (n + 1) = r + n + 1 + (lot.length + 1) * (n + 1) := by rw [Nat.add_mul (lot.length + 1)]; omega
      rw [List.length_cons, hs] at hz
      obtain ⟨c', e2⟩ := rest_loop μ a hw hn lot (less row o) (r + n + 1) (.val (Ri o)) (fun q hq => hl q (by simp [hq])) (by rw [less_len (by omega)]; exact hr) (less_bd hb h2) (by omega) hz
      refine ⟨c', ?_⟩
      have e3 := less_by_ok (row := row) (other := o) (by omega) (by omega) e hr0 hn (by omega) hb h2 μ
      simp [dFor, e3, -List.map_map]
      exact e2
theorem rest_by_ok {w n r : Nat} (hw : w ≤ 16777216) (hn : 0 < n) {lot : List (List Int)} {row : List Int} (hl : ∀ o ∈ lot, o.length = w ∧ Bd n o ∧ lead o ≠ none) (hr : row.length = w) (hb : Bd r row) (hr0 : 0 < r) (hz : r + (lot.length + 1) * (n + 1) ≤ 40000) (μ : List Cell) :
    F_rest_by [.tup (lot.map Ri), Ri row] μ = .ok (Ri (rest lot row)) μ := by
  obtain ⟨c', e⟩ := rest_loop μ (.val (.tup (lot.map Ri))) hw hn lot row r .no hl hr hb hr0 hz
  simp [F_rest_by, b_rest_by, runF, dForI, e, -List.map_map]
theorem with_comp (μ : List Cell) (a b d : DL.Slot) {w n r : Nat} (hw : w ≤ 16777216) (hn : 0 < n) (hr0 : 0 < r) (hz : n + r + 1 ≤ 8000) {left : List Int} (hl : left.length = w) (hb : Bd r left) {j : Nat} (hj : lead left = some j) : ∀ lot : List (List Int), (∀ o ∈ lot, o.length = w ∧ Bd n o) →
    dLcGo [4] (gNm 4) dYes (dCall F_lowest_row (dCons (dCall F_less_by (dCons (dVar 4) (dCons (dVar 2) dNil))) dNil)) (lot.map Ri) ⟨[a, b, .val (Ri left), d, .no], μ⟩ = .ok ((lot.map fun o => low (less o left)).map Ri) ⟨[a, b, .val (Ri left), d, .no], μ⟩
  | [], _ => rfl
  | o :: lot, h => by
    obtain ⟨h1, h2⟩ := h o (by simp)
    have ih := with_comp μ a b d hw hn hr0 hz hl hb hj lot fun q hq => h q (by simp [hq])
    have e1 := less_by_ok (row := o) (other := left) (by omega) (by omega) hj hn hr0 (by omega) h2 hb μ
    have e2 := lowest_row_ok (xs := less o left) ((less_bd h2 hb).mono (by omega)) (by rw [less_len (by omega)]; omega) μ
    simp only [List.map_map] at ih
    simp [dLcGo, wipeD, backD, e1, e2, ih]
theorem keys_ok (μ : List Cell) : ∀ m : List (List Int), (∀ r ∈ m, lead r ≠ none) → ∃ ks, keysI F_lead_in (m.map Ri) μ = some (ks, μ) ∧ ks.length = m.length
  | [], _ => ⟨[], rfl, rfl⟩
  | r :: m, h => by
    obtain ⟨ks, h1, h2⟩ := keys_ok μ m fun q hq => h q (by simp [hq])
    cases e : lead r with
    | none => exact absurd e (h r (by simp))
    | some i => exact ⟨(i : Int) :: ks, by simp [keysI, lead_in_ok, e, optD, h1], by simp [h2]⟩
def unRi : D → List Int | .tup ds => ds.filterMap DL.intD | _ => []
theorem unRi_ri (r : List Int) : unRi (Ri r) = r := by
  show (r.map D.int).filterMap DL.intD = r
  rw [List.filterMap_map]
  have : (DL.intD ∘ D.int) = some := rfl
  rw [this, List.filterMap_some]
theorem perm_ri {m : List (List Int)} {ds : List D} (h : ds.Perm (m.map Ri)) : ∃ m' : List (List Int), ds = m'.map Ri ∧ m'.Perm m := by
  refine ⟨ds.map unRi, ?_, ?_⟩
  · rw [List.map_map]
    have : ∀ d ∈ ds, (Ri ∘ unRi) d = d := fun d hd => by
      obtain ⟨r, _, rfl⟩ := List.mem_map.mp (h.mem_iff.mp hd)
      show Ri (unRi (Ri r)) = Ri r
      rw [unRi_ri]
    rw [List.map_congr_left this]
    simp
  · have := h.map unRi
    rw [List.map_map] at this
    have e : (unRi ∘ Ri) = id := funext unRi_ri
    rw [e, List.map_id] at this
    exact this
theorem sortKey_ap {F : FF} {fa : FE} {s : S} {xs : List D} {ks : List Int} {μ' : List Cell} (h : fa s = .ok (.lst xs) s) (hl : xs.length ≤ 16777216) (hk : keysI F xs s.μ = some (ks, μ')) :
    dSortKey F fa s = .ok (.lst (((ks.zip xs).mergeSort fun p q => decide (p.1 ≤ q.1)).map (·.2))) { s with μ := μ' } := by
  unfold dSortKey
  rw [h]
  simp only [bind_ok, asl_lst]
  rw [if_pos hl, hk]
end K11

namespace K11
open PySem PySem.Spec PyProof.Rows L2 DL
/-! ### products, and the rows that are apart from others -/
def dt (x y : List Int) : Int := (zw (· * ·) x y).sum
@[simp] theorem dt_cons (a b : Int) (x y : List Int) : dt (a :: x) (b :: y) = a * b + dt x y := by simp [dt, zw]
@[simp] theorem dt_nil (y : List Int) : dt [] y = 0 := by simp [dt, zw]
@[simp] theorem dt_nil2 (y : List Int) : dt y [] = 0 := by simp [dt, zw]
theorem dt_comm : ∀ x y : List Int, dt x y = dt y x
  | [], y => by simp
  | x :: xs, [] => by simp
  | x :: xs, y :: ys => by rw [dt_cons, dt_cons, dt_comm xs ys, Int.mul_comm]
@[simp] theorem at0_nil (j : Nat) : at0 [] j = 0 := by simp [at0]
@[simp] theorem at0_z (a : Int) (x : List Int) : at0 (a :: x) 0 = a := by simp [at0]
@[simp] theorem at0_s (a : Int) (x : List Int) (j : Nat) : at0 (a :: x) (j + 1) = at0 x j := by simp [at0]
theorem dt_lin (a b : Int) : ∀ {x z r o : List Int}, z.length = r.length → o.length = r.length → (∀ j, at0 z j = a * at0 r j - b * at0 o j) → dt x z = a * dt x r - b * dt x o
  | [], z, r, o, _, _, _ => by simp
  | x :: xs, [], [], [], _, _, _ => by simp
  | x :: xs, z :: zs, r :: rs, o :: os, h1, h2, h => by
    have ih := dt_lin a b (x := xs) (z := zs) (r := rs) (o := os) (by simpa using h1) (by simpa using h2) (fun j => by simpa using h (j + 1))
    have h0 := h 0
    simp only [at0_z] at h0
    rw [dt_cons, dt_cons, dt_cons, ih, h0, Int.mul_sub, Int.mul_add, Int.mul_add, Int.mul_left_comm x a r, Int.mul_left_comm x b o]
    omega
  | x :: xs, [], r :: rs, _, h1, _, _ => by simp at h1
  | x :: xs, z :: zs, [], _, h1, _, _ => by simp at h1
  | x :: xs, [], [], _ :: _, _, h2, _ => by simp at h2
  | x :: xs, _ :: _, _ :: _, [], _, h2, _ => by simp at h2
theorem dt_zero {x z : List Int} (h : ∀ j, at0 z j = 0) : dt x z = 0 := by
  have := dt_lin 0 0 (x := x) (z := z) (r := z) (o := z) rfl rfl (fun j => by rw [h j]; simp)
  simpa using this
theorem dt_map (c : Int) : ∀ x y : List Int, dt (x.map fun a => c * a) y = c * dt x y
  | [], y => by simp
  | x :: xs, [] => by simp
  | x :: xs, y :: ys => by rw [List.map_cons, dt_cons, dt_cons, dt_map c xs ys, Int.mul_add, Int.mul_assoc]
theorem dt_rep : ∀ (n : Nat) (y : List Int), dt (List.replicate n 0) y = 0
  | 0, y => by simp
  | n + 1, [] => by simp
  | n + 1, y :: ys => by rw [List.replicate_succ, dt_cons, dt_rep n ys]; simp
theorem dt_set (v : Int) : ∀ {x y : List Int} {i : Nat}, i < x.length → dt (x.set i v) y = dt x y + (v - at0 x i) * at0 y i
  | [], y, i, h => by simp at h
  | x :: xs, [], i, h => by simp
  | x :: xs, y :: ys, 0, h => by rw [List.set_cons_zero, dt_cons, dt_cons, at0_z, at0_z, Int.sub_mul]; omega
  | x :: xs, y :: ys, i + 1, h => by rw [List.set_cons_succ, dt_cons, dt_cons, dt_set v (by simpa using h), at0_s, at0_s]; omega
theorem at0_set (v : Int) {x : List Int} {i j : Nat} (h : i < x.length) : at0 (x.set i v) j = if j = i then v else at0 x j := by
  unfold at0
  by_cases e : j = i
  · subst e
    simp [List.getD, h]
  · simp [List.getD, e, Ne.symm e]
theorem dt_app {a c : List Int} (h : a.length = c.length) (b d : List Int) : dt (a ++ b) (c ++ d) = dt a c + dt b d := by
  induction a generalizing c with
  | nil => cases c with | nil => simp | cons _ _ => simp at h
  | cons x xs ih => cases c with
    | nil => simp at h
    | cons y ys => rw [List.cons_append, List.cons_append, dt_cons, dt_cons, ih (by simpa using h)]; omega
def Perp (x : List Int) (m : List (List Int)) : Prop := ∀ r ∈ m, dt x r = 0
theorem less_lin {row other : List Int} (h : row.length = other.length) {i : Nat} (hi : lead other = some i) :
    ∃ a b : Int, a ≠ 0 ∧ (0 < at0 other i → 0 < a) ∧ ∀ j, at0 (less row other) j = a * at0 row j - b * at0 other j := by
  unfold less
  rw [hi]
  by_cases h0 : at0 row i = 0
  · exact ⟨1, 0, by decide, fun _ => by decide, fun j => by simp [h0]⟩
  · refine ⟨at0 other i, at0 row i, (lead_iff.mp hi).1, fun z => z, fun j => ?_⟩
    simp only [h0, if_false]
    rw [zw_at (by simp) h]
theorem less_dt {w : Nat} {row other : List Int} (h : row.length = w) (h2 : other.length = w) (hi : lead other ≠ none) :
    ∃ a : Int, a ≠ 0 ∧ ∀ x, dt x other = 0 → dt x (less row other) = a * dt x row := by
  cases e : lead other with
  | none => exact absurd e hi
  | some i =>
    have hro : row.length = other.length := by rw [h, h2]
    obtain ⟨a, b, h3, _, h4⟩ := less_lin hro e
    refine ⟨a, h3, fun x hx => ?_⟩
    have := dt_lin a b (x := x) (z := less row other) (r := row) (o := other) (less_len hro) hro.symm h4
    rw [this, hx]; simp
theorem low_lin (xs : List Int) : ∃ c : Int, c ≠ 0 ∧ ∀ j, at0 xs j = c * at0 (low xs) j := by
  by_cases h0 : gcdL xs = 0
  · exact ⟨1, by decide, fun j => by simp [low, h0]⟩
  · refine ⟨sgn xs, sgn_ne h0, fun j => ?_⟩
    unfold low
    simp only [h0, if_false]
    unfold at0
    by_cases hj : j < xs.length
    · have hm : xs[j] ∈ xs := List.getElem_mem hj
      simp only [List.getD, hj, List.getElem?_eq_getElem, Option.getD_some, List.getElem?_map, Option.map_some]
      exact (Int.mul_fdiv_cancel' (sgn_dvd hm)).symm
    · simp [List.getD, hj]
theorem low_dt (x xs : List Int) : dt x (low xs) = 0 ↔ dt x xs = 0 := by
  obtain ⟨c, h1, h2⟩ := low_lin xs
  have := dt_lin c 0 (x := x) (z := xs) (r := low xs) (o := low xs) (low_len xs).symm rfl (fun j => by rw [h2 j]; simp)
  rw [this, Int.zero_mul, Int.sub_zero, Int.mul_eq_zero]
  exact ⟨fun z => .inr z, fun z => z.elim (fun z => absurd z h1) id⟩
theorem low_pos {xs : List Int} {i : Nat} (h : lead xs = some i) : 0 < at0 (low xs) i := by
  obtain ⟨hi, hx⟩ := lead_some h
  have h0 : gcdL xs ≠ 0 := fun z => by rw [gcdL_zero.mp z] at h; cases h
  have hm : xs[i] ∈ xs := List.getElem_mem hi
  have hl : at0 (low xs) i = xs[i].fdiv (sgn xs) := by
    unfold low at0
    simp [h0, List.getD, hi]
  have hv : leadV xs = xs[i] := by
    unfold leadV
    rw [h]
    simp [List.getD, hi]
  obtain ⟨q, hq⟩ := sgn_dvd hm
  have hs := sgn_ne h0
  rw [hl, hq, Int.mul_fdiv_cancel_left _ hs]
  have hq0 : sgn xs * q ≠ 0 := by rw [← hq]; exact hx
  rcases Int.lt_trichotomy (leadV xs) 0 with hn | hn | hn
  · have es : sgn xs = -(gcdL xs : Int) := by unfold sgn; rw [if_pos hn]
    have : sgn xs * q < 0 := by omega
    rw [es, Int.neg_mul] at this
    have : 0 < (gcdL xs : Int) * q := by omega
    exact Int.pos_of_mul_pos_right this (by omega)
  · omega
  · have es : sgn xs = (gcdL xs : Int) := by unfold sgn; rw [if_neg (by omega)]
    have : 0 < sgn xs * q := by omega
    rw [es] at this
    exact Int.pos_of_mul_pos_right this (by omega)
theorem rest_dt {w : Nat} : ∀ {lot : List (List Int)} {row : List Int}, (∀ o ∈ lot, o.length = w ∧ lead o ≠ none) → row.length = w → ∃ a : Int, a ≠ 0 ∧ ∀ x, Perp x lot → dt x (rest lot row) = a * dt x row
  | [], row, _, _ => ⟨1, by decide, fun x _ => by simp [rest]⟩
  | o :: lot, row, hl, hr => by
    obtain ⟨h1, h2⟩ := hl o (by simp)
    obtain ⟨a, ha, e1⟩ := less_dt hr h1 h2
    obtain ⟨b, hb, e2⟩ := rest_dt (lot := lot) (row := less row o) (fun p hp => hl p (by simp [hp])) (by rw [less_len (by omega)]; exact hr)
    refine ⟨b * a, Int.mul_ne_zero hb ha, fun x hx => ?_⟩
    have := e2 x (fun p hp => hx p (by simp [hp]))
    show dt x (rest lot (less row o)) = _
    rw [this, e1 x (hx o (by simp)), Int.mul_assoc]
/-- what a row more makes of a lot -/
def WR (lot : List (List Int)) (row : List Int) (m' : List (List Int)) : Prop :=
  (lead (low (rest lot row)) = none ∧ m' = lot) ∨ (∃ j, lead (low (rest lot row)) = some j ∧ m'.Perm (lot.map (fun o => low (less o (low (rest lot row)))) ++ [low (rest lot row)]))
theorem lead_none_at {xs : List Int} (h : lead xs = none) (j : Nat) : at0 xs j = 0 := by
  by_cases e : at0 xs j = 0
  · exact e
  · obtain ⟨i, h1, _⟩ := lead_ne e
    rw [h] at h1; cases h1
theorem wr_perp {w : Nat} {lot : List (List Int)} {row : List Int} {m' : List (List Int)} (hl : ∀ o ∈ lot, o.length = w ∧ lead o ≠ none) (hr : row.length = w) (h : WR lot row m') (x : List Int) : Perp x m' ↔ Perp x lot ∧ dt x row = 0 := by
  obtain ⟨a, ha, e⟩ := rest_dt hl hr
  rcases h with ⟨h1, rfl⟩ | ⟨j, h1, h2⟩
  · refine ⟨fun hx => ⟨hx, ?_⟩, fun hx => hx.1⟩
    have := e x hx
    rw [(low_dt x _).mp (dt_zero (lead_none_at h1))] at this
    have := this.symm
    rcases Int.mul_eq_zero.mp this with z | z
    · exact absurd z ha
    · exact z
  · have rl : (low (rest lot row)).length = w := by rw [low_len]; exact rest_len (fun o ho => (hl o ho).1) hr
    have key : ∀ o ∈ lot, dt x (low (rest lot row)) = 0 → (dt x (low (less o (low (rest lot row)))) = 0 ↔ dt x o = 0) := fun o ho h0 => by
      obtain ⟨b, hb, e2⟩ := less_dt (hl o ho).1 rl (by rw [h1]; exact fun z => nomatch z)
      rw [low_dt, e2 x h0, Int.mul_eq_zero]
      exact ⟨fun z => z.elim (fun z => absurd z hb) id, fun z => .inr z⟩
    have hm : Perp x m' ↔ (∀ o ∈ lot, dt x (low (less o (low (rest lot row)))) = 0) ∧ dt x (low (rest lot row)) = 0 := by
      constructor
      · intro hx
        refine ⟨fun o ho => hx _ (h2.mem_iff.mpr (List.mem_append.mpr (.inl (List.mem_map.mpr ⟨o, ho, rfl⟩)))), hx _ (h2.mem_iff.mpr (by simp))⟩
      · rintro ⟨h3, h4⟩ r hr
        rcases List.mem_append.mp (h2.mem_iff.mp hr) with hr | hr
        · obtain ⟨o, ho, rfl⟩ := List.mem_map.mp hr
          exact h3 o ho
        · simp at hr; subst hr; exact h4
    rw [hm]
    constructor
    · rintro ⟨h3, h4⟩
      have hp : Perp x lot := fun o ho => (key o ho h4).mp (h3 o ho)
      refine ⟨hp, ?_⟩
      have := e x hp
      rw [(low_dt x _).mp h4] at this
      rcases Int.mul_eq_zero.mp this.symm with z | z
      · exact absurd z ha
      · exact z
    · rintro ⟨h3, h4⟩
      have h5 : dt x (low (rest lot row)) = 0 := by rw [low_dt, e x h3, h4]; simp
      exact ⟨fun o ho => (key o ho h5).mpr (h3 o ho), h5⟩
/-! ### rows in stairs: what they do not reach has a row apart -/
def Stair (lot : List (List Int)) : Prop := lot.Pairwise fun o p => ∀ i, lead o = some i → at0 p i = 0
theorem stair_perp {w : Nat} {z : List Int} (hz : z.length = w) {j : Nat} (hj : at0 z j ≠ 0) : ∀ {lot : List (List Int)}, (∀ o ∈ lot, o.length = w ∧ lead o ≠ none) → Stair lot → (∀ o ∈ lot, ∀ i, lead o = some i → at0 z i = 0) → ∃ x : List Int, x.length = w ∧ Perp x lot ∧ dt x z ≠ 0
  | [], _, _, _ => by
    have hw : j < w := by
      rcases Nat.lt_or_ge j w with h | h
      · exact h
      · exact absurd (at0_ge (by omega)) hj
    refine ⟨(List.replicate w 0).set j 1, by simp, fun r hr => by simp at hr, ?_⟩
    rw [dt_set 1 (by simpa using hw), dt_rep]
    have : at0 (List.replicate w 0) j = 0 := by simp [at0, List.getD, hw]
    rw [this]
    simpa using hj
  | o :: lot, hl, st, h0 => by
    obtain ⟨h1, h2⟩ := hl o (by simp)
    have st' := List.pairwise_cons.mp st
    obtain ⟨x, hx, hp, hd⟩ := stair_perp hz hj (lot := lot) (fun p hp => hl p (by simp [hp])) st'.2 (fun p hp => h0 p (by simp [hp]))
    cases e : lead o with
    | none => exact absurd e h2
    | some i =>
      obtain ⟨hi, ho⟩ := lead_some e
      have hi2 : i < (x.map fun a => at0 o i * a).length := by simp; omega
      have key : ∀ r, dt ((x.map fun a => at0 o i * a).set i (at0 (x.map fun a => at0 o i * a) i - dt x o)) r = at0 o i * dt x r - dt x o * at0 r i := fun r => by
        rw [dt_set _ hi2, dt_map]
        have : at0 (x.map fun a => at0 o i * a) i - dt x o - at0 (x.map fun a => at0 o i * a) i = - dt x o := by omega
        rw [this, Int.neg_mul]; omega
      refine ⟨(x.map fun a => at0 o i * a).set i (at0 (x.map fun a => at0 o i * a) i - dt x o), by simpa using hx, fun r hr => ?_, ?_⟩
      · rw [key r]
        rcases List.mem_cons.mp hr with rfl | hr
        · rw [Int.mul_comm]; omega
        · rw [hp r hr, st'.1 r hr i e]; simp
      · rw [key z, h0 o (by simp) i e]
        have := (lead_iff.mp e).1
        simp [this, hd]
/-- the rest is 0 at the leads of stairs -/
theorem rest_stair {w : Nat} : ∀ {lot : List (List Int)} {row : List Int}, (∀ r ∈ lot, r.length = w) → row.length = w → Stair lot → ∀ o ∈ lot, ∀ i, lead o = some i → at0 (rest lot row) i = 0
  | [], row, _, _, _ => fun o ho => by simp at ho
  | p :: lot, row, hl, hr, st => fun o ho i hi => by
    have hp := hl p (by simp)
    have st' := List.pairwise_cons.mp st
    have hr' : (less row p).length = w := by rw [less_len (by omega)]; exact hr
    have hl' : ∀ r ∈ lot, r.length = w := fun r h => hl r (by simp [h])
    rcases List.mem_cons.mp ho with rfl | ho
    · exact rest_keep (lot := lot) hl' hr' (fun q hq => st'.1 q hq i hi) (less_zero (by omega) hi)
    · exact rest_stair hl' hr' st'.2 o ho i hi
end K11

namespace K11
open PySem PySem.Spec PyProof.Rows L2 DL
/-! ### how many rows a lot can have -/
theorem nodup_le : ∀ (w : Nat) (l : List Nat), l.Nodup → (∀ x ∈ l, x < w) → l.length ≤ w ∧ (l.length = w → ∀ j < w, j ∈ l)
  | 0, l, _, h => by
    cases l with
    | nil => exact ⟨Nat.le_refl _, fun _ j hj => by omega⟩
    | cons x l => exact absurd (h x (by simp)) (by omega)
  | w + 1, l, hn, h => by
    have hn2 : (l.filter (fun x => decide (x ≠ w))).Nodup := hn.filter _
    obtain ⟨h1, h2⟩ := nodup_le w (l.filter (fun x => decide (x ≠ w))) hn2 (fun x hx => by
      have := List.mem_filter.mp hx
      have h3 := h x this.1
      have h4 : x ≠ w := by simpa using this.2
      omega)
    have hc : l.length ≤ (l.filter (fun x => decide (x ≠ w))).length + 1 ∧ (w ∉ l → l.length = (l.filter (fun x => decide (x ≠ w))).length) := by
      clear h1 h2 hn2 h
      induction l with
      | nil => simp
      | cons x l ih =>
        have hn' := List.nodup_cons.mp hn
        obtain ⟨a, b⟩ := ih hn'.2
        by_cases e : x = w
        · subst e
          have := b hn'.1
          refine ⟨by rw [List.filter_cons_of_neg (by simp), List.length_cons]; omega, fun z => absurd (List.mem_cons_self) z⟩
        · rw [List.filter_cons_of_pos (by simpa using e), List.length_cons, List.length_cons]
          refine ⟨by omega, fun z => ?_⟩
          have := b (fun y => z (List.mem_cons_of_mem _ y))
          omega
    refine ⟨by omega, fun hl j hj => ?_⟩
    have hw : w ∈ l := Classical.byContradiction fun z => by have := hc.2 z; omega
    by_cases e : j = w
    · rw [e]; exact hw
    · exact (List.mem_filter.mp (h2 (by omega) j (by omega))).1
def leads (m : List (List Int)) : List Nat := m.map fun r => leadL r
theorem leadL_some {r : List Int} {i : Nat} (h : lead r = some i) : leadL r = i := by unfold leadL; rw [h]
theorem Lt.nodup {w n : Nat} {m : List (List Int)} (L : Lt w n m) : (leads m).Nodup ∧ ∀ x ∈ leads m, x < w := by
  constructor
  · unfold leads List.Nodup
    rw [List.pairwise_map]
    refine L.ap.imp_of_mem fun {o p} ho hp ap e => ?_
    cases eo : lead o with
    | none => exact L.ld o ho eo
    | some i =>
      cases ep : lead p with
      | none => exact L.ld p hp ep
      | some k =>
        rw [leadL_some eo, leadL_some ep] at e
        subst e
        exact (lead_iff.mp ep).1 (ap.1 i eo)
  · intro x hx
    obtain ⟨o, ho, rfl⟩ := List.mem_map.mp hx
    cases eo : lead o with
    | none => exact absurd eo (L.ld o ho)
    | some i =>
      rw [leadL_some eo]
      obtain ⟨h1, _⟩ := lead_some eo
      rw [L.len o ho] at h1
      exact h1
theorem Lt.le {w n : Nat} {m : List (List Int)} (L : Lt w n m) : m.length ≤ w := by
  have := (nodup_le w (leads m) L.nodup.1 L.nodup.2).1
  simpa [leads] using this
theorem Lt.full {w n : Nat} {m : List (List Int)} (L : Lt w n m) (h : m.length = w) {row : List Int} (hr : row.length = w) : lead (rest m row) = none := by
  cases e : lead (rest m row) with
  | none => rfl
  | some j =>
    obtain ⟨h1, _⟩ := lead_some e
    rw [rest_len L.len hr] at h1
    have h2 := (nodup_le w (leads m) L.nodup.1 L.nodup.2).2 (by simpa [leads] using h) j h1
    obtain ⟨o, ho, h3⟩ := List.mem_map.mp h2
    cases eo : lead o with
    | none => exact absurd eo (L.ld o ho)
    | some i =>
      rw [leadL_some eo] at h3
      subst h3
      exact absurd (rest_zero L.len hr L.ap o ho _ eo) (lead_iff.mp e).1
theorem WR.perm_lt {w n b : Nat} {lot m' : List (List Int)} {row : List Int} (L : Lt w n lot) (hr : row.length = w) (hb : Bd b row) (h : WR lot row m') :
    (m' = lot) ∨ (lot.length < w ∧ m'.length = lot.length + 1 ∧ Lt w (n + (b + lot.length * (n + 1)) + 1) m') := by
  rcases h with ⟨_, h⟩ | ⟨j, h1, h2⟩
  · exact .inl h
  · have rl : (low (rest lot row)).length = w := by rw [low_len]; exact rest_len L.len hr
    have L2 := lt_with L rl (low_bd (rest_bd L.bd hb)) h1 fun o ho i hi => (low_at i).mpr (rest_zero L.len hr L.ap o ho i hi)
    refine .inr ⟨?_, by rw [h2.length_eq]; simp, L2.perm h2⟩
    rcases Nat.lt_or_ge lot.length w with z | z
    · exact z
    · have := L.full (Nat.le_antisymm L.le z) hr
      rw [lead_low, this] at h1
      cases h1
/-- the size of the numbers of a lot of so many rows -/
def BB (r : Nat) : Nat → Nat
  | 0 => 1
  | l + 1 => BB r l + (r + l * (BB r l + 1)) + 1
theorem BB_pos (r : Nat) : ∀ l, 0 < BB r l
  | 0 => Nat.one_pos
  | l + 1 => Nat.succ_pos _
theorem BB_mono (r : Nat) {l k : Nat} (h : l ≤ k) : BB r l ≤ BB r k := by
  induction k with
  | zero => rw [Nat.le_zero.mp h]; exact Nat.le_refl _
  | succ k ih =>
    rcases Nat.lt_or_ge l (k + 1) with z | z
    · exact Nat.le_trans (ih (by omega)) (by show _ ≤ BB r k + _ + 1; omega)
    · rw [Nat.le_antisymm h z]; exact Nat.le_refl _
theorem low_none {xs : List Int} (h : lead xs = none) : low xs = xs := by
  unfold low
  rw [if_pos (gcdL_zero.mpr h)]
theorem bd_none {xs : List Int} (h : lead xs = none) (n : Nat) : Bd n xs := fun x hx => by
  rw [lead_none.mp h x hx]
  exact Nat.two_pow_pos n
theorem with_row_ok {w r K : Nat} (hw : w ≤ 60) (hr0 : 0 < r) {lot : List (List Int)} {row : List Int} (L : Lt w (BB r lot.length) lot) (hr : row.length = w) (hb : Bd r row) (hK : lot.length < w → lot.length + 1 ≤ K) (hz : BB r K ≤ 8000) (hz2 : r + (lot.length + 1) * (BB r lot.length + 1) ≤ 40000) (μ : List Cell) :
    ∃ m', F_with_row [.tup (lot.map Ri), Ri row] μ = .ok (.tup (m'.map Ri)) μ ∧ WR lot row m' := by
  have hk := L.le
  have hn := BB_pos r lot.length
  have e1 := rest_by_ok (w := w) (n := BB r lot.length) (r := r) (by omega) hn (lot := lot) (row := row) (fun o ho => ⟨L.len o ho, L.bd o ho, L.ld o ho⟩) hr hb hr0 hz2 μ
  have rl := rest_len (lot := lot) (row := row) L.len hr
  rcases Nat.lt_or_ge lot.length w with hlt | hge
  · have hB : BB r (lot.length + 1) ≤ 8000 := Nat.le_trans (BB_mono r (hK hlt)) hz
    have hB2 : BB r lot.length + (r + lot.length * (BB r lot.length + 1)) + 1 ≤ 8000 := hB
    generalize BB r lot.length = n at L hn hz2 hB2
    have rb : Bd (r + lot.length * (n + 1)) (rest lot row) := rest_bd L.bd hb
    have e2 := lowest_row_ok (rb.mono (by omega)) (by omega) μ
    cases ej : lead (low (rest lot row)) with
    | none =>
      refine ⟨lot, ?_, .inl ⟨ej, rfl⟩⟩
      simp [F_with_row, b_with_row, runF, e1, e2, lead_in_ok, ej, optD, isN, -List.map_map]
    | some j =>
      have ll : (low (rest lot row)).length = w := by rw [low_len]; exact rl
      have lb := low_bd rb
      have L2 := lt_with L ll lb ej fun o ho i hi => (low_at i).mpr (rest_zero L.len hr L.ap o ho i hi)
      have e3 := with_comp μ (.val (.tup (lot.map Ri))) (.val (Ri row)) .no (w := w) (n := n) (r := r + lot.length * (n + 1)) (by omega) hn (by omega) (by omega) ll lb ej lot fun o ho => ⟨L.len o ho, L.bd o ho⟩
      obtain ⟨ks, k1, k2⟩ := keys_ok μ _ L2.ld
      have pm : (((ks.zip ((lot.map (fun o => low (less o (low (rest lot row)))) ++ [low (rest lot row)]).map Ri)).mergeSort fun p q => decide (p.1 ≤ q.1)).map (·.2)).Perm ((lot.map (fun o => low (less o (low (rest lot row)))) ++ [low (rest lot row)]).map Ri) := by
        refine ((List.mergeSort_perm _ _).map _).trans ?_
        rw [List.map_snd_zip (by simp [k2])]
      obtain ⟨m', h1, h2⟩ := perm_ri pm
      refine ⟨m', ?_, .inr ⟨j, ej, h2⟩⟩
      have hk2 : lot.length ≤ 16777216 := by omega
      have hk3 : lot.length + 1 ≤ 16777216 := by omega
      rw [List.map_append, List.map_cons, List.map_nil] at k1 h1
      have ea : ∀ s : S, gAdd s (.lst ((lot.map fun o => low (less o (low (rest lot row)))).map Ri)) (.lst [Ri (low (rest lot row))]) = some (.lst ((lot.map fun o => low (less o (low (rest lot row)))).map Ri ++ [Ri (low (rest lot row))])) := fun s => add_ll _ _ _ (by simp; omega)
      simp [F_with_row, b_with_row, runF, e1, e2, lead_in_ok, ej, optD, isN, e3, ea, -List.map_map, hk2]
      have sk := sortKey_ap (F := F_lead_in) (fa := dVar 3) (s := ⟨[.val (.tup (lot.map Ri)), .val (Ri row), .val (Ri (low (rest lot row))), .val (.lst ((lot.map fun o => low (less o (low (rest lot row)))).map Ri ++ [Ri (low (rest lot row))])), .no], μ⟩) rfl (by simp; omega) k1
      rw [sk, h1]
      simp [gTuple]
  · have hf := L.full (Nat.le_antisymm L.le hge) hr
    have e2 := lowest_row_ok (bd_none hf 8900) (by omega) μ
    have ej : lead (low (rest lot row)) = none := by rw [lead_low, hf]
    refine ⟨lot, ?_, .inl ⟨ej, rfl⟩⟩
    simp [F_with_row, b_with_row, runF, e1, e2, lead_in_ok, ej, optD, isN, -List.map_map]
/-- what is made of rows -/
def LotOf (w : Nat) (rows m : List (List Int)) : Prop := ∀ x, x.length = w → (Perp x m ↔ Perp x rows)
theorem perp_nil (x : List Int) : Perp x [] := fun r hr => by simp at hr
theorem wr_next {w r : Nat} {lot m1 : List (List Int)} {o : List Int} (L : Lt w (BB r lot.length) lot) (h1 : o.length = w) (h2 : Bd r o) (hW : WR lot o m1) :
    Lt w (BB r m1.length) m1 ∧ m1.length ≤ lot.length + 1 ∧ ∀ x, Perp x m1 ↔ Perp x lot ∧ dt x o = 0 := by
  refine ⟨?_, ?_, fun x => wr_perp (fun o ho => ⟨L.len o ho, L.ld o ho⟩) h1 hW x⟩
  · rcases hW.perm_lt L h1 h2 with rfl | ⟨_, e, L1⟩
    · exact L
    · rw [e]; exact L1
  · rcases hW.perm_lt L h1 h2 with rfl | ⟨_, e, L1⟩ <;> omega
theorem lot_loop {F : FF} {g : Nat} (μ : List Cell) (a : DL.Slot) {w r K : Nat} (hr0 : 0 < r) (hF : ∀ (lot : List (List Int)) (row : List Int), Lt w (BB r lot.length) lot → row.length = w → Bd r row → (lot.length < w → lot.length + 1 ≤ K) → r + (lot.length + 1) * (BB r lot.length + 1) ≤ 40000 → ∃ m', F [.tup (lot.map Ri), Ri row] μ = .ok (.tup (m'.map Ri)) μ ∧ WR lot row m')
    (hz2 : r + (K + 1) * (BB r K + 1) ≤ 40000) : ∀ (rows : List (List Int)) (lot : List (List Int)) (c : DL.Slot), Lt w (BB r lot.length) lot → (∀ o ∈ rows, o.length = w ∧ Bd r o) → lot.length ≤ K → (∀ l, l ≤ w → l ≤ lot.length + rows.length → l ≤ K) →
    ∃ m' c', dFor (gNm 2) (dAsg 1 (dCall F (dCons (dVar 1) (dCons (dVar 2) dNil)))) (rows.map Ri) ⟨[a, .val (.tup (lot.map Ri)), c], μ⟩ = .nx ⟨[a, .val (.tup (m'.map Ri)), c'], μ⟩ ∧ Lt w (BB r m'.length) m' ∧ m'.length ≤ K ∧ (∀ x, Perp x m' ↔ Perp x lot ∧ Perp x rows)
  | [], lot, c, L, _, hK, _ => ⟨lot, c, rfl, L, hK, fun x => ⟨fun h => ⟨h, perp_nil x⟩, fun h => h.1⟩⟩
  | o :: rows, lot, c, L, hl, hK, hK2 => by
    obtain ⟨h1, h2⟩ := hl o (by simp)
    rw [List.length_cons] at hK2
    have hm : r + (lot.length + 1) * (BB r lot.length + 1) ≤ 40000 := Nat.le_trans (Nat.add_le_add_left (Nat.mul_le_mul (by omega) (by have := BB_mono r hK; omega)) r) hz2
    obtain ⟨m1, e1, hW⟩ := hF lot o L h1 h2 (fun hlt => hK2 _ (by omega) (by omega)) hm
    obtain ⟨L1, le1, p1⟩ := wr_next L h1 h2 hW
    have hm1K : m1.length ≤ K := hK2 _ L1.le (by omega)
    obtain ⟨m', c', e2, L2, hm2, p2⟩ := lot_loop (F := F) (g := g) μ a hr0 hF hz2 rows m1 (.val (Ri o)) L1 (fun q hq => hl q (by simp [hq])) hm1K (fun l a b => hK2 l a (by omega))
    refine ⟨m', c', ?_, L2, hm2, fun x => ?_⟩
    · simp [dFor, e1, -List.map_map]
      exact e2
    · rw [p2 x, p1 x]
      constructor
      · rintro ⟨⟨a, b⟩, c⟩
        exact ⟨a, fun r hr => (List.mem_cons.mp hr).elim (fun e => e ▸ b) (c r)⟩
      · rintro ⟨a, b⟩
        exact ⟨⟨a, b o (by simp)⟩, fun r hr => b r (by simp [hr])⟩
def IsRows (rows : List (List Int)) (d : D) : Prop := d = .tup (rows.map Ri) ∨ d = .lst (rows.map Ri)
theorem lot_in_ok {w r K : Nat} (hw : w ≤ 60) (hr0 : 0 < r) {rows : List (List Int)} (hl : ∀ o ∈ rows, o.length = w ∧ Bd r o) (hK : ∀ l, l ≤ w → l ≤ rows.length → l ≤ K) (hz : BB r K ≤ 8000) (hz2 : r + (K + 1) * (BB r K + 1) ≤ 40000) {d : D} (hd : IsRows rows d) (μ : List Cell) :
    ∃ m' : List (List Int), F_lot_in [d] μ = .ok (.tup (m'.map Ri)) μ ∧ Lt w (BB r m'.length) m' ∧ m'.length ≤ K ∧ ∀ x, Perp x m' ↔ Perp x rows := by
  obtain ⟨m', c', e, L, hm, p⟩ := lot_loop (F := F_with_row) (g := 0) μ (.val d) hr0 (fun lot row L a b c d => with_row_ok hw hr0 L a b c hz d μ) hz2 rows [] .no ⟨by simp, by simp, by simp, .nil⟩ hl (Nat.zero_le _) (by simpa using hK)
  refine ⟨m', ?_, L, hm, fun x => by rw [p x]; exact ⟨fun h => h.2, fun h => ⟨perp_nil x, h⟩⟩⟩
  have e : dFor (gNm 2) (dAsg 1 (dCall F_with_row (dCons (dVar 1) (dCons (dVar 2) dNil)))) (rows.map Ri) ⟨[.val d, .val (.tup []), .no], μ⟩ = .nx ⟨[.val d, .val (.tup (m'.map Ri)), c'], μ⟩ := e
  rcases hd with rfl | rfl <;> simp [F_lot_in, b_lot_in, runF, dForI, e, -List.map_map]
/-! ### the law's lots -/
theorem L_less_ok {row other : List Int} (h : row.length = other.length) (hl : row.length < 16777216) {i : Nat} (hi : lead other = some i) {n m : Nat} (hn : 0 < n) (hm : 0 < m) (hnm : n + m ≤ 50000) (br : Bd n row) (bo : Bd m other) (μ : List Cell) :
    F_L_less [Ri row, Ri other] μ = .ok (Ri (less row other)) μ := by
  have hio := (lead_some hi).1
  have hir : i < row.length := by omega
  have e2 := L_lead_ok other (by omega) μ
  rw [leadL_some hi] at e2
  by_cases h0 : row[i] = 0
  · have e : (row[i] == 0) = true := by simpa using h0
    have el : less row other = row := by unfold less; rw [hi]; simp only [at0_lt hir, h0, if_true]
    rw [el]
    simp [F_L_less, b_L_less, runF, e2, ix_row _ _ _ hir, e]
  · have e : (row[i] == 0) = false := by simpa using h0
    have el : less row other = zw (fun a b => at0 other i * a - at0 row i * b) row other := by unfold less; rw [hi]; simp only [at0_lt hir, h0, if_false]
    have hmin : min row.length other.length ≤ 16777216 := by omega
    rw [el]
    simp [F_L_less, b_L_less, runF, e2, ix_row _ _ _ hir, e, zp_len, hmin, less_comp μ hir hio hn hm hnm br bo row other br bo, tup_ints]
theorem L_rest_loop (μ : List Cell) (b : List DL.Slot) (a : DL.Slot) {w n : Nat} (hw : w < 16777216) (hn : 0 < n) : ∀ (lot : List (List Int)) (row : List Int) (r : Nat) (c : DL.Slot), (∀ o ∈ lot, o.length = w ∧ Bd n o ∧ lead o ≠ none) → row.length = w → Bd r row → 0 < r → r + (lot.length + 1) * (n + 1) ≤ 40000 →
    ∃ c', (c' = c ∨ ∃ d, c' = .val d) ∧ dFor (gNm 2) (dAsg 1 (dCall F_L_less (dCons (dVar 1) (dCons (dVar 2) dNil)))) (lot.map Ri) ⟨a :: .val (Ri row) :: c :: b, μ⟩ = .nx ⟨a :: .val (Ri (rest lot row)) :: c' :: b, μ⟩
  | [], row, r, c, _, _, _, _, _ => ⟨c, .inl rfl, rfl⟩
  | o :: lot, row, r, c, hl, hr, hb, hr0, hz => by
    obtain ⟨h1, h2, h3⟩ := hl o (by simp)
    cases e : lead o with
    | none => exact absurd e h3
    | some i =>
      have hs : r + (lot.length + 1 + 1) * (n + 1) = r + n + 1 + (lot.length + 1) * (n + 1) := by rw [Nat.add_mul (lot.length + 1)]; omega
      rw [List.length_cons, hs] at hz
      obtain ⟨c', hc, e2⟩ := L_rest_loop μ b a hw hn lot (less row o) (r + n + 1) (.val (Ri o)) (fun q hq => hl q (by simp [hq])) (by rw [less_len (by omega)]; exact hr) (less_bd hb h2) (by omega) hz
      refine ⟨c', .inr (hc.elim (fun z => ⟨_, z⟩) id), ?_⟩
      have e3 := L_less_ok (row := row) (other := o) (by omega) (by omega) e hr0 hn (by omega) hb h2 μ
      simp [dFor, e3, -List.map_map]
      exact e2
theorem leadL_len {xs : List Int} : leadL xs = xs.length ↔ lead xs = none := by
  unfold leadL
  cases e : lead xs with
  | none => simp
  | some i => have := (lead_some e).1; simp; omega
theorem L_with_comp (μ : List Cell) (a d e f : DL.Slot) {w n r : Nat} (hw : w < 16777216) (hn : 0 < n) (hr0 : 0 < r) (hz : n + r + 1 ≤ 8000) {left : List Int} (hl : left.length = w) (hb : Bd r left) {j : Nat} (hj : lead left = some j) (c : DL.Slot) (hc : ∀ x, c ≠ .own x) : ∀ lot : List (List Int), (∀ o ∈ lot, o.length = w ∧ Bd n o) →
    dLcGo [2] (gNm 2) dYes (dCall F_L_lowest (dCons (dCall F_L_less (dCons (dVar 2) (dCons (dVar 1) dNil))) dNil)) (lot.map Ri) ⟨[a, .val (Ri left), c, d, e, f], μ⟩ = .ok ((lot.map fun o => low (less o left)).map Ri) ⟨[a, .val (Ri left), c, d, e, f], μ⟩
  | [], _ => rfl
  | o :: lot, h => by
    obtain ⟨h1, h2⟩ := h o (by simp)
    have ih := L_with_comp μ a d e f hw hn hr0 hz hl hb hj c hc lot fun q hq => h q (by simp [hq])
    have e1 := L_less_ok (row := o) (other := left) (by omega) (by omega) hj hn hr0 (by omega) h2 hb μ
    have e2 := L_lowest_ok (xs := less o left) ((less_bd h2 hb).mono (by omega)) (by rw [less_len (by omega)]; omega) μ
    simp only [List.map_map] at ih
    cases c with
    | own x => exact absurd rfl (hc x)
    | no => simp [dLcGo, wipeD, backD, e1, e2, ih]
    | val x => simp [dLcGo, wipeD, backD, e1, e2, ih]
end K11

namespace K11
open PySem PySem.Spec PyProof.Rows L2 DL
/-- a pair of a lead and a row -/
abbrev Pr (k : Int) (r : List Int) : D := .tup [.int k, Ri r]
theorem alike_ints : ∀ xs ys : List Int, PySem.W.alikeAll (xs.map .int) (ys.map .int) = true
  | [], ys => by simp [PySem.W.alikeAll]
  | x :: xs, [] => by simp [PySem.W.alikeAll]
  | x :: xs, y :: ys => by simp [PySem.W.alikeAll, PySem.W.alike, alike_ints xs ys]
def prP (p : Int × List Int) : PyData := .tuple [.int p.1, .tuple (p.2.map .int)]
theorem py_prs : ∀ ps : List (Int × List Int), toPyL (ps.map fun p => Pr p.1 p.2) = some (ps.map prP)
  | [] => rfl
  | p :: ps => by simp [toPyL, toPy, py_ints, py_prs ps, prP]
theorem sortOk_prs (ps : List (Int × List Int)) : sortOk (ps.map prP) = true := by
  unfold sortOk
  simp only [Bool.and_eq_true, Bool.or_eq_true, List.all_eq_true, List.mem_map]
  refine ⟨⟨?_, .inl ?_⟩, ?_⟩
  · rintro _ ⟨p, _, rfl⟩ _ ⟨q, _, rfl⟩
    simp [prP, PySem.W.alike, PySem.W.alikeAll, alike_ints]
  · rintro _ ⟨p, _, rfl⟩
    rfl
  · rintro _ ⟨p, _, rfl⟩
    simp [prP, PyData.depth, PyData.depthAll, depth_ints]
theorem sorted_prs (s : S) (ps : List (Int × List Int)) (hl : ps.length ≤ 16777216) : ∃ qs : List (Int × List Int), qs.Perm ps ∧ gSorted s [.lst (ps.map fun p => Pr p.1 p.2)] = some (.lst (qs.map fun p => Pr p.1 p.2)) := by
  have h := List.mergeSort_perm (ps.map fun p => Pr p.1 p.2) (PySem.W.dataLe false encD)
  have : ∃ qs : List (Int × List Int), qs.Perm ps ∧ (ps.map fun p => Pr p.1 p.2).mergeSort (PySem.W.dataLe false encD) = qs.map fun p => Pr p.1 p.2 := by
    let un : D → Int × List Int := fun d => match d with | .tup [.int k, r] => (k, unRi r) | _ => (0, [])
    have e : ∀ p : Int × List Int, un (Pr p.1 p.2) = p := fun p => by
      show (p.1, unRi (Ri p.2)) = p
      rw [unRi_ri]
    refine ⟨((ps.map fun p => Pr p.1 p.2).mergeSort (PySem.W.dataLe false encD)).map un, ?_, ?_⟩
    · have := h.map un
      rw [List.map_map] at this
      have e2 : (un ∘ fun p : Int × List Int => Pr p.1 p.2) = id := funext e
      rwa [e2, List.map_id] at this
    · rw [List.map_map]
      have : ∀ d ∈ (ps.map fun p => Pr p.1 p.2).mergeSort (PySem.W.dataLe false encD), ((fun p : Int × List Int => Pr p.1 p.2) ∘ un) d = d := fun d hd => by
        obtain ⟨r, _, rfl⟩ := List.mem_map.mp (h.mem_iff.mp hd)
        show Pr (un (Pr r.1 r.2)).1 (un (Pr r.1 r.2)).2 = _
        rw [e]
      rw [List.map_congr_left this]
      simp
  obtain ⟨qs, h1, h2⟩ := this
  refine ⟨qs, h1, ?_⟩
  simp only [gSorted, asl_lst, Option.bind_some, py_prs, sortOk_prs, List.length_map, hl, decide_true, Bool.true_and, if_true, h2]
theorem pairs_comp (μ : List Cell) (a b c d e : DL.Slot) : ∀ m : List (List Int), (∀ r ∈ m, r.length < 16777216) → dLcGo [5] (gNm 5) dYes (dTup (dCons (dCall F_L_lead (dCons (dVar 5) dNil)) (dCons (dVar 5) dNil))) (m.map Ri) ⟨[a, b, c, d, e, .no], μ⟩ = .ok (m.map fun r => Pr (leadL r) r) ⟨[a, b, c, d, e, .no], μ⟩
  | [], _ => rfl
  | r :: m, h => by
    have ih := pairs_comp μ a b c d e m fun q hq => h q (by simp [hq])
    simp [dLcGo, wipeD, backD, L_lead_ok r (h r (by simp)), ih]
theorem second_comp (μ : List Cell) (a b c d f : DL.Slot) : ∀ m : List (Int × List Int), dLcGo [4] (gNm 4) dYes (dOp gIx (dVar 4) (dC (.int (1)))) (m.map fun p => Pr p.1 p.2) ⟨[a, b, c, d, .no, f], μ⟩ = .ok (m.map fun p => Ri p.2) ⟨[a, b, c, d, .no, f], μ⟩
  | [] => rfl
  | r :: m => by
    have ih := second_comp μ a b c d f m
    simp [dLcGo, wipeD, backD, ih, gIx, L2.atI, L2.ixN]
theorem L_with_row_ok {w r K : Nat} (hw : w ≤ 60) (hr0 : 0 < r) {lot : List (List Int)} {row : List Int} (L : Lt w (BB r lot.length) lot) (hr : row.length = w) (hb : Bd r row) (hK : lot.length < w → lot.length + 1 ≤ K) (hz : BB r K ≤ 8000) (hz2 : r + (lot.length + 1) * (BB r lot.length + 1) ≤ 40000) (μ : List Cell) :
    ∃ m', F_L_with_row [.tup (lot.map Ri), Ri row] μ = .ok (.tup (m'.map Ri)) μ ∧ WR lot row m' := by
  have hk := L.le
  have hn := BB_pos r lot.length
  have e1 := fun c => L_rest_loop μ [.no, .no, .no] (.val (.tup (lot.map Ri))) (w := w) (n := BB r lot.length) (by omega) hn lot row r c (fun o ho => ⟨L.len o ho, L.bd o ho, L.ld o ho⟩) hr hb hr0 hz2
  obtain ⟨c', hc, e1⟩ := e1 .no
  have hc : ∀ x, c' ≠ .own x := fun x z => by subst z; rcases hc with h | ⟨_, h⟩ <;> cases h
  have rl := rest_len (lot := lot) (row := row) L.len hr
  have el := L_lead_ok (rest lot row) (by omega) μ
  cases ej : lead (rest lot row) with
  | none =>
    have ej2 : leadL (rest lot row) = (rest lot row).length := leadL_len.mpr ej
    refine ⟨lot, ?_, .inl ⟨by rw [lead_low, ej], rfl⟩⟩
    simp [F_L_with_row, b_L_with_row, runF, dForI, e1, el, ej2, gLen, -List.map_map]
  | some j =>
    have ej2 : ((leadL (rest lot row) : Int) == ((rest lot row).length : Int)) = false := by
      have : leadL (rest lot row) ≠ (rest lot row).length := fun z => by rw [leadL_len.mp z] at ej; cases ej
      simp; omega
    have hlt : lot.length < w := by
      rcases Nat.lt_or_ge lot.length w with z | z
      · exact z
      · have := L.full (Nat.le_antisymm hk z) hr
        rw [this] at ej; cases ej
    have hB : BB r (lot.length + 1) ≤ 8000 := Nat.le_trans (BB_mono r (hK hlt)) hz
    have hB2 : BB r lot.length + (r + lot.length * (BB r lot.length + 1)) + 1 ≤ 8000 := hB
    generalize BB r lot.length = n at L hn hz2 hB2
    have rb : Bd (r + lot.length * (n + 1)) (rest lot row) := rest_bd L.bd hb
    have e2 := L_lowest_ok (rb.mono (by omega)) (by omega) μ
    have ej3 : lead (low (rest lot row)) = some j := by rw [lead_low, ej]
    have ll : (low (rest lot row)).length = w := by rw [low_len]; exact rl
    have lb := low_bd rb
    have e3 := L_with_comp μ (.val (.tup (lot.map Ri))) .no .no .no (w := w) (n := n) (r := r + lot.length * (n + 1)) (by omega) hn (by omega) (by omega) ll lb ej3 c' hc lot fun o ho => ⟨L.len o ho, L.bd o ho⟩
    have ea : ∀ s : S, gAdd s (.lst ((lot.map fun o => low (less o (low (rest lot row)))).map Ri)) (.lst [Ri (low (rest lot row))]) = some (.lst ((lot.map fun o => low (less o (low (rest lot row)))).map Ri ++ [Ri (low (rest lot row))])) := fun s => add_ll _ _ _ (by simp; omega)
    have hM : ∃ M, M = lot.map (fun o => low (less o (low (rest lot row)))) ++ [low (rest lot row)] := ⟨_, rfl⟩
    obtain ⟨M, hM⟩ := hM
    have ea2 : (lot.map fun o => low (less o (low (rest lot row)))).map Ri ++ [Ri (low (rest lot row))] = M.map Ri := by rw [hM]; simp
    have hMl : M.length ≤ 61 := by rw [hM]; simp; omega
    have hMr : ∀ q ∈ M, q.length < 16777216 := fun q hq => by
      rw [hM] at hq
      rcases List.mem_append.mp hq with hq | hq
      · obtain ⟨o, ho, rfl⟩ := List.mem_map.mp hq
        rw [low_len, less_len (by rw [L.len o ho, ll]), L.len o ho]; omega
      · simp at hq; subst hq; omega
    obtain ⟨qs, hq1, hq2⟩ := sorted_prs ⟨[.val (.tup (lot.map Ri)), .val (Ri (low (rest lot row))), c', .val (.lst (M.map Ri)), .no, .no], μ⟩ (M.map fun q => ((leadL q : Int), q)) (by simp; omega)
    rw [List.map_map] at hq2
    have hq2 : gSorted ⟨[.val (.tup (lot.map Ri)), .val (Ri (low (rest lot row))), c', .val (.lst (M.map Ri)), .no, .no], μ⟩ [.lst (M.map fun q => Pr (leadL q) q)] = some (.lst (qs.map fun p => Pr p.1 p.2)) := hq2
    have e4 := pairs_comp μ (.val (.tup (lot.map Ri))) (.val (Ri (low (rest lot row)))) c' (.val (.lst (M.map Ri))) .no M hMr
    have e5 := second_comp μ (.val (.tup (lot.map Ri))) (.val (Ri (low (rest lot row)))) c' (.val (.lst (M.map Ri))) .no qs
    have hql : qs.length ≤ 16777216 := by rw [hq1.length_eq]; simp; omega
    refine ⟨qs.map (·.2), ?_, .inr ⟨j, ej3, ?_⟩⟩
    · have hk2 : lot.length ≤ 16777216 := by omega
      have hk3 : M.length ≤ 16777216 := by omega
      cases c' with
      | own x => exact absurd rfl (hc x)
      | no =>
        simp [F_L_with_row, b_L_with_row, runF, dForI, e1, el, ej2, gLen, e2, e3, ea, ea2, e4, e5, hq2, -List.map_map, -List.map_append, hk2, hk3, hql, gTuple, Function.comp_def]
        rw [List.map_map]; rfl
      | val x =>
        simp [F_L_with_row, b_L_with_row, runF, dForI, e1, el, ej2, gLen, e2, e3, ea, ea2, e4, e5, hq2, -List.map_map, -List.map_append, hk2, hk3, hql, gTuple, Function.comp_def]
        rw [List.map_map]; rfl
    · rw [← hM]
      have := hq1.map (·.2)
      rw [List.map_map] at this
      have e6 : ((fun p : Int × List Int => p.2) ∘ fun q => ((leadL q : Int), q)) = id := rfl
      rwa [e6, List.map_id] at this
theorem L_lot_ok {w r K : Nat} (hw : w ≤ 60) (hr0 : 0 < r) {rows : List (List Int)} (hl : ∀ o ∈ rows, o.length = w ∧ Bd r o) (hK : ∀ l, l ≤ w → l ≤ rows.length → l ≤ K) (hz : BB r K ≤ 8000) (hz2 : r + (K + 1) * (BB r K + 1) ≤ 40000) {d : D} (hd : IsRows rows d) (μ : List Cell) :
    ∃ m' : List (List Int), F_L_lot [d] μ = .ok (.tup (m'.map Ri)) μ ∧ Lt w (BB r m'.length) m' ∧ m'.length ≤ K ∧ ∀ x, Perp x m' ↔ Perp x rows := by
  obtain ⟨m', c', e, L, hm, p⟩ := lot_loop (F := F_L_with_row) (g := 0) μ (.val d) hr0 (fun lot row L a b c d => L_with_row_ok hw hr0 L a b c hz d μ) hz2 rows [] .no ⟨by simp, by simp, by simp, .nil⟩ hl (Nat.zero_le _) (by simpa using hK)
  refine ⟨m', ?_, L, hm, fun x => by rw [p x]; exact ⟨fun h => h.2, fun h => ⟨perp_nil x, h⟩⟩⟩
  have e : dFor (gNm 2) (dAsg 1 (dCall F_L_with_row (dCons (dVar 1) (dCons (dVar 2) dNil)))) (rows.map Ri) ⟨[.val d, .val (.tup []), .no], μ⟩ = .nx ⟨[.val d, .val (.tup (m'.map Ri)), c'], μ⟩ := e
  rcases hd with rfl | rfl <;> simp [F_L_lot, b_L_lot, runF, dForI, e, -List.map_map]
theorem L_holds_ok {w n r : Nat} (hw : w ≤ 60) (hn : 0 < n) (hr0 : 0 < r) {lot : List (List Int)} {row : List Int} (L : Lt w n lot) (hr : row.length = w) (hb : Bd r row) (hz2 : r + (lot.length + 1) * (n + 1) ≤ 40000) (μ : List Cell) :
    F_L_holds [.tup (lot.map Ri), Ri row] μ = .ok (.bl (decide (lead (rest lot row) = none))) μ := by
  obtain ⟨c', hc, e1⟩ := L_rest_loop μ [] (.val (.tup (lot.map Ri))) (w := w) (n := n) (by omega) hn lot row r .no (fun o ho => ⟨L.len o ho, L.bd o ho, L.ld o ho⟩) hr hb hr0 hz2
  have rl := rest_len (lot := lot) (row := row) L.len hr
  have el := L_lead_ok (rest lot row) (by omega) μ
  simp [F_L_holds, b_L_holds, runF, dForI, e1, el, gLen, -List.map_map]
  have := @leadL_len (rest lot row)
  by_cases h : lead (rest lot row) = none
  · simp [h, this.mpr h]
  · have h2 : leadL (rest lot row) ≠ (rest lot row).length := fun z => h (this.mp z)
    simp [h]; omega
end K11

namespace K11
open PySem PySem.Spec PyProof.Rows L2 DL
/-! ### steps -/
@[simp] theorem nL_int (i : Int) : nL (.int i) = true := by simp [nL]
@[simp] theorem nL_bl (i : Bool) : nL (.bl i) = true := by simp [nL]
@[simp] theorem nL_str (i : Str) : nL (.str i) = true := by simp [nL]
@[simp] theorem nL_non : nL .non = true := by simp [nL]
@[simp] theorem nL_ref (n : Nat) : nL (.ref n) = true := by simp [nL]
theorem nLs_all : ∀ xs : List D, nLs xs = xs.all nL
  | [] => rfl
  | x :: xs => by simp [nLs, nLs_all xs]
@[simp] theorem nL_tup (xs : List D) : nL (.tup xs) = xs.all nL := by simp [nL, nLs_all]
theorem all_ints (xs : List Int) : (xs.map D.int).all nL = true := by simp
@[simp] theorem nL_ri (xs : List Int) : nL (.tup (xs.map .int)) = true := by simp
@[simp] theorem nL_rows (m : List (List Int)) : nL (.tup (m.map Ri)) = true := by simp
theorem rngD_succ (i : Int) (n : Nat) : rngD i (n + 1) = .int i :: rngD (i + 1) n := by
  unfold rngD
  rw [List.range_succ_eq_map, List.map_cons, List.map_map]
  congr 1
  · simp
  · apply List.map_congr_left
    intro j _
    simp only [Function.comp]
    congr 1
    push_cast
    omega
theorem rng_gen {fa : FA} {s s1 : S} {j : Int} (h : fa s = .ok [.int j] s1) (hs : smallI j = true) : dRng1 fa s = .ok (rngD 0 j.toNat) s1 := by
  unfold dRng1
  rw [h, bind_ok]
  exact if_pos hs
theorem small_w {w : Nat} (hw : w ≤ 70) : smallI (w : Int) = true := by simp [smallI]; omega
theorem rng_len : ∀ (j : Nat) (i : Int), (rngD i j).length = j := fun j i => by simp [rngD]
theorem cut_to {xs : List D} {w : Nat} (h : w ≤ xs.length) : DL.cutD xs none (some (w : Int)) = xs.take w := by
  unfold DL.cutD
  rw [HT.sIx_none, HT.sIx_nat, List.drop_zero, Nat.min_eq_left h, Nat.sub_zero]
theorem cut_from {xs : List D} {w : Nat} (h : w ≤ xs.length) : DL.cutD xs (some (w : Int)) none = xs.drop w := by
  unfold DL.cutD
  rw [HT.sIx_none, HT.sIx_nat, Nat.min_eq_left h]
  exact List.take_of_length_le (by simp)
theorem cut_last {xs : List D} (h : 1 ≤ xs.length) : DL.cutD xs none (some (-1)) = xs.take (xs.length - 1) := by
  unfold DL.cutD
  rw [HT.sIx_none, List.drop_zero]
  show xs.take ((-1 + (xs.length : Int)).toNat - 0) = _
  congr 1
  omega
theorem ri_app (xs ys : List Int) (s : S) (h : xs.length + ys.length ≤ 16777216) : gAdd s (.tup (xs.map .int)) (.tup (ys.map .int)) = some (.tup ((xs ++ ys).map .int)) := by
  simp [gAdd, h]
theorem ri_take (xs : List Int) (w : Nat) : (xs.map D.int).take w = (xs.take w).map .int := (List.map_take ..).symm
theorem ri_drop (xs : List Int) (w : Nat) : (xs.map D.int).drop w = (xs.drop w).map .int := (List.map_drop ..).symm
@[simp] theorem nLl_no : nLl .no = true := rfl
@[simp] theorem nLl_val (d : D) : nLl (.val d) = nL d := rfl
@[simp] theorem nLl_own (d : Cell) : nLl (.own d) = nLc d := rfl
@[simp] theorem allc_ints (xs : List Int) : xs.all (nL ∘ D.int) = true := by simp
theorem seq_nx {f g : FS} {s s1 : S} (h : f s = .nx s1) : dSeq f g s = g s1 := by rw [ap_Seq, h]
theorem mulz (s : S) (m : Nat) (hm : m ≤ 1000) : gMul s (.tup [.int 0]) (.int (m : Nat)) = some (.tup ((List.replicate m (0 : Int)).map .int)) := by
  rcases Nat.lt_or_ge m 2 with h | h
  · have : m = 0 ∨ m = 1 := by omega
    rcases this with rfl | rfl
    · rfl
    · rfl
  · have h1 : ((m : Int) == 1) = false := by simp; omega
    have h2 : (2 : Int) ≤ m := by omega
    have h3 : (m : Int) ≤ 1000 := by omega
    have e : (List.replicate m [D.int 0]).flatten = (List.replicate m (0 : Int)).map .int := by
      clear hm h h1 h2 h3
      induction m with
      | zero => rfl
      | succ m ih => rw [List.replicate_succ, List.flatten_cons, ih, List.replicate_succ]; rfl
    simp only [gMul, List.isEmpty_cons, h1, Bool.or_false, Bool.false_eq_true, if_false, h2, h3, decide_true, Bool.true_and, List.length_singleton, Int.toNat_natCast, e]
    rfl
theorem ix_last (s : S) (xs : List Int) (h : 1 ≤ xs.length) : gIx s (.tup (xs.map .int)) (.int (-1)) = some (.int (at0 xs (xs.length - 1))) := by
  have h2 : -(xs.length : Int) ≤ -1 := by omega
  have h3 : ((-1 : Int) + xs.length).toNat = xs.length - 1 := by omega
  rw [at0_lt (by omega)]
  simp [gIx, L2.atI, L2.ixN, h2, h3, h]
theorem runF_rt {b : FS} {n : Nat} {ds : List D} {v : D} {s : S} {μ : List Cell} (h : b ⟨ds.map .val ++ List.replicate (n - ds.length) .no, μ⟩ = .rt v s) : runF b n ds μ = .ok v s.μ := by
  unfold runF; rw [h]
theorem forEn {fa : FA} {g : FG} {b : FS} {s : S} {xs : List D} (h : fa s = .ok [.tup xs] s) : dForI (dIterEn fa) g b s = dFor g b (enD 0 xs) s := by
  simp [dForI, h]
theorem forRng {fa : FA} {g : FG} {b : FS} {s : S} {w : Nat} (h : fa s = .ok [.int (w : Nat)] s) (hw : w ≤ 60) : dForI (dRng1 fa) g b s = dFor g b (rngD 0 w) s := by
  unfold dForI
  rw [rng_gen h (small_w (by omega)), Int.toNat_natCast]
theorem ret_call {F : FF} {fa : FA} {s : S} {ds : List D} {d : D} (h : fa s = .ok ds s) (hn : ds.all noOwn = true) (e : F ds s.μ = .ok d s.μ) (hd : noOwn d = true) : dRet (dCall F fa) s = .rt d s := by
  rw [ap_Ret, ap_Call, h, bind_ok]
  simp only [hn, e, hd, if_true]
theorem forIt {fa : FE} {g : FG} {b : FS} {s : S} {d : D} {xs : List D} (h : fa s = .ok d s) (h1 : fixSeq d = some xs) : dForI (dIter fa) g b s = dFor g b xs s := by
  simp [dForI, h, h1]
theorem forZp {fa : FA} {g : FG} {b : FS} {s : S} {d e : D} {xs ys : List D} (h : fa s = .ok [d, e] s) (h1 : fixSeq d = some xs) (h2 : fixSeq e = some ys) : dForI (dIterZp fa) g b s = dFor g b (zpD xs ys) s := by
  simp [dForI, h, h1, h2]
theorem repz (w : Nat) (hw : w ≤ 60) : repD (.lst [.int 0]) (.int (w : Nat)) = some ((List.replicate w (0 : Int)).map .int) := by
  have e : (List.replicate w [D.int 0]).flatten = (List.replicate w (0 : Int)).map .int := by
    clear hw
    induction w with
    | zero => rfl
    | succ m ih => rw [List.replicate_succ, List.flatten_cons, ih, List.replicate_succ]; rfl
  have h1 : -(2 ^ 63 : Int) ≤ w := by omega
  have h2 : (w : Int) < 2 ^ 63 := by omega
  have h3 : 1 * w ≤ 16777216 := by omega
  simp only [repD, Int.toNat_natCast, List.length_singleton, e, h1, h2, h3, decide_true, Bool.and_self, if_true]
theorem repF_ok {fa : FC} {fb : FE} {s s1 s2 : S} {c : Cell} {b : D} {ys : List D} (h1 : fa s = .ok c s1) (h2 : fb s1 = .ok b s2) (h3 : repD c b = some ys) : dRepF fa fb s = .ok (.lst ys) s2 := by
  unfold dRepF
  rw [h1, bind_ok, h2, bind_ok, h3]
theorem lst0 {s : S} : dLst (dCons (dC (.int (0))) dNil) s = .ok (.lst [.int 0]) s := by simp
theorem asgO_ok {i : Nat} {fa : FC} {s s1 : S} {c : Cell} (h : fa s = .ok c s1) : dAsgO i fa s = .nx { s1 with δ := s1.δ.set i (.own c) } := by rw [ap_AsgO, h]
theorem lc_ok {vs : List Nat} {fi : FA} {g : FG} {ft : FT} {fe : FE} {s : S} {ds ys : List D} (h1 : fi s = .ok ds s) (h2 : ds.length ≤ 16777216) (h3 : vs.all (fun v => !isOwn s.δ v) = true) (h4 : dLcGo vs g ft fe ds s = .ok ys s) : dLc vs fi g ft fe s = .ok (.lst ys) s := by
  rw [ap_Lc, h1, bind_ok, if_pos (by rw [h3, Bool.and_true]; exact decide_eq_true h2), h4]
theorem iter_ok {fa : FE} {s : S} {d : D} {xs : List D} (h : fa s = .ok d s) (h1 : fixSeq d = some xs) : dIter fa s = .ok xs s := by rw [ap_Iter, h, bind_ok, h1]
theorem call_ok {F : FF} {fa : FA} {s : S} {ds : List D} {d : D} (h : fa s = .ok ds s) (hn : ds.all noOwn = true) (e : F ds s.μ = .ok d s.μ) : dCall F fa s = .ok d s := by
  rw [ap_Call, h, bind_ok]
  simp only [hn, e, if_true]
theorem drop_ok {fa : FE} {s : S} {d : D} (h : fa s = .ok d s) : dDrop fa s = .nx s := by rw [ap_Drop, h]
theorem asg_ok {i : Nat} {fa : FE} {s : S} {d : D} (h : fa s = .ok d s) (hn : noOwn d = true) : dAsg i fa s = .nx { s with δ := s.δ.set i (.val d) } := by
  rw [ap_Asg, h]
  simp only [hn, if_true]
theorem dt_eq (x y : List Int) : (zw (· * ·) x y).sum = dt x y := rfl
theorem frzAsgO {i : Nat} {fc : FC} {s : S} {xs : List D} (h : fc s = .ok (.lst xs) s) (hi : i < s.δ.length) : dFrzS i (dAsgO i fc) s = .nx { s with δ := s.δ.set i (.val (.lst xs)) } := by
  unfold dFrzS
  rw [asgO_ok h]
  simp [frzAt, hi, Cell.toD]
theorem ix_1 (s : S) (x y : D) (xs : List D) : gIx s (.tup (x :: y :: xs)) (.int 1) = some y := by
  have h : (1 : Int) < xs.length + 1 + 1 := by omega
  simp [gIx, atI, L2.atI, L2.ixN, h]
theorem ix_2 (s : S) (x y z : D) (xs : List D) : gIx s (.tup (x :: y :: z :: xs)) (.int 2) = some z := by
  have h : (2 : Int) < xs.length + 1 + 1 + 1 := by omega
  simp [gIx, atI, L2.atI, L2.ixN, h]
theorem len_tup (s : S) (ys : List D) : gLen s [.tup ys] = some (.int (ys.length : Nat)) := rfl
theorem ix_0 (s : S) (x : D) (xs : List D) : gIx s (.tup (x :: xs)) (.int 0) = some x := by simp [gIx, atI, L2.atI, L2.ixN]
theorem ret_eq {fa fb : FE} {s : S} {x y : D} {b : Bool} (h1 : fa s = .ok x s) (h2 : fb s = .ok y s) (h3 : eqS s x y = some (.bl b)) : dRet (dOp eqS fa fb) s = .rt (.bl b) s := by
  rw [ap_Ret, ap_Op, h1, bind_ok, h2, bind_ok, h3]
  rfl
theorem tup_lc {fc : FC} {s : S} {xs : List D} {d : D} (h : fc s = .ok (.lst xs) s) (h2 : gTuple s [.lst xs] = some d) : dB gTuple (dCons (dFrz fc) dNil) s = .ok d s := by
  rw [ap_B, ap_Cons, ap_Frz, h]
  simp only [bind_ok, ap_Nil, Cell.toD, h2]
theorem len2 {α : Type} {xs : List α} (h : xs.length = 2) : ∃ b c, xs = [b, c] := by
  match xs, h with
  | [b, c], _ => exact ⟨b, c, rfl⟩
theorem lend_ok {i : Nat} {f : FE} {s : S} {xs : List D} {d : D} {μ' : List Cell} (h1 : s.δ[i]? = some (.own (.lst xs))) (h2 : f { s with δ := s.δ.set i (.val (.lst xs)) } = .ok d ⟨s.δ.set i (.val (.lst xs)), μ'⟩) (nd : nL d = true) (nμ : μ'.all nLc = true) (nδ : (s.δ.set i .no).all nLl = true) : dLend i f s = .ok d { s with μ := μ' } := by
  have hi : i < s.δ.length := by
    rcases Nat.lt_or_ge i s.δ.length with z | z
    · exact z
    · rw [List.getElem?_eq_none z] at h1; cases h1
  have g1 : (s.δ.set i (.val (.lst xs)))[i]? = some (.val (.lst xs)) := by rw [List.getElem?_set_self hi]
  have g2 : s.δ[i]'hi = .own (.lst xs) := by
    rw [List.getElem?_eq_getElem hi] at h1
    exact Option.some.inj h1
  have g3 : s.δ.set i (.own (.lst xs)) = s.δ := by rw [← g2, List.set_getElem_self]
  unfold dLend
  rw [h1]
  simp only [h2, List.set_set, g1, nd, nμ, nδ, isVL, Bool.and_self, if_true, g3]
theorem lc_okμ {vs : List Nat} {fi : FA} {g : FG} {ft : FT} {fe : FE} {s s2 : S} {ds ys : List D} (h1 : fi s = .ok ds s) (h2 : ds.length ≤ 16777216) (h3 : vs.all (fun v => !isOwn s.δ v) = true) (h4 : dLcGo vs g ft fe ds s = .ok ys s2) : dLc vs fi g ft fe s = .ok (.lst ys) s2 := by
  rw [ap_Lc, h1, bind_ok, if_pos (by rw [h3, Bool.and_true]; exact decide_eq_true h2), h4]
theorem call_okμ {F : FF} {fa : FA} {s s1 : S} {ds : List D} {d : D} {μ' : List Cell} (h : fa s = .ok ds s1) (hn : ds.all noOwn = true) (e : F ds s1.μ = .ok d μ') : dCall F fa s = .ok d { s1 with μ := μ' } := by
  rw [ap_Call, h, bind_ok]
  simp only [hn, e, if_true]
theorem asg_okμ {i : Nat} {fa : FE} {s s1 : S} {d : D} (h : fa s = .ok d s1) (hn : noOwn d = true) : dAsg i fa s = .nx { s1 with δ := s1.δ.set i (.val d) } := by
  rw [ap_Asg, h]
  simp only [hn, if_true]
theorem frzE_ok {fc : FC} {s s1 : S} {xs : List D} (h : fc s = .ok (.lst xs) s1) : dFrz fc s = .ok (.lst xs) s1 := by
  rw [ap_Frz, h]; rfl
theorem var_ok {i : Nat} {s : S} {d : D} (h : s.δ[i]? = some (.val d)) : dVar i s = .ok d s := by rw [ap_Var, h]
theorem cons_ok {fa : FE} {fr : FA} {s s1 s2 : S} {d : D} {ds : List D} (h1 : fa s = .ok d s1) (h2 : fr s1 = .ok ds s2) : dCons fa fr s = .ok (d :: ds) s2 := by
  rw [ap_Cons, h1, bind_ok, h2, bind_ok]
theorem b_ok {g : S → List D → Option D} {fa : FA} {s s1 : S} {ds : List D} {d : D} (h : fa s = .ok ds s1) (e : g s1 ds = some d) : dB g fa s = .ok d s1 := by
  rw [ap_B, h, bind_ok, e]
theorem py_rows : ∀ fs : List (List Int), toPyL (fs.map Ri) = some (fs.map fun r => .tuple (r.map .int))
  | [] => rfl
  | r :: fs => by simp [toPyL, toPy, py_ints, py_rows fs]
theorem sh_rows (fs : List (List Int)) : SeqAt.shaped (.list (fs.map fun r => .tuple (r.map .int))) = true := by
  have h1 : PyData.canLayAll0 (fs.map fun r => .tuple (r.map .int)) = true := by
    induction fs with
    | nil => simp [PyData.canLayAll0]
    | cons r fs ih => simp only [List.map_cons, PyData.canLayAll0, PyData.canLay0, can_ints, ih, Bool.and_self]
  have h2 : PyData.depthAll (fs.map fun r => .tuple (r.map .int)) ≤ 1 := by
    induction fs with
    | nil => simp [PyData.depthAll]
    | cons r fs ih =>
      simp only [List.map_cons, PyData.depthAll, PyData.depth, depth_ints]
      have := ih (by
        simp only [List.map_cons, PyData.canLayAll0, Bool.and_eq_true] at h1
        exact h1.2)
      omega
  unfold SeqAt.shaped
  simp only [PyData.canLay0, h1, PyData.depth, Bool.true_and]
  exact decide_eq_true (Nat.le_trans (Nat.succ_le_succ h2) (show 1 + 1 ≤ 64 by decide))
theorem ne_own {s : S} {i : Nat} {fs : List (List Int)} (h : s.δ[i]? = some (.own (.lst (fs.map Ri)))) : neS s (.own i) (.lst []) = some (.bl (!fs.isEmpty)) := by
  have e1 : toPyS s (.own i) = some (.list (fs.map fun r => .tuple (r.map .int))) := by
    simp only [toPyS, asL, cellAt, h, Option.bind_some, py_rows, Option.map_some]
  have e2 : toPyS s (.lst []) = some (.list []) := rfl
  have h2 : SeqAt.shaped (.list []) = true := rfl
  simp only [neS, twoStr, gDat, e1, e2, neG, sh_rows, h2, Bool.and_self, if_true, Option.map_some]
  cases fs with
  | nil => rfl
  | cons r fs => rfl
theorem runF_rtc {b : FS} {n : Nat} {ds : List D} {v : Cell} {s : S} {μ : List Cell} (h : b ⟨ds.map .val ++ List.replicate (n - ds.length) .no, μ⟩ = .rtc v s) : runF b n ds μ = .okc v s.μ := by
  unfold runF; rw [h]
theorem apd_ok {i : Nat} {fe : FE} {s s1 : S} {d : D} {V : List D} (h0 : s.δ[i]? = some (.own (.lst V))) (h1 : fe s = .ok d s1) (h2 : s1.δ[i]? = some (.own (.lst V))) (hl : V.length < 16777216) (nd : noOwn d = true) :
    dDrop (dM "list" gAppend (dVar i) (dCons fe dNil)) s = .nx { s1 with δ := s1.δ.set i (.own (.lst (V ++ [d]))) } := by
  have e1 : dVar i s = .ok (.own i) s := by rw [ap_Var, h0]
  have e2 : tyD s (.own i) = some "list" := by simp only [tyD, cellAt, h0]
  have e3 : dCons fe dNil s = .ok [d] s1 := cons_ok h1 rfl
  have e4 : gAppend s1 (.own i) [d] = some (.non, { s1 with δ := s1.δ.set i (.own (.lst (V ++ [d]))) }) := by
    simp only [gAppend, mutAt, h2, nd, hl, decide_true, Bool.and_self, if_true, setAt]
  have e5 : dM "list" gAppend (dVar i) (dCons fe dNil) s = .ok .non { s1 with δ := s1.δ.set i (.own (.lst (V ++ [d]))) } := by
    unfold dM
    rw [e1, bind_ok, if_pos e2, e3, bind_ok, e4]
  rw [ap_Drop, e5]
theorem tup_ok {fa : FA} {s s1 : S} {ds : List D} (h : fa s = .ok ds s1) (hn : ds.all noOwn = true) (hl : ds.length ≤ 16777216) : dTup fa s = .ok (.tup ds) s1 := by
  rw [ap_Tup, h, bind_ok, if_pos (by rw [hn, Bool.true_and]; exact decide_eq_true hl)]
theorem lst_ok {fa : FA} {s s1 : S} {ds : List D} (h : fa s = .ok ds s1) (hn : ds.all noOwn = true) (hl : ds.length ≤ 16777216) : dLst fa s = .ok (.lst ds) s1 := by
  rw [ap_Lst, h, bind_ok, if_pos (by rw [hn, Bool.true_and]; exact decide_eq_true hl)]
theorem c_ok {d : D} {s : S} : dC d s = .ok d s := rfl
theorem op_ok {g : S → D → D → Option D} {fa fb : FE} {s s1 s2 : S} {x y d : D} (h1 : fa s = .ok x s1) (h2 : fb s1 = .ok y s2) (h3 : g s2 x y = some d) : dOp g fa fb s = .ok d s2 := by
  rw [ap_Op, h1, bind_ok, h2, bind_ok, h3]
theorem muls_gen {v : Nat} {fe : FE} {t : Int} {s : S} {n m : Nat} (hl : v < s.δ.length) (hfe : ∀ x, fe ⟨s.δ.set v x, s.μ⟩ = .ok (.int t) ⟨s.δ.set v x, s.μ⟩) (hn : 0 < n) (hm : 0 < m) (hnm : n + m ≤ 50000) (ht : t.natAbs < 2 ^ n) : ∀ xs : List Int, Bd m xs → dLcGo [v] (gNm v) dYes (dOp gMul fe (dVar v)) (xs.map .int) s = .ok ((xs.map fun x => t * x).map .int) s
  | [], _ => rfl
  | x :: xs, hb => by
    have ih := muls_gen hl hfe hn hm hnm ht xs fun y hy => hb y (by simp [hy])
    have gv : s.δ[v]? = some (s.δ[v]'hl) := List.getElem?_eq_getElem hl
    have g1 : (s.δ.set v (.val (.int x)))[v]? = some (.val (.int x)) := by rw [List.getElem?_set_self hl]
    have gb : (s.δ.set v (.val (.int x))).set v (s.δ[v]'hl) = s.δ := by rw [List.set_set, List.set_getElem_self]
    have e := mulOk_of ht (hb x (by simp)) hn hm hnm
    simp only [List.map_cons, dLcGo, wipeD, backD, ap_gNm, ap_Yes, List.set_set, ap_Op, hfe, bind_ok, ap_Var, g1, mul_ii e, no_int, if_true, gv, gb]
    have ih : dLcGo [v] (gNm v) dYes (dOp gMul fe (dVar v)) (xs.map .int) { δ := s.δ, μ := s.μ } = .ok ((xs.map fun x => t * x).map .int) s := ih
    have gc : s.δ.set v (s.δ[v]'hl) = s.δ := List.set_getElem_self hl
    simp only [gc, ih, bind_ok]
theorem tmul {v : Nat} {fe fi : FE} {t : Int} {s : S} {n m : Nat} {xs : List Int} {d : D} (hi : fi s = .ok d s) (hd : fixSeq d = some (xs.map .int)) (hl : v < s.δ.length) (ho : isOwn s.δ v = false) (hfe : ∀ x, fe ⟨s.δ.set v x, s.μ⟩ = .ok (.int t) ⟨s.δ.set v x, s.μ⟩) (hn : 0 < n) (hm : 0 < m) (hnm : n + m ≤ 50000) (ht : t.natAbs < 2 ^ n) (hb : Bd m xs) (hx : xs.length ≤ 100) :
    dB gTuple (dCons (dFrz (dLc [v] (dIter fi) (gNm v) dYes (dOp gMul fe (dVar v)))) dNil) s = .ok (Ri (xs.map fun x => t * x)) s :=
  tup_lc (lc_ok (iter_ok hi hd) (by simp; omega) (by simp [ho, -isOwn_c]) (muls_gen hl hfe hn hm hnm ht xs hb)) (tup_ints s _)
theorem add_tt2 (s : S) (a b : List D) (h : a.length + b.length ≤ 16777216) : gAdd s (.tup a) (.tup b) = some (.tup (a ++ b)) := by
  simp [gAdd, h]
theorem part_ok {fe : FE} {s s1 : S} {i : Int} (h : fe s = .ok (.int i) s1) : dPart fe s = .ok (some i) s1 := by
  unfold dPart; rw [h]; rfl
theorem no_ok {s : S} : dNo s = .ok none s := rfl
theorem sl_ok {fa : FE} {fl fh : FO} {s : S} {xs : List D} {l h : Option Int} (h1 : fa s = .ok (.tup xs) s) (h2 : fl s = .ok l s) (h3 : fh s = .ok h s) : dSl fa fl fh s = .ok (.tup (DL.cutD xs l h)) s := by
  unfold dSl
  rw [h1, bind_ok, h2, bind_ok, h3, bind_ok]
theorem cat_ok {fa fb : FE} {s s1 s2 : S} {a b : D} {x y : List D} (h1 : fa s = .ok a s1) (h2 : fb s1 = .ok b s2) (h3 : asL s2 a = some x) (h4 : asL s2 b = some y) (hl : x.length + y.length ≤ 16777216) : dCat fa fb s = .ok (.lst (x ++ y)) s2 := by
  unfold dCat
  rw [h1, bind_ok, h2, bind_ok, h3, h4]
  simp only [hl, if_true]
theorem asl_own {s : S} {i : Nat} {V : List D} (h : s.δ[i]? = some (.own (.lst V))) : asL s (.own i) = some V := by simp only [asL, cellAt, h]
theorem var_own {s : S} {i : Nat} {V : List D} (h : s.δ[i]? = some (.own (.lst V))) : dVar i s = .ok (.own i) s := by rw [ap_Var, h]
theorem add_own {s : S} {i : Nat} {V U : List D} (h : s.δ[i]? = some (.own (.lst V))) (hl : V.length + U.length ≤ 16777216) : gAdd s (.own i) (.lst U) = some (.lst (V ++ U)) := by
  have e1 := asl_own h
  have e2 : asL s (.lst U) = some U := rfl
  simp only [gAdd, e1, e2, hl, if_true]
theorem callF_ok {F : FF} {fa : FA} {s s1 : S} {ds : List D} {c : Cell} {μ' : List Cell} (h : fa s = .ok ds s1) (hn : ds.all noOwn = true) (e : F ds s1.μ = .okc c μ') : dCallF F fa s = .ok c { s1 with μ := μ' } := by
  rw [ap_CallF, h, bind_ok]
  simp only [hn, e, if_true]
theorem add_ll2 (s : S) (a b : List D) (h : a.length + b.length ≤ 16777216) : gAdd s (.lst a) (.lst b) = some (.lst (a ++ b)) := add_ll s a b h
theorem truth_ok {fa : FE} {s s1 : S} {b : Bool} (h : fa s = .ok (.bl b) s1) : dTruth fa s = .ok b s1 := by
  rw [ap_Truth, h]; rfl
theorem tup2 {a b : D} {fa fb : FE} {s : S} (h1 : fa s = .ok a s) (h2 : fb s = .ok b s) (na : noOwn a = true) (nb : noOwn b = true) : dTup (dCons fa (dCons fb dNil)) s = .ok (.tup [a, b]) s := tup_ok (cons_ok h1 (cons_ok h2 rfl)) (by simp [na, nb]) (by simp)
theorem tup3 {a b c : D} {fa fb fc : FE} {s : S} (h1 : fa s = .ok a s) (h2 : fb s = .ok b s) (h3 : fc s = .ok c s) (na : noOwn a = true) (nb : noOwn b = true) (nc : noOwn c = true) : dTup (dCons fa (dCons fb (dCons fc dNil))) s = .ok (.tup [a, b, c]) s := tup_ok (cons_ok h1 (cons_ok h2 (cons_ok h3 rfl))) (by simp [na, nb, nc]) (by simp)
theorem frzList {i : Nat} {s : S} {xs : List D} (h : s.δ[i]? = some (.val (.tup xs))) : dFrz (dBF gList (dCons (dVar i) dNil)) s = .ok (.lst xs) s := by
  have : dBF gList (dCons (dVar i) dNil) s = .ok (.lst xs) s := by
    have e : dCons (dVar i) dNil s = .ok [.tup xs] s := cons_ok (var_ok h) rfl
    rw [ap_BF, e, bind_ok]; rfl
  exact frzE_ok this
end K11

namespace K11
open PySem PySem.Spec PyProof.Rows L2 DL
/-! ### the rows that are apart from a lot -/
def shF (s : Int) : List (List Int) → Int
  | [] => s
  | o :: lot => shF (s * at0 o (leadL o)) lot
def putF (sh : Int) (j : Nat) : List (List Int) → List Int → List Int
  | [], cur => cur
  | o :: lot, cur => putF sh j lot (cur.set (leadL o) (0 - at0 o j * sh.fdiv (at0 o (leadL o))))
def lineOf (w : Nat) (lot : List (List Int)) (j : Nat) : List Int := putF (shF 1 lot) j lot ((List.replicate w 0).set j (shF 1 lot))
def aparts (w : Nat) (lot : List (List Int)) : List (List Int) := ((List.range w).filter fun j => !(leads lot).contains j).map (lineOf w lot)
theorem shF_mul : ∀ (lot : List (List Int)) (s : Int), shF s lot = s * shF 1 lot
  | [], s => by simp [shF]
  | o :: lot, s => by rw [shF, shF, shF_mul lot (s * _), shF_mul lot (1 * _)]; rw [Int.one_mul, Int.mul_assoc]
theorem shF_ne : ∀ (lot : List (List Int)) (s : Int), (∀ o ∈ lot, lead o ≠ none) → s ≠ 0 → shF s lot ≠ 0
  | [], s, _, h => h
  | o :: lot, s, hl, h => by
    refine shF_ne lot _ (fun p hp => hl p (by simp [hp])) ?_
    cases e : lead o with
    | none => exact absurd e (hl o (by simp))
    | some i => rw [leadL_some e]; exact Int.mul_ne_zero h (lead_iff.mp e).1
theorem shF_dvd : ∀ (lot : List (List Int)) (s : Int), s ∣ shF s lot ∧ ∀ o ∈ lot, at0 o (leadL o) ∣ shF s lot
  | [], s => ⟨Int.dvd_refl _, fun o ho => by simp at ho⟩
  | o :: lot, s => by
    obtain ⟨h1, h2⟩ := shF_dvd lot (s * at0 o (leadL o))
    refine ⟨Int.dvd_trans (Int.dvd_mul_right _ _) h1, fun p hp => ?_⟩
    rcases List.mem_cons.mp hp with rfl | hp
    · exact Int.dvd_trans (Int.dvd_mul_left _ _) h1
    · exact h2 p hp
theorem abs_mul_lt {a b : Int} {n m : Nat} (ha : a.natAbs < 2 ^ n) (hb : b.natAbs < 2 ^ m) : (a * b).natAbs < 2 ^ (n + m) := by
  rw [Int.natAbs_mul, Nat.pow_add]
  rcases Nat.eq_zero_or_pos b.natAbs with z | z
  · rw [z, Nat.mul_zero]; exact Nat.mul_pos (Nat.two_pow_pos n) (Nat.two_pow_pos m)
  · exact Nat.mul_lt_mul_of_lt_of_le ha (Nat.le_of_lt hb) (Nat.two_pow_pos m) |> fun h => by
      have h1 : a.natAbs * b.natAbs < 2 ^ n * b.natAbs := Nat.mul_lt_mul_of_pos_right ha z
      exact Nat.lt_of_lt_of_le h1 (Nat.mul_le_mul_left _ (Nat.le_of_lt hb))
theorem shF_bd {n : Nat} : ∀ (lot : List (List Int)) (s : Int) (k : Nat), (∀ o ∈ lot, Bd n o) → s.natAbs < 2 ^ k → (shF s lot).natAbs < 2 ^ (k + lot.length * n)
  | [], s, k, _, h => by simpa [shF] using h
  | o :: lot, s, k, hl, h => by
    have := shF_bd lot (s * at0 o (leadL o)) (k + n) (fun p hp => hl p (by simp [hp])) (abs_mul_lt h (bd_at (hl o (by simp)) _))
    have e : k + n + lot.length * n = k + (lot.length + 1) * n := by rw [Nat.add_mul]; omega
    rw [e] at this
    exact this
theorem putF_len (sh : Int) (j : Nat) : ∀ (lot : List (List Int)) (cur : List Int), (putF sh j lot cur).length = cur.length
  | [], cur => rfl
  | o :: lot, cur => by rw [putF, putF_len]; simp
/-- places that no lead reaches are kept by products -/
theorem putF_keep {w : Nat} {sh : Int} {j : Nat} : ∀ {lot : List (List Int)} {cur r : List Int}, (∀ o ∈ lot, o.length = w ∧ lead o ≠ none) → cur.length = w → (∀ o ∈ lot, ∀ i, lead o = some i → at0 r i = 0) → dt (putF sh j lot cur) r = dt cur r
  | [], cur, r, _, _, _ => rfl
  | o :: lot, cur, r, hl, hc, h => by
    rw [putF, putF_keep (lot := lot) (fun p hp => hl p (by simp [hp])) (by simpa using hc) (fun p hp => h p (by simp [hp]))]
    cases e : lead o with
    | none => exact absurd e (hl o (by simp)).2
    | some i =>
      have hi := (lead_some e).1
      rw [leadL_some e, dt_set _ (by have := (hl o (by simp)).1; omega), h o (by simp) i e]; simp
theorem putF_perp {w : Nat} {sh : Int} {j : Nat} : ∀ {lot : List (List Int)} {cur : List Int}, (∀ o ∈ lot, o.length = w ∧ lead o ≠ none) → cur.length = w → lot.Pairwise Apart → (∀ o ∈ lot, at0 o (leadL o) ∣ sh) →
    (∀ o ∈ lot, ∀ i, lead o = some i → at0 cur i = 0) → ∀ r ∈ lot, dt (putF sh j lot cur) r = dt cur r - at0 r j * sh
  | [], cur, _, _, _, _, _ => fun r hr => by simp at hr
  | o :: lot, cur, hl, hc, ha, hd, h0 => fun r hr => by
    have hp := List.pairwise_cons.mp ha
    have hl' : ∀ p ∈ lot, p.length = w ∧ lead p ≠ none := fun p hp => hl p (by simp [hp])
    cases e : lead o with
    | none => exact absurd e (hl o (by simp)).2
    | some i =>
      have hi : i < cur.length := by have := (lead_some e).1; have := (hl o (by simp)).1; omega
      rw [putF, leadL_some e]
      rcases List.mem_cons.mp hr with rfl | hr
      · rw [putF_keep hl' (by simpa using hc) (fun p hp2 k hk => (hp.1 p hp2).2 k hk), dt_set _ hi, h0 r (by simp) i e]
        obtain ⟨q, hq⟩ := hd r (by simp)
        rw [leadL_some e] at hq
        have hne := (lead_iff.mp e).1
        rw [hq, Int.mul_fdiv_cancel_left _ hne]
        have : (0 - at0 r j * q - 0) * at0 r i = - (at0 r j * (at0 r i * q)) := by
          rw [Int.sub_zero, Int.zero_sub, Int.neg_mul, Int.mul_assoc, Int.mul_comm q]
        omega
      · have hz : at0 r i = 0 := (hp.1 r hr).1 i e
        rw [putF_perp (lot := lot) hl' (by simpa using hc) hp.2 (fun p hp => hd p (by simp [hp])) (fun p hp2 k hk => ?_) r hr, dt_set _ hi, hz]
        · simp
        · rw [at0_set _ hi, if_neg, h0 p (by simp [hp2]) k hk]
          rintro rfl
          exact (lead_iff.mp e).1 ((hp.1 p hp2).2 k hk)
theorem not_lead {lot : List (List Int)} {j : Nat} (h : (leads lot).contains j = false) {o : List Int} (ho : o ∈ lot) : lead o ≠ some j := fun e => by
  have : j ∈ leads lot := List.mem_map.mpr ⟨o, ho, leadL_some e⟩
  rw [List.contains_iff_mem.mpr this] at h
  cases h
theorem line_len (w : Nat) (lot : List (List Int)) (j : Nat) : (lineOf w lot j).length = w := by simp [lineOf, putF_len]
theorem at0_rep (w j : Nat) : at0 (List.replicate w 0) j = 0 := by
  unfold at0
  by_cases h : j < w <;> simp [List.getD, h]
theorem line_perp {w n : Nat} {lot : List (List Int)} (L : Lt w n lot) {j : Nat} (hj : j < w) (hn : (leads lot).contains j = false) : Perp (lineOf w lot j) lot := fun r hr => by
  unfold lineOf
  rw [putF_perp (fun o ho => ⟨L.len o ho, L.ld o ho⟩) (by simp) L.ap (shF_dvd lot 1).2 (fun o ho i hi => ?_) r hr, dt_set _ (by simpa using hj), dt_rep, at0_rep]
  · rw [Int.sub_zero, Int.mul_comm]; omega
  · rw [at0_set _ (by simpa using hj), if_neg (fun e => by subst e; exact not_lead hn ho hi), at0_rep]
theorem line_at {w n : Nat} {lot : List (List Int)} (L : Lt w n lot) {j : Nat} (hj : j < w) {z : List Int} (hz : ∀ o ∈ lot, ∀ i, lead o = some i → at0 z i = 0) : dt (lineOf w lot j) z = shF 1 lot * at0 z j := by
  unfold lineOf
  rw [putF_keep (fun o ho => ⟨L.len o ho, L.ld o ho⟩) (by simp) hz, dt_set _ (by simpa using hj), dt_rep, at0_rep]
  simp
theorem perp_lines {w n : Nat} {lot : List (List Int)} (L : Lt w n lot) {x : List Int} (hx : x ∈ aparts w lot) : x.length = w ∧ Perp x lot := by
  obtain ⟨j, hj, rfl⟩ := List.mem_map.mp hx
  obtain ⟨h1, h2⟩ := List.mem_filter.mp hj
  exact ⟨line_len _ _ _, line_perp L (List.mem_range.mp h1) (by simpa using h2)⟩
/-- a row that the lot does not hold is not apart from the lines -/
theorem lines_full {w n : Nat} {lot : List (List Int)} (L : Lt w n lot) {v : List Int} (hv : v.length = w) (h : lead (rest lot v) ≠ none) : ∃ x ∈ aparts w lot, dt x v ≠ 0 := by
  cases e : lead (rest lot v) with
  | none => exact absurd e h
  | some j =>
    have hl := rest_len L.len hv
    obtain ⟨h1, _⟩ := lead_some e
    have hz := rest_zero L.len hv L.ap
    have hn : (leads lot).contains j = false := by
      cases hc : (leads lot).contains j with
      | false => rfl
      | true =>
        obtain ⟨o, ho, h3⟩ := List.mem_map.mp (List.contains_iff_mem.mp hc)
        cases eo : lead o with
        | none => exact absurd eo (L.ld o ho)
        | some i =>
          rw [leadL_some eo] at h3
          subst h3
          exact absurd (hz o ho _ eo) (lead_iff.mp e).1
    refine ⟨lineOf w lot j, List.mem_map.mpr ⟨j, List.mem_filter.mpr ⟨List.mem_range.mpr (by omega), by rw [hn]; rfl⟩, rfl⟩, fun z => ?_⟩
    obtain ⟨a, ha, e2⟩ := rest_dt (fun o ho => ⟨L.len o ho, L.ld o ho⟩) hv
    have h4 := e2 _ (line_perp L (by omega) hn)
    rw [line_at L (by omega) hz, z] at h4
    exact Int.mul_ne_zero (shF_ne lot 1 L.ld (by decide)) (lead_iff.mp e).1 (by simpa using h4)
theorem aparts_len {w n : Nat} {lot : List (List Int)} (L : Lt w n lot) : (aparts w lot).length + lot.length ≤ w := by
  have h := nodup_le w (leads lot ++ (List.range w).filter fun j => !(leads lot).contains j) (by
    rw [List.nodup_append]
    refine ⟨L.nodup.1, List.nodup_range.filter _, fun a ha b hb e => ?_⟩
    subst e
    have := (List.mem_filter.mp hb).2
    rw [List.contains_iff_mem.mpr ha] at this
    cases this) (fun x hx => by
    rcases List.mem_append.mp hx with hx | hx
    · exact L.nodup.2 x hx
    · exact List.mem_range.mp (List.mem_filter.mp hx).1)
  have := h.1
  rw [List.length_append] at this
  simp only [leads, List.length_map] at this
  simp only [aparts, List.length_map, leads]
  omega
theorem fdiv_abs2 {s g : Int} (h : g ∣ s) (h0 : g ≠ 0) : (s.fdiv g).natAbs ≤ s.natAbs := by
  obtain ⟨q, rfl⟩ := h
  rw [Int.mul_fdiv_cancel_left _ h0, Int.natAbs_mul]
  exact Nat.le_mul_of_pos_left _ (by omega)
theorem bd_set {n : Nat} {x : List Int} {i : Nat} {v : Int} (h : Bd n x) (hv : v.natAbs < 2 ^ n) : Bd n (x.set i v) := fun z hz => by
  rcases List.mem_or_eq_of_mem_set hz with h1 | rfl
  · exact h z h1
  · exact hv
theorem ent_bd {n k : Nat} {lot : List (List Int)} (hl : ∀ o ∈ lot, Bd n o ∧ lead o ≠ none) {sh : Int} (hs : sh.natAbs < 2 ^ k) (hd : ∀ o ∈ lot, at0 o (leadL o) ∣ sh) {o : List Int} (ho : o ∈ lot) (j : Nat) : (0 - at0 o j * sh.fdiv (at0 o (leadL o))).natAbs < 2 ^ (n + k) := by
  have h1 := abs_mul_lt (bd_at (hl o ho).1 j) (show (sh.fdiv (at0 o (leadL o))).natAbs < 2 ^ k by
    refine Nat.lt_of_le_of_lt (fdiv_abs2 (hd o ho) ?_) hs
    cases e : lead o with
    | none => exact absurd e (hl o ho).2
    | some i => rw [leadL_some e]; exact (lead_iff.mp e).1)
  omega
theorem putF_bd {n k : Nat} {sh : Int} {j : Nat} (hs : sh.natAbs < 2 ^ k) : ∀ {lot : List (List Int)} {cur : List Int}, (∀ o ∈ lot, Bd n o ∧ lead o ≠ none) → (∀ o ∈ lot, at0 o (leadL o) ∣ sh) → Bd (n + k) cur → Bd (n + k) (putF sh j lot cur)
  | [], cur, _, _, h => h
  | o :: lot, cur, hl, hd, h => putF_bd hs (lot := lot) (fun p hp => hl p (by simp [hp])) (fun p hp => hd p (by simp [hp])) (bd_set h (ent_bd hl hs hd (by simp) j))
theorem line_bd {w n : Nat} {lot : List (List Int)} (L : Lt w n lot) (j : Nat) : Bd (n + (1 + lot.length * n)) (lineOf w lot j) := by
  have hs := shF_bd lot 1 1 L.bd (by decide)
  refine putF_bd hs (fun o ho => ⟨L.bd o ho, L.ld o ho⟩) (shF_dvd lot 1).2 (bd_set (fun z hz => ?_) (Nat.lt_of_lt_of_le hs (Nat.pow_le_pow_right (by decide) (by omega))))
  rw [List.eq_of_mem_replicate hz]
  exact Nat.two_pow_pos _
end K11

namespace K11
open PySem PySem.Spec PyProof.Rows L2 DL
/-! ### the walk of apart_in -/
theorem in_ints (s : S) (w : Int) (ls : List Int) : gDat inG s (.int w) (.lst (ls.map .int)) = some (.bl (ls.any fun l => l == w)) := by
  have : (ls.map PyData.int).any (fun y => PyData.eqv y (.int w)) = ls.any fun l => l == w := by
    rw [List.any_map]
    congr 1
  simp only [gDat, pys_int, pys_lst, py_ints, Option.map_some, inG, sh_int, sh_lsti, Bool.and_self, if_true, this]
theorem ni_ints (s : S) (w : Int) (ls : List Int) : gDat niG s (.int w) (.lst (ls.map .int)) = some (.bl (!(ls.any fun l => l == w))) := by
  have : (ls.map PyData.int).any (fun y => PyData.eqv y (.int w)) = ls.any fun l => l == w := by
    rw [List.any_map]
    congr 1
  simp only [gDat, niG, pys_int, pys_lst, py_ints, Option.map_some, inG, sh_int, sh_lsti, Bool.and_self, if_true, this]
def ldI (lot : List (List Int)) : List Int := (leads lot).map fun (l : Nat) => (l : Int)
theorem ldI_any (lot : List (List Int)) (j : Nat) : (ldI lot).any (fun l => l == (j : Int)) = (leads lot).contains j := by
  unfold ldI
  rw [List.any_map, List.contains_eq_any_beq]
  congr 1
  funext l
  simp only [Function.comp]
  by_cases h : l = j
  · subst h; simp
  · have h2 : ((l : Int) == (j : Int)) = false := by simp; omega
    have h3 : (j == l) = false := by simp; omega
    rw [h2, h3]
theorem ldI_cons (o : List Int) (lot : List (List Int)) : ldI (o :: lot) = (leadL o : Int) :: ldI lot := rfl
theorem optD_leadL {o : List Int} (h : lead o ≠ none) : optD (lead o) = .int (leadL o) := by
  cases e : lead o with
  | none => exact absurd e h
  | some i => rw [leadL_some e]; rfl
theorem leadL_lt {o : List Int} (h : lead o ≠ none) : leadL o < o.length := by
  cases e : lead o with
  | none => exact absurd e h
  | some i => rw [leadL_some e]; exact (lead_some e).1
theorem ld_comp (a0 a1 c2 : DL.Slot) (n2 : ∀ x, c2 ≠ .own x) (μ : List Cell) : ∀ (lot : List (List Int)), (∀ o ∈ lot, lead o ≠ none) →
    dLcGo [2] (gNm 2) dYes (dCall F_lead_in (dCons (dVar 2) dNil)) (lot.map Ri) ⟨[a0, a1, c2, .no, .no, .no, .no, .no, .no], μ⟩ = .ok ((ldI lot).map .int) ⟨[a0, a1, c2, .no, .no, .no, .no, .no, .no], μ⟩
  | [], _ => rfl
  | o :: lot, h => by
    have ih := ld_comp a0 a1 c2 n2 μ lot fun p hp => h p (by simp [hp])
    have e := lead_in_ok o μ
    rw [optD_leadL (h o (by simp))] at e
    rw [ldI_cons]
    cases c2 with
    | own x => exact absurd rfl (n2 x)
    | no => simp [dLcGo, wipeD, backD, e, ih]
    | val x => simp [dLcGo, wipeD, backD, e, ih]
theorem ap_par {w : Int} {lot : List (List Int)} {μ : List Cell} (hl : lot.length ≤ 60) (h : ∀ o ∈ lot, lead o ≠ none) : dParM3 3 4 5 (dMv (dFrz (dLc [2] (dIter (dVar 1)) (gNm 2) dYes (dCall F_lead_in (dCons (dVar 2) dNil)))) (dMv (dC (.int (1))) (dMc (dLst dNil) dMn))) ⟨[.val (.int w), .val (.tup (lot.map Ri)), .no, .no, .no, .no, .no, .no, .no], μ⟩ =
    .nx ⟨[.val (.int w), .val (.tup (lot.map Ri)), .no, .val (.lst ((ldI lot).map .int)), .val (.int 1), .own (.lst []), .no, .no, .no], μ⟩ := by
  have e := ld_comp (.val (.int w)) (.val (.tup (lot.map Ri))) .no (fun _ z => nomatch z) μ lot h
  have hl2 : lot.length ≤ 16777216 := by omega
  simp [dParM3, dMv, dMc, dMn, slotOf, e, hl2, -List.map_map]
theorem mul_sh {n k : Nat} {s : Int} {o : List Int} (hb : Bd n o) (hs : s.natAbs < 2 ^ k) (hn : 0 < n) (hk : 0 < k) (hnk : n + k ≤ 50000) : mulOk s (at0 o (leadL o)) = true := mulOk_of hs (bd_at hb _) hk hn (by omega)
theorem ix_at {s : S} {xs : List Int} {i : Nat} (h : i < xs.length) : gIx s (.tup (xs.map .int)) (.int (i : Nat)) = some (.int (at0 xs i)) := by
  rw [ix_row s xs i h, at0_lt h]
theorem ap_share (a0 a1 a3 a5 a7 a8 : DL.Slot) (μ : List Cell) {n : Nat} (hn : 0 < n) : ∀ (lot : List (List Int)) (s : Int) (k : Nat) (c6 c2 : DL.Slot), (∀ o ∈ lot, Bd n o ∧ lead o ≠ none) → s.natAbs < 2 ^ k → 0 < k → k + (lot.length + 1) * n ≤ 50000 → ∃ c2' c6', dFor (gT (gC (gNm 6) (gC (gNm 2) gN))) (dAsg 4 (dOp gMul (dVar 4) (dOp gIx (dVar 2) (dVar 6)))) (zpD ((ldI lot).map .int) (lot.map Ri)) ⟨[a0, a1, c2, a3, .val (.int s), a5, c6, a7, a8], μ⟩ =
    .nx ⟨[a0, a1, c2', a3, .val (.int (shF s lot)), a5, c6', a7, a8], μ⟩
  | [], s, k, c6, c2, _, _, _, _ => ⟨c2, c6, rfl⟩
  | o :: lot, s, k, c6, c2, hl, hs, hk, hz => by
    obtain ⟨h1, h2⟩ := hl o (by simp)
    have e0 : k + (lot.length + 1 + 1) * n = k + n + (lot.length + 1) * n := by rw [Nat.add_mul (lot.length + 1)]; omega
    rw [List.length_cons, e0] at hz
    obtain ⟨c2', c6', e⟩ := ap_share a0 a1 a3 a5 a7 a8 μ hn lot (s * at0 o (leadL o)) (k + n) (.val (.int (leadL o))) (.val (Ri o)) (fun p hp => hl p (by simp [hp])) (abs_mul_lt hs (bd_at h1 _)) (by omega) hz
    refine ⟨c2', c6', ?_⟩
    have e1 : ∀ s : S, gIx s (.tup (o.map .int)) (.int (leadL o : Nat)) = some (.int (at0 o (leadL o))) := fun s => ix_at (leadL_lt h2)
    have e2 := mul_sh (n := n) (k := k) (s := s) h1 hs hn hk (by omega)
    rw [ldI_cons]
    simp [zpD, dFor, e1, mul_ii e2]
    exact e
theorem set_own {s : S} {i : Nat} {xs : List Int} {k : Nat} {v : Int} (h : s.δ[i]? = some (.own (.lst (xs.map .int)))) (hk : k < xs.length) : gSetI s (.own i) (.int (k : Nat)) (.int v) = some { s with δ := s.δ.set i (.own (.lst ((xs.set k v).map .int))) } := by
  simp [gSetI, mutAt, h, L2.ixN, hk, setAt, List.map_set]
end K11

namespace K11
open PySem PySem.Spec PyProof.Rows L2 DL
def setB : FS := (dSetI gSetI (dOp gSub (dC (.int (0))) (dOp gMul (dOp gIx (dVar 2) (dVar 7)) (dOp gFdiv (dVar 4) (dOp gIx (dVar 2) (dVar 6))))) (dVar 8) (dVar 6))
theorem setB_ok {a0 a1 a3 a5 : DL.Slot} {o cur : List Int} {sh : Int} {j n k : Nat} {μ : List Cell} (hn : 0 < n) (hn2 : n ≤ 8900) (hk : 0 < k) (hnk : n + k ≤ 50000) (hb : Bd n o) (hl : lead o ≠ none) (hs : sh.natAbs < 2 ^ k) (hd : at0 o (leadL o) ∣ sh) (hj : j < o.length) (hc : leadL o < cur.length) :
    setB ⟨[a0, a1, .val (Ri o), a3, .val (.int sh), a5, .val (.int (leadL o)), .val (.int j), .own (.lst (cur.map .int))], μ⟩ = .nx ⟨[a0, a1, .val (Ri o), a3, .val (.int sh), a5, .val (.int (leadL o)), .val (.int j), .own (.lst ((cur.set (leadL o) (0 - at0 o j * sh.fdiv (at0 o (leadL o)))).map .int))], μ⟩ := by
  have e1 : ∀ s : S, gIx s (.tup (o.map .int)) (.int (leadL o : Nat)) = some (.int (at0 o (leadL o))) := fun s => ix_at (leadL_lt hl)
  have e2 : ∀ s : S, gIx s (.tup (o.map .int)) (.int (j : Nat)) = some (.int (at0 o j)) := fun s => ix_at hj
  have h0 : at0 o (leadL o) ≠ 0 := by
    cases e : lead o with
    | none => exact absurd e hl
    | some i => rw [leadL_some e]; exact (lead_iff.mp e).1
  have f1 : fdivOk sh (at0 o (leadL o)) = true := fdivOk_of h0 (bd_at hb _) hn hn2
  have f2 : mulOk (at0 o j) (sh.fdiv (at0 o (leadL o))) = true := mulOk_of (bd_at hb _) (Nat.lt_of_le_of_lt (fdiv_abs2 hd h0) hs) hn hk hnk
  have f3 := set_own (s := ⟨[a0, a1, .val (Ri o), a3, .val (.int sh), a5, .val (.int (leadL o)), .val (.int j), .own (.lst (cur.map .int))], μ⟩) (i := 8) (v := 0 - at0 o j * sh.fdiv (at0 o (leadL o))) rfl hc
  unfold setB dSetI
  simp only [ap_Op, ap_C, ap_Var, bind_ok, sub_ii, List.getElem?_cons_succ, List.getElem?_cons_zero, e1, e2, fdiv_ii f1, mul_ii f2, no_int, if_true]
  rw [f3]
  rfl
theorem ap_in (a0 a1 a3 a5 : DL.Slot) (μ : List Cell) {sh : Int} {j n k w : Nat} (hn : 0 < n) (hn2 : n ≤ 8900) (hk : 0 < k) (hnk : n + k ≤ 50000) (hs : sh.natAbs < 2 ^ k) (hj : j < w) : ∀ (lot : List (List Int)) (cur : List Int) (c6 c2 : DL.Slot), (∀ o ∈ lot, o.length = w ∧ Bd n o ∧ lead o ≠ none ∧ at0 o (leadL o) ∣ sh) → cur.length = w →
    ∃ c2' c6', dFor (gT (gC (gNm 6) (gC (gNm 2) gN))) setB (zpD ((ldI lot).map .int) (lot.map Ri)) ⟨[a0, a1, c2, a3, .val (.int sh), a5, c6, .val (.int j), .own (.lst (cur.map .int))], μ⟩ =
    .nx ⟨[a0, a1, c2', a3, .val (.int sh), a5, c6', .val (.int j), .own (.lst ((putF sh j lot cur).map .int))], μ⟩
  | [], cur, c6, c2, _, _ => ⟨c2, c6, rfl⟩
  | o :: lot, cur, c6, c2, hl, hc => by
    obtain ⟨h1, h2, h3, h4⟩ := hl o (by simp)
    have h5 := leadL_lt h3
    obtain ⟨c2', c6', e⟩ := ap_in a0 a1 a3 a5 μ hn hn2 hk hnk hs hj lot (cur.set (leadL o) (0 - at0 o j * sh.fdiv (at0 o (leadL o)))) (.val (.int (leadL o))) (.val (Ri o)) (fun p hp => hl p (by simp [hp])) (by simpa using hc)
    refine ⟨c2', c6', ?_⟩
    have e1 := setB_ok (a0 := a0) (a1 := a1) (a3 := a3) (a5 := a5) (μ := μ) (cur := cur) hn hn2 hk hnk h2 h3 hs h4 (show j < o.length by omega) (by omega)
    rw [ldI_cons, List.map_cons, List.map_cons, zpD, dFor]
    simp only [ap_gT, ap_gC, ap_gNm, ap_gN, Option.bind_some, List.set_cons_succ, List.set_cons_zero]
    rw [e1]
    exact e
def lineB : FS := (dSeq (dAsgO 8 (dRepF (dLst (dCons (dC (.int (0))) dNil)) (dVar 0)))
    (dSeq (dSetI gSetI (dVar 4) (dVar 8) (dVar 7))
    (dSeq (dForI (dIterZp (dCons (dVar 3) (dCons (dVar 1) dNil))) (gT (gC (gNm 6) (gC (gNm 2) gN))) setB)
    (dDrop (dM "list" gAppend (dVar 5) (dCons (dB gTuple (dCons (dVar 8) dNil)) dNil))))))
theorem line1 {a1 a2 a3 a4 a5 a6 a7 a8 : DL.Slot} {w : Nat} {μ : List Cell} (hw : w ≤ 60) : (dAsgO 8 (dRepF (dLst (dCons (dC (.int (0))) dNil)) (dVar 0))) ⟨[.val (.int (w : Nat)), a1, a2, a3, a4, a5, a6, a7, a8], μ⟩ = .nx ⟨[.val (.int (w : Nat)), a1, a2, a3, a4, a5, a6, a7, .own (.lst ((List.replicate w (0 : Int)).map .int))], μ⟩ :=
  by
  have e : dVar 0 ⟨[.val (.int (w : Nat)), a1, a2, a3, a4, a5, a6, a7, a8], μ⟩ = .ok (.int (w : Nat)) ⟨[.val (.int (w : Nat)), a1, a2, a3, a4, a5, a6, a7, a8], μ⟩ := by simp
  have h := repF_ok (s := ⟨[.val (.int (w : Nat)), a1, a2, a3, a4, a5, a6, a7, a8], μ⟩) lst0 e (repz w hw)
  rw [asgO_ok h]
  simp only [List.set_cons_succ, List.set_cons_zero]
theorem line2 {a0 a1 a2 a3 a5 a6 : DL.Slot} {xs : List Int} {sh : Int} {j : Nat} {μ : List Cell} (hj : j < xs.length) : (dSetI gSetI (dVar 4) (dVar 8) (dVar 7)) ⟨[a0, a1, a2, a3, .val (.int sh), a5, a6, .val (.int (j : Nat)), .own (.lst (xs.map .int))], μ⟩ = .nx ⟨[a0, a1, a2, a3, .val (.int sh), a5, a6, .val (.int (j : Nat)), .own (.lst ((xs.set j sh).map .int))], μ⟩ := by
  have f3 := set_own (s := ⟨[a0, a1, a2, a3, .val (.int sh), a5, a6, .val (.int (j : Nat)), .own (.lst (xs.map .int))], μ⟩) (i := 8) (v := sh) rfl hj
  unfold dSetI
  simp only [ap_Var, bind_ok, List.getElem?_cons_succ, List.getElem?_cons_zero, no_int, if_true]
  rw [f3]
  rfl
theorem line4 {a0 a1 a2 a3 a4 a6 a7 : DL.Slot} {xs : List Int} {fs : List (List Int)} {μ : List Cell} (hf : fs.length < 16777216) : (dDrop (dM "list" gAppend (dVar 5) (dCons (dB gTuple (dCons (dVar 8) dNil)) dNil))) ⟨[a0, a1, a2, a3, a4, .own (.lst (fs.map Ri)), a6, a7, .own (.lst (xs.map .int))], μ⟩ = .nx ⟨[a0, a1, a2, a3, a4, .own (.lst ((fs ++ [xs]).map Ri)), a6, a7, .own (.lst (xs.map .int))], μ⟩ := by
  simp [-List.map_map, dM, tyD, cellAt, kitB, gAppend, mutAt, setAt, gTuple, asSeq, asL, hf]
theorem lineB_ok {w n : Nat} {lot fs : List (List Int)} {c2 c6 c8 : DL.Slot} {μ : List Cell} {j : Nat} (hw : w ≤ 60) (L : Lt w n lot) (hn : 0 < n) (hn2 : n ≤ 8900) (hz : n + (1 + lot.length * n) ≤ 50000) (hj : j < w) (hf : fs.length ≤ 60) :
    ∃ c2' c6' c8', lineB ⟨[.val (.int (w : Nat)), .val (.tup (lot.map Ri)), c2, .val (.lst ((ldI lot).map .int)), .val (.int (shF 1 lot)), .own (.lst (fs.map Ri)), c6, .val (.int (j : Nat)), c8], μ⟩ =
      .nx ⟨[.val (.int (w : Nat)), .val (.tup (lot.map Ri)), c2', .val (.lst ((ldI lot).map .int)), .val (.int (shF 1 lot)), .own (.lst ((fs ++ [lineOf w lot j]).map Ri)), c6', .val (.int (j : Nat)), c8'], μ⟩ := by
  have hs := shF_bd lot 1 1 L.bd (by decide)
  obtain ⟨c2', c6', e⟩ := ap_in (.val (.int (w : Nat))) (.val (.tup (lot.map Ri))) (.val (.lst ((ldI lot).map .int))) (.own (.lst (fs.map Ri))) μ hn hn2 (by omega) hz hs hj lot ((List.replicate w 0).set j (shF 1 lot)) c6 c2 (fun o ho => ⟨L.len o ho, L.bd o ho, L.ld o ho, (shF_dvd lot 1).2 o ho⟩) (by simp)
  refine ⟨c2', c6', .own (.lst ((lineOf w lot j).map .int)), ?_⟩
  unfold lineB
  rw [seq_nx (line1 hw), seq_nx (line2 (by simpa using hj))]
  rw [seq_nx (by
    rw [forZp (d := .lst ((ldI lot).map .int)) (e := .tup (lot.map Ri)) (xs := (ldI lot).map .int) (ys := lot.map Ri) (by simp) rfl rfl]
    exact e)]
  exact line4 (by omega)
def ifB : FS := (dIfS (dCmpT (gDat niG) (dVar 7) (dVar 3)) lineB dSkip)
theorem ifB_ok {w n : Nat} {lot fs : List (List Int)} {c2 c6 c8 : DL.Slot} {μ : List Cell} {j : Nat} (hw : w ≤ 60) (L : Lt w n lot) (hn : 0 < n) (hn2 : n ≤ 8900) (hz : n + (1 + lot.length * n) ≤ 50000) (hj : j < w) (hf : fs.length ≤ 60) :
    ∃ c2' c6' c8', ifB ⟨[.val (.int (w : Nat)), .val (.tup (lot.map Ri)), c2, .val (.lst ((ldI lot).map .int)), .val (.int (shF 1 lot)), .own (.lst (fs.map Ri)), c6, .val (.int (j : Nat)), c8], μ⟩ =
      .nx ⟨[.val (.int (w : Nat)), .val (.tup (lot.map Ri)), c2', .val (.lst ((ldI lot).map .int)), .val (.int (shF 1 lot)), .own (.lst ((fs ++ if (leads lot).contains j then [] else [lineOf w lot j]).map Ri)), c6', .val (.int (j : Nat)), c8'], μ⟩ := by
  have e1 : ∀ s : S, gDat niG s (.int (j : Nat)) (.lst ((ldI lot).map .int)) = some (.bl (!(leads lot).contains j)) := fun s => by rw [ni_ints, ldI_any]
  unfold ifB
  cases hc : (leads lot).contains j with
  | true =>
    rw [hc] at e1
    refine ⟨c2, c6, c8, ?_⟩
    simp [-List.map_map, e1]
  | false =>
    rw [hc] at e1
    obtain ⟨c2', c6', c8', e⟩ := lineB_ok (fs := fs) (c2 := c2) (c6 := c6) (c8 := c8) (μ := μ) hw L hn hn2 hz hj hf
    refine ⟨c2', c6', c8', ?_⟩
    simp only [ap_IfS, ap_CmpT, ap_Var, bind_ok, List.getElem?_cons_succ, List.getElem?_cons_zero, e1]
    exact e
def apFrom (w : Nat) (lot : List (List Int)) (k n : Nat) : List (List Int) := ((List.range' k n).filter fun j => !(leads lot).contains j).map (lineOf w lot)
theorem ap_out {w n : Nat} {lot : List (List Int)} {μ : List Cell} (hw : w ≤ 60) (L : Lt w n lot) (hn : 0 < n) (hn2 : n ≤ 8900) (hz : n + (1 + lot.length * n) ≤ 50000) : ∀ (m k : Nat) (fs : List (List Int)) (c2 c6 c7 c8 : DL.Slot), k + m ≤ w → fs.length ≤ k →
    ∃ c2' c6' c7' c8', dFor (gNm 7) ifB (rngD (k : Int) m) ⟨[.val (.int (w : Nat)), .val (.tup (lot.map Ri)), c2, .val (.lst ((ldI lot).map .int)), .val (.int (shF 1 lot)), .own (.lst (fs.map Ri)), c6, c7, c8], μ⟩ =
      .nx ⟨[.val (.int (w : Nat)), .val (.tup (lot.map Ri)), c2', .val (.lst ((ldI lot).map .int)), .val (.int (shF 1 lot)), .own (.lst ((fs ++ apFrom w lot k m).map Ri)), c6', c7', c8'], μ⟩
  | 0, k, fs, c2, c6, c7, c8, _, _ => ⟨c2, c6, c7, c8, by simp [rngD, dFor, apFrom]⟩
  | m + 1, k, fs, c2, c6, c7, c8, hk, hf => by
    obtain ⟨d2, d6, d8, e⟩ := ifB_ok (fs := fs) (c2 := c2) (c6 := c6) (c8 := c8) (μ := μ) (j := k) hw L hn hn2 hz (by omega) (by omega)
    have hf2 : (fs ++ if (leads lot).contains k then [] else [lineOf w lot k]).length ≤ k + 1 := by
      split <;> simp <;> omega
    obtain ⟨c2', c6', c7', c8', e2⟩ := ap_out (μ := μ) hw L hn hn2 hz m (k + 1) _ d2 d6 (.val (.int (k : Nat))) d8 (by omega) hf2
    refine ⟨c2', c6', c7', c8', ?_⟩
    have ek : ((k + 1 : Nat) : Int) = (k : Int) + 1 := by push_cast; rfl
    rw [ek] at e2
    rw [rngD_succ, dFor]
    simp only [ap_gNm, List.set_cons_succ, List.set_cons_zero]
    rw [e]
    simp only []
    rw [e2]
    congr 7
    rw [List.append_assoc]
    congr 1
    unfold apFrom
    rw [List.range'_succ, List.filter_cons]
    cases hc : (leads lot).contains k <;> simp
end K11

namespace K11
open PySem PySem.Spec PyProof.Rows L2 DL
theorem frz5 {f : FS} {s : S} {a0 a1 a2 a3 a4 a6 a7 a8 : DL.Slot} {xs : List D} {μ : List Cell} (h : f s = .nx ⟨[a0, a1, a2, a3, a4, .own (.lst xs), a6, a7, a8], μ⟩) : dFrzS 5 f s = .nx ⟨[a0, a1, a2, a3, a4, .val (.lst xs), a6, a7, a8], μ⟩ := by
  simp [dFrzS, h, frzAt, Cell.toD]
theorem aparts_from (w : Nat) (lot : List (List Int)) : apFrom w lot 0 w = aparts w lot := by
  unfold apFrom aparts
  rw [List.range_eq_range']
/-- what a lot must be for the rows apart from it to be found -/
structure ApOk (w n : Nat) (lot : List (List Int)) : Prop where
  lt : Lt w n lot
  w60 : w ≤ 60
  n0 : 0 < n
  n1 : n ≤ 8900
  z0 : n + (1 + lot.length * n) ≤ 40000
  z1 : BB (n + (1 + lot.length * n)) (w - lot.length) ≤ 8000
  z2 : n + (1 + lot.length * n) + (w - lot.length + 1) * (BB (n + (1 + lot.length * n)) (w - lot.length) + 1) ≤ 40000
def ApRes (w : Nat) (lot m' : List (List Int)) : Prop := (∃ n, n ≤ 8000 ∧ Lt w n m') ∧ ∀ x, Perp x m' ↔ Perp x (aparts w lot)
theorem ap_rows {w n : Nat} {lot : List (List Int)} (A : ApOk w n lot) : (∀ o ∈ aparts w lot, o.length = w ∧ Bd (n + (1 + lot.length * n)) o) ∧ ∀ l, l ≤ w → l ≤ (aparts w lot).length → l ≤ w - lot.length := by
  refine ⟨fun o ho => ?_, fun l h1 h2 => ?_⟩
  · obtain ⟨j, hj, rfl⟩ := List.mem_map.mp ho
    exact ⟨line_len _ _ _, line_bd A.lt j⟩
  · have := aparts_len A.lt; omega
theorem apart_in_ok {w n : Nat} {lot : List (List Int)} (A : ApOk w n lot) (μ : List Cell) : ∃ m', F_apart_in [.int (w : Nat), .tup (lot.map Ri)] μ = .ok (.tup (m'.map Ri)) μ ∧ ApRes w lot m' := by
  have L := A.lt
  have hw := A.w60
  have hle := L.le
  obtain ⟨h1, h2⟩ := ap_rows A
  obtain ⟨m', e1, L1, k1, p1⟩ := lot_in_ok (w := w) (r := n + (1 + lot.length * n)) (K := w - lot.length) hw (by have := A.n0; omega) h1 h2 A.z1 A.z2 (d := .lst ((aparts w lot).map Ri)) (.inr rfl) μ
  refine ⟨m', ?_, ⟨_, Nat.le_trans (BB_mono _ k1) A.z1, L1⟩, p1⟩
  have hs := shF_bd lot 1 1 L.bd (by decide)
  have hz : n + (1 + lot.length * n) ≤ 50000 := by have := A.z0; omega
  obtain ⟨c2, c6, e2⟩ := ap_share (.val (.int (w : Nat))) (.val (.tup (lot.map Ri))) (.val (.lst ((ldI lot).map .int))) (.own (.lst [])) .no .no μ A.n0 lot 1 1 .no .no (fun o ho => ⟨L.bd o ho, L.ld o ho⟩) (by decide) (by decide) (by rw [Nat.add_mul]; omega)
  obtain ⟨c2', c6', c7', c8', e3⟩ := ap_out (μ := μ) hw L A.n0 A.n1 hz w 0 [] c2 c6 .no .no (by omega) (by simp)
  rw [aparts_from, List.nil_append] at e3
  have t : b_apart_in ⟨[.val (.int (w : Nat)), .val (.tup (lot.map Ri)), .no, .no, .no, .no, .no, .no, .no], μ⟩ = .rt (.tup (m'.map Ri)) ⟨[.val (.int (w : Nat)), .val (.tup (lot.map Ri)), c2', .val (.lst ((ldI lot).map .int)), .val (.int (shF 1 lot)), .val (.lst ((aparts w lot).map Ri)), c6', c7', c8'], μ⟩ := by
    unfold b_apart_in
    rw [seq_nx (ap_par (by omega) L.ld)]
    rw [seq_nx (by
      rw [forZp (d := .lst ((ldI lot).map .int)) (e := .tup (lot.map Ri)) (xs := (ldI lot).map .int) (ys := lot.map Ri) (by simp) rfl rfl]
      exact e2)]
    rw [seq_nx (frz5 (by
      rw [forRng (w := w) (by simp) hw]
      exact e3))]
    exact ret_call (ds := [.lst ((aparts w lot).map Ri)]) (by simp) rfl e1 rfl
  exact runF_rt (n := 9) (ds := [.int (w : Nat), .tup (lot.map Ri)]) t
/-! the law's rows apart -/
theorem ldL_comp (a0 a1 c2 : DL.Slot) (n2 : ∀ x, c2 ≠ .own x) (μ : List Cell) : ∀ (lot : List (List Int)), (∀ o ∈ lot, o.length < 16777216) →
    dLcGo [2] (gNm 2) dYes (dCall F_L_lead (dCons (dVar 2) dNil)) (lot.map Ri) ⟨[a0, a1, c2, .no, .no, .no, .no, .no], μ⟩ = .ok ((ldI lot).map .int) ⟨[a0, a1, c2, .no, .no, .no, .no, .no], μ⟩
  | [], _ => rfl
  | o :: lot, h => by
    have ih := ldL_comp a0 a1 c2 n2 μ lot fun p hp => h p (by simp [hp])
    have e := L_lead_ok o (h o (by simp)) μ
    rw [ldI_cons]
    cases c2 with
    | own x => exact absurd rfl (n2 x)
    | no => simp [dLcGo, wipeD, backD, e, ih]
    | val x => simp [dLcGo, wipeD, backD, e, ih]
theorem apL_par {w : Int} {lot : List (List Int)} {μ : List Cell} (hl : lot.length ≤ 60) (h : ∀ o ∈ lot, o.length < 16777216) : dParM 3 4 (dMv (dFrz (dLc [2] (dIter (dVar 0)) (gNm 2) dYes (dCall F_L_lead (dCons (dVar 2) dNil)))) (dMc (dLst dNil) dMn)) ⟨[.val (.tup (lot.map Ri)), .val (.int w), .no, .no, .no, .no, .no, .no], μ⟩ =
    .nx ⟨[.val (.tup (lot.map Ri)), .val (.int w), .no, .val (.lst ((ldI lot).map .int)), .own (.lst []), .no, .no, .no], μ⟩ := by
  have e := ldL_comp (.val (.tup (lot.map Ri))) (.val (.int w)) .no (fun _ z => nomatch z) μ lot h
  have hl2 : lot.length ≤ 16777216 := by omega
  simp [dParM, dMv, dMc, dMn, slotOf, e, hl2, -List.map_map]
theorem apL_share (a0 a1 a3 a4 a5 a7 : DL.Slot) (μ : List Cell) {n : Nat} (hn : 0 < n) : ∀ (lot : List (List Int)) (s : Int) (k : Nat) (c2 : DL.Slot), (∀ o ∈ lot, Bd n o ∧ lead o ≠ none ∧ o.length < 16777216) → s.natAbs < 2 ^ k → 0 < k → k + (lot.length + 1) * n ≤ 50000 → ∃ c2', dFor (gNm 2) (dAsg 6 (dOp gMul (dVar 6) (dOp gIx (dVar 2) (dCall F_L_lead (dCons (dVar 2) dNil))))) (lot.map Ri) ⟨[a0, a1, c2, a3, a4, a5, .val (.int s), a7], μ⟩ =
    .nx ⟨[a0, a1, c2', a3, a4, a5, .val (.int (shF s lot)), a7], μ⟩
  | [], s, k, c2, _, _, _, _ => ⟨c2, rfl⟩
  | o :: lot, s, k, c2, hl, hs, hk, hz => by
    obtain ⟨h1, h2, h3⟩ := hl o (by simp)
    have e0 : k + (lot.length + 1 + 1) * n = k + n + (lot.length + 1) * n := by rw [Nat.add_mul (lot.length + 1)]; omega
    rw [List.length_cons, e0] at hz
    obtain ⟨c2', e⟩ := apL_share a0 a1 a3 a4 a5 a7 μ hn lot (s * at0 o (leadL o)) (k + n) (.val (Ri o)) (fun p hp => hl p (by simp [hp])) (abs_mul_lt hs (bd_at h1 _)) (by omega) hz
    refine ⟨c2', ?_⟩
    have e1 : ∀ s : S, gIx s (.tup (o.map .int)) (.int (leadL o : Nat)) = some (.int (at0 o (leadL o))) := fun s => ix_at (leadL_lt h2)
    have e2 := mul_sh (n := n) (k := k) (s := s) h1 hs hn hk (by omega)
    have e3 := L_lead_ok o h3 μ
    simp [dFor, e1, e3, mul_ii e2]
    exact e
def setL : FS := (dSetI gSetI (dOp gSub (dC (.int (0))) (dOp gMul (dOp gIx (dVar 2) (dVar 5)) (dOp gFdiv (dVar 6) (dOp gIx (dVar 2) (dCall F_L_lead (dCons (dVar 2) dNil)))))) (dVar 7) (dCall F_L_lead (dCons (dVar 2) dNil)))
theorem setL_ok {a0 a1 a3 a4 : DL.Slot} {o cur : List Int} {sh : Int} {j n k : Nat} {μ : List Cell} (hn : 0 < n) (hn2 : n ≤ 8900) (hk : 0 < k) (hnk : n + k ≤ 50000) (hb : Bd n o) (hl : lead o ≠ none) (ho : o.length < 16777216) (hs : sh.natAbs < 2 ^ k) (hd : at0 o (leadL o) ∣ sh) (hj : j < o.length) (hc : leadL o < cur.length) :
    setL ⟨[a0, a1, .val (Ri o), a3, a4, .val (.int j), .val (.int sh), .own (.lst (cur.map .int))], μ⟩ = .nx ⟨[a0, a1, .val (Ri o), a3, a4, .val (.int j), .val (.int sh), .own (.lst ((cur.set (leadL o) (0 - at0 o j * sh.fdiv (at0 o (leadL o)))).map .int))], μ⟩ := by
  have e1 : ∀ s : S, gIx s (.tup (o.map .int)) (.int (leadL o : Nat)) = some (.int (at0 o (leadL o))) := fun s => ix_at (leadL_lt hl)
  have e2 : ∀ s : S, gIx s (.tup (o.map .int)) (.int (j : Nat)) = some (.int (at0 o j)) := fun s => ix_at hj
  have h0 : at0 o (leadL o) ≠ 0 := by
    cases e : lead o with
    | none => exact absurd e hl
    | some i => rw [leadL_some e]; exact (lead_iff.mp e).1
  have f1 : fdivOk sh (at0 o (leadL o)) = true := fdivOk_of h0 (bd_at hb _) hn hn2
  have f2 : mulOk (at0 o j) (sh.fdiv (at0 o (leadL o))) = true := mulOk_of (bd_at hb _) (Nat.lt_of_le_of_lt (fdiv_abs2 hd h0) hs) hn hk hnk
  have e3 := L_lead_ok o ho μ
  have f3 := set_own (s := ⟨[a0, a1, .val (Ri o), a3, a4, .val (.int j), .val (.int sh), .own (.lst (cur.map .int))], μ⟩) (i := 7) (v := 0 - at0 o j * sh.fdiv (at0 o (leadL o))) rfl hc
  unfold setL dSetI
  simp only [ap_Op, ap_C, ap_Var, ap_Call, ap_Cons, ap_Nil, bind_ok, sub_ii, List.getElem?_cons_succ, List.getElem?_cons_zero, e1, e2, e3, fdiv_ii f1, mul_ii f2, no_int, no_tup, List.all_cons, List.all_nil, Bool.and_self, if_true]
  rw [f3]
  rfl
theorem apL_in (a0 a1 a3 a4 : DL.Slot) (μ : List Cell) {sh : Int} {j n k w : Nat} (hn : 0 < n) (hn2 : n ≤ 8900) (hk : 0 < k) (hnk : n + k ≤ 50000) (hs : sh.natAbs < 2 ^ k) (hj : j < w) (hw : w ≤ 60) : ∀ (lot : List (List Int)) (cur : List Int) (c2 : DL.Slot), (∀ o ∈ lot, o.length = w ∧ Bd n o ∧ lead o ≠ none ∧ at0 o (leadL o) ∣ sh) → cur.length = w →
    ∃ c2', dFor (gNm 2) setL (lot.map Ri) ⟨[a0, a1, c2, a3, a4, .val (.int j), .val (.int sh), .own (.lst (cur.map .int))], μ⟩ =
    .nx ⟨[a0, a1, c2', a3, a4, .val (.int j), .val (.int sh), .own (.lst ((putF sh j lot cur).map .int))], μ⟩
  | [], cur, c2, _, _ => ⟨c2, rfl⟩
  | o :: lot, cur, c2, hl, hc => by
    obtain ⟨h1, h2, h3, h4⟩ := hl o (by simp)
    have h5 := leadL_lt h3
    obtain ⟨c2', e⟩ := apL_in a0 a1 a3 a4 μ hn hn2 hk hnk hs hj hw lot (cur.set (leadL o) (0 - at0 o j * sh.fdiv (at0 o (leadL o)))) (.val (Ri o)) (fun p hp => hl p (by simp [hp])) (by simpa using hc)
    refine ⟨c2', ?_⟩
    have e1 := setL_ok (a0 := a0) (a1 := a1) (a3 := a3) (a4 := a4) (μ := μ) (cur := cur) hn hn2 hk hnk h2 h3 (by omega) hs h4 (show j < o.length by omega) (by omega)
    rw [List.map_cons, dFor]
    simp only [ap_gNm, List.set_cons_succ, List.set_cons_zero]
    rw [e1]
    exact e
theorem lineL1 {a0 a2 a3 a4 a5 a6 a7 : DL.Slot} {w : Nat} {μ : List Cell} (hw : w ≤ 60) : (dAsgO 7 (dRepF (dLst (dCons (dC (.int (0))) dNil)) (dVar 1))) ⟨[a0, .val (.int (w : Nat)), a2, a3, a4, a5, a6, a7], μ⟩ = .nx ⟨[a0, .val (.int (w : Nat)), a2, a3, a4, a5, a6, .own (.lst ((List.replicate w (0 : Int)).map .int))], μ⟩ := by
  have e : dVar 1 ⟨[a0, .val (.int (w : Nat)), a2, a3, a4, a5, a6, a7], μ⟩ = .ok (.int (w : Nat)) ⟨[a0, .val (.int (w : Nat)), a2, a3, a4, a5, a6, a7], μ⟩ := by simp
  have h := repF_ok (s := ⟨[a0, .val (.int (w : Nat)), a2, a3, a4, a5, a6, a7], μ⟩) lst0 e (repz w hw)
  rw [asgO_ok h]
  simp only [List.set_cons_succ, List.set_cons_zero]
theorem lineL2 {a0 a1 a2 a3 a4 : DL.Slot} {xs : List Int} {sh : Int} {j : Nat} {μ : List Cell} (hj : j < xs.length) : (dSetI gSetI (dVar 6) (dVar 7) (dVar 5)) ⟨[a0, a1, a2, a3, a4, .val (.int (j : Nat)), .val (.int sh), .own (.lst (xs.map .int))], μ⟩ = .nx ⟨[a0, a1, a2, a3, a4, .val (.int (j : Nat)), .val (.int sh), .own (.lst ((xs.set j sh).map .int))], μ⟩ := by
  have f3 := set_own (s := ⟨[a0, a1, a2, a3, a4, .val (.int (j : Nat)), .val (.int sh), .own (.lst (xs.map .int))], μ⟩) (i := 7) (v := sh) rfl hj
  unfold dSetI
  simp only [ap_Var, bind_ok, List.getElem?_cons_succ, List.getElem?_cons_zero, no_int, if_true]
  rw [f3]
  rfl
theorem lineL4 {a0 a1 a2 a3 a5 a6 : DL.Slot} {xs : List Int} {fs : List (List Int)} {μ : List Cell} (hf : fs.length < 16777216) : (dDrop (dM "list" gAppend (dVar 4) (dCons (dB gTuple (dCons (dVar 7) dNil)) dNil))) ⟨[a0, a1, a2, a3, .own (.lst (fs.map Ri)), a5, a6, .own (.lst (xs.map .int))], μ⟩ = .nx ⟨[a0, a1, a2, a3, .own (.lst ((fs ++ [xs]).map Ri)), a5, a6, .own (.lst (xs.map .int))], μ⟩ := by
  simp [-List.map_map, dM, tyD, cellAt, kitB, gAppend, mutAt, setAt, gTuple, asSeq, asL, hf]
def lineL : FS := (dSeq (dAsg 6 (dC (.int (1))))
    (dSeq (dForI (dIter (dVar 0)) (gNm 2) (dAsg 6 (dOp gMul (dVar 6) (dOp gIx (dVar 2) (dCall F_L_lead (dCons (dVar 2) dNil))))))
    (dSeq (dAsgO 7 (dRepF (dLst (dCons (dC (.int (0))) dNil)) (dVar 1)))
    (dSeq (dSetI gSetI (dVar 6) (dVar 7) (dVar 5))
    (dSeq (dForI (dIter (dVar 0)) (gNm 2) setL)
    (dDrop (dM "list" gAppend (dVar 4) (dCons (dB gTuple (dCons (dVar 7) dNil)) dNil))))))))
theorem lineL_ok {w n : Nat} {lot fs : List (List Int)} {c2 c6 c7 : DL.Slot} {a3 : DL.Slot} {μ : List Cell} {j : Nat} (hw : w ≤ 60) (L : Lt w n lot) (hn : 0 < n) (hn2 : n ≤ 8900) (hz : n + (1 + lot.length * n) ≤ 50000) (hj : j < w) (hf : fs.length ≤ 60) :
    ∃ c2' c6' c7', lineL ⟨[.val (.tup (lot.map Ri)), .val (.int (w : Nat)), c2, a3, .own (.lst (fs.map Ri)), .val (.int (j : Nat)), c6, c7], μ⟩ =
      .nx ⟨[.val (.tup (lot.map Ri)), .val (.int (w : Nat)), c2', a3, .own (.lst ((fs ++ [lineOf w lot j]).map Ri)), .val (.int (j : Nat)), c6', c7'], μ⟩ := by
  have hs := shF_bd lot 1 1 L.bd (by decide)
  obtain ⟨d2, e1⟩ := apL_share (.val (.tup (lot.map Ri))) (.val (.int (w : Nat))) a3 (.own (.lst (fs.map Ri))) (.val (.int (j : Nat))) c7 μ hn lot 1 1 c2 (fun o ho => ⟨L.bd o ho, L.ld o ho, by rw [L.len o ho]; omega⟩) (by decide) (by decide) (by rw [Nat.add_mul]; omega)
  obtain ⟨c2', e⟩ := apL_in (.val (.tup (lot.map Ri))) (.val (.int (w : Nat))) a3 (.own (.lst (fs.map Ri))) μ hn hn2 (by omega) hz hs hj hw lot ((List.replicate w 0).set j (shF 1 lot)) d2 (fun o ho => ⟨L.len o ho, L.bd o ho, L.ld o ho, (shF_dvd lot 1).2 o ho⟩) (by simp)
  refine ⟨c2', .val (.int (shF 1 lot)), .own (.lst ((lineOf w lot j).map .int)), ?_⟩
  unfold lineL
  have e0 : (dAsg 6 (dC (.int (1)))) ⟨[.val (.tup (lot.map Ri)), .val (.int (w : Nat)), c2, a3, .own (.lst (fs.map Ri)), .val (.int (j : Nat)), c6, c7], μ⟩ = .nx ⟨[.val (.tup (lot.map Ri)), .val (.int (w : Nat)), c2, a3, .own (.lst (fs.map Ri)), .val (.int (j : Nat)), .val (.int 1), c7], μ⟩ := by simp
  rw [seq_nx e0]
  rw [seq_nx (by
    rw [forIt (d := .tup (lot.map Ri)) (xs := lot.map Ri) (by simp) rfl]
    exact e1)]
  rw [seq_nx (lineL1 hw), seq_nx (lineL2 (by simpa using hj))]
  rw [seq_nx (by
    rw [forIt (d := .tup (lot.map Ri)) (xs := lot.map Ri) (by simp) rfl]
    exact e)]
  exact lineL4 (by omega)
def ifL : FS := (dIfS (dCmpT (gDat niG) (dVar 5) (dVar 3)) lineL dSkip)
theorem ifL_ok {w n : Nat} {lot fs : List (List Int)} {c2 c6 c7 : DL.Slot} {μ : List Cell} {j : Nat} (hw : w ≤ 60) (L : Lt w n lot) (hn : 0 < n) (hn2 : n ≤ 8900) (hz : n + (1 + lot.length * n) ≤ 50000) (hj : j < w) (hf : fs.length ≤ 60) :
    ∃ c2' c6' c7', ifL ⟨[.val (.tup (lot.map Ri)), .val (.int (w : Nat)), c2, .val (.lst ((ldI lot).map .int)), .own (.lst (fs.map Ri)), .val (.int (j : Nat)), c6, c7], μ⟩ =
      .nx ⟨[.val (.tup (lot.map Ri)), .val (.int (w : Nat)), c2', .val (.lst ((ldI lot).map .int)), .own (.lst ((fs ++ if (leads lot).contains j then [] else [lineOf w lot j]).map Ri)), .val (.int (j : Nat)), c6', c7'], μ⟩ := by
  have e1 : ∀ s : S, gDat niG s (.int (j : Nat)) (.lst ((ldI lot).map .int)) = some (.bl (!(leads lot).contains j)) := fun s => by rw [ni_ints, ldI_any]
  unfold ifL
  cases hc : (leads lot).contains j with
  | true =>
    rw [hc] at e1
    refine ⟨c2, c6, c7, ?_⟩
    simp [-List.map_map, e1]
  | false =>
    rw [hc] at e1
    obtain ⟨c2', c6', c7', e⟩ := lineL_ok (fs := fs) (c2 := c2) (c6 := c6) (c7 := c7) (a3 := .val (.lst ((ldI lot).map .int))) (μ := μ) hw L hn hn2 hz hj hf
    refine ⟨c2', c6', c7', ?_⟩
    simp only [ap_IfS, ap_CmpT, ap_Var, bind_ok, List.getElem?_cons_succ, List.getElem?_cons_zero, e1]
    exact e
theorem apL_out {w n : Nat} {lot : List (List Int)} {μ : List Cell} (hw : w ≤ 60) (L : Lt w n lot) (hn : 0 < n) (hn2 : n ≤ 8900) (hz : n + (1 + lot.length * n) ≤ 50000) : ∀ (m k : Nat) (fs : List (List Int)) (c2 c5 c6 c7 : DL.Slot), k + m ≤ w → fs.length ≤ k →
    ∃ c2' c5' c6' c7', dFor (gNm 5) ifL (rngD (k : Int) m) ⟨[.val (.tup (lot.map Ri)), .val (.int (w : Nat)), c2, .val (.lst ((ldI lot).map .int)), .own (.lst (fs.map Ri)), c5, c6, c7], μ⟩ =
      .nx ⟨[.val (.tup (lot.map Ri)), .val (.int (w : Nat)), c2', .val (.lst ((ldI lot).map .int)), .own (.lst ((fs ++ apFrom w lot k m).map Ri)), c5', c6', c7'], μ⟩
  | 0, k, fs, c2, c5, c6, c7, _, _ => ⟨c2, c5, c6, c7, by simp [rngD, dFor, apFrom]⟩
  | m + 1, k, fs, c2, c5, c6, c7, hk, hf => by
    obtain ⟨d2, d6, d7, e⟩ := ifL_ok (fs := fs) (c2 := c2) (c6 := c6) (c7 := c7) (μ := μ) (j := k) hw L hn hn2 hz (by omega) (by omega)
    have hf2 : (fs ++ if (leads lot).contains k then [] else [lineOf w lot k]).length ≤ k + 1 := by
      split <;> simp <;> omega
    obtain ⟨c2', c5', c6', c7', e2⟩ := apL_out (μ := μ) hw L hn hn2 hz m (k + 1) _ d2 (.val (.int (k : Nat))) d6 d7 (by omega) hf2
    refine ⟨c2', c5', c6', c7', ?_⟩
    have ek : ((k + 1 : Nat) : Int) = (k : Int) + 1 := by push_cast; rfl
    rw [ek] at e2
    rw [rngD_succ, dFor]
    simp only [ap_gNm, List.set_cons_succ, List.set_cons_zero]
    rw [e]
    simp only []
    rw [e2]
    congr 7
    rw [List.append_assoc]
    congr 1
    unfold apFrom
    rw [List.range'_succ, List.filter_cons]
    cases hc : (leads lot).contains k <;> simp
theorem frzL4 {f : FS} {s : S} {a0 a1 a2 a3 a5 a6 a7 : DL.Slot} {xs : List D} {μ : List Cell} (h : f s = .nx ⟨[a0, a1, a2, a3, .own (.lst xs), a5, a6, a7], μ⟩) : dFrzS 4 f s = .nx ⟨[a0, a1, a2, a3, .val (.lst xs), a5, a6, a7], μ⟩ := by
  simp [dFrzS, h, frzAt, Cell.toD]
theorem L_apart_ok {w n : Nat} {lot : List (List Int)} (A : ApOk w n lot) (μ : List Cell) : ∃ m', F_L_apart [.tup (lot.map Ri), .int (w : Nat)] μ = .ok (.tup (m'.map Ri)) μ ∧ ApRes w lot m' := by
  have L := A.lt
  have hw := A.w60
  have hle := L.le
  obtain ⟨h1, h2⟩ := ap_rows A
  obtain ⟨m', e1, L1, k1, p1⟩ := L_lot_ok (w := w) (r := n + (1 + lot.length * n)) (K := w - lot.length) hw (by have := A.n0; omega) h1 h2 A.z1 A.z2 (d := .lst ((aparts w lot).map Ri)) (.inr rfl) μ
  refine ⟨m', ?_, ⟨_, Nat.le_trans (BB_mono _ k1) A.z1, L1⟩, p1⟩
  have hz : n + (1 + lot.length * n) ≤ 50000 := by have := A.z0; omega
  obtain ⟨c2', c5', c6', c7', e3⟩ := apL_out (μ := μ) hw L A.n0 A.n1 hz w 0 [] .no .no .no .no (by omega) (by simp)
  rw [aparts_from, List.nil_append] at e3
  have t : b_L_apart ⟨[.val (.tup (lot.map Ri)), .val (.int (w : Nat)), .no, .no, .no, .no, .no, .no], μ⟩ = .rt (.tup (m'.map Ri)) ⟨[.val (.tup (lot.map Ri)), .val (.int (w : Nat)), c2', .val (.lst ((ldI lot).map .int)), .val (.lst ((aparts w lot).map Ri)), c5', c6', c7'], μ⟩ := by
    unfold b_L_apart
    rw [seq_nx (apL_par (by omega) (fun o ho => by rw [L.len o ho]; omega))]
    rw [seq_nx (frzL4 (by
      rw [forRng (w := w) (by simp) hw]
      exact e3))]
    exact ret_call (ds := [.lst ((aparts w lot).map Ri)]) (by simp) rfl e1 rfl
  exact runF_rt (n := 8) (ds := [.tup (lot.map Ri), .int (w : Nat)]) t
end K11

namespace K11
open PySem PySem.Spec PyProof.Rows L2 DL
/-! ### fewer equations than unknowns: a small solution, by counting -/
theorem inj_le {T U : Nat} {f : Nat → Nat} (h1 : ∀ n < T, f n < U) (h2 : ∀ n < T, ∀ m < T, f n = f m → n = m) : T ≤ U := by
  have h := nodup_le U ((List.range T).map f) (by
    unfold List.Nodup
    rw [List.pairwise_map]
    refine List.pairwise_lt_range.imp_of_mem fun {a b} ha hb hab e => ?_
    have := h2 a (List.mem_range.mp ha) b (List.mem_range.mp hb) e
    omega) (fun x hx => by
    obtain ⟨n, hn, rfl⟩ := List.mem_map.mp hx
    exact h1 n (List.mem_range.mp hn))
  simpa using h.1
theorem not_inj {T U : Nat} {f : Nat → Nat} (h : U < T) (h1 : ∀ n < T, f n < U) : ∃ n m, n < T ∧ m < T ∧ n ≠ m ∧ f n = f m :=
  Classical.byContradiction fun hc => by
    have := inj_le h1 (fun n hn m hm e => Classical.byContradiction fun ne => hc ⟨n, m, hn, hm, ne, e⟩)
    omega
def vecN (w Y : Nat) : List Nat → Nat → List Int
  | [], _ => List.replicate w 0
  | s :: S, n => (vecN w Y S (n / Y)).set s ((n % Y : Nat) : Int)
theorem vecN_len (w Y : Nat) : ∀ (S : List Nat) (n : Nat), (vecN w Y S n).length = w
  | [], n => by simp [vecN]
  | s :: S, n => by simp [vecN, vecN_len w Y S]
theorem vecN_out (w Y : Nat) : ∀ (S : List Nat) (n j : Nat), (∀ s ∈ S, s < w) → j ∉ S → at0 (vecN w Y S n) j = 0
  | [], n, j, _, _ => by rw [vecN, at0_rep]
  | s :: S, n, j, hS, hj => by
    rw [vecN, at0_set _ (by rw [vecN_len]; exact hS s (by simp)), if_neg (fun e => hj (by simp [e]))]
    exact vecN_out w Y S _ j (fun t ht => hS t (by simp [ht])) (fun h => hj (by simp [h]))
theorem vecN_inj {w Y : Nat} (hY : 0 < Y) : ∀ (S : List Nat) (n m : Nat), S.Nodup → (∀ s ∈ S, s < w) → n < Y ^ S.length → m < Y ^ S.length → (∀ j ∈ S, at0 (vecN w Y S n) j = at0 (vecN w Y S m) j) → n = m
  | [], n, m, _, _, hn, hm, _ => by simp at hn hm; omega
  | s :: S, n, m, nd, hS, hn, hm, h => by
    have nd' := List.nodup_cons.mp nd
    have hs : s < w := hS s (by simp)
    have hS' : ∀ t ∈ S, t < w := fun t ht => hS t (by simp [ht])
    have h0 := h s (by simp)
    rw [vecN, vecN, at0_set _ (by rw [vecN_len]; exact hs), at0_set _ (by rw [vecN_len]; exact hs), if_pos rfl, if_pos rfl] at h0
    have h0 : n % Y = m % Y := by exact_mod_cast h0
    rw [List.length_cons, Nat.pow_succ] at hn hm
    have h1 := vecN_inj hY S (n / Y) (m / Y) nd'.2 hS' (Nat.div_lt_of_lt_mul (by rw [Nat.mul_comm]; exact hn)) (Nat.div_lt_of_lt_mul (by rw [Nat.mul_comm]; exact hm)) (fun j hj => by
      have := h j (by simp [hj])
      have ne : j ≠ s := fun e => nd'.1 (e ▸ hj)
      rw [vecN, vecN, at0_set _ (by rw [vecN_len]; exact hs), at0_set _ (by rw [vecN_len]; exact hs), if_neg ne, if_neg ne] at this
      exact this)
    have h2 := Nat.div_add_mod n Y
    have h3 := Nat.div_add_mod m Y
    rw [h1, h0] at h2
    omega
theorem vecN_le (w Y : Nat) (hY : 0 < Y) : ∀ (S : List Nat) (n j : Nat), (∀ s ∈ S, s < w) → 0 ≤ at0 (vecN w Y S n) j ∧ at0 (vecN w Y S n) j < Y
  | [], n, j, _ => by rw [vecN, at0_rep]; omega
  | s :: S, n, j, hS => by
    rw [vecN, at0_set _ (by rw [vecN_len]; exact hS s (by simp))]
    split
    · have := Nat.mod_lt n hY; omega
    · exact vecN_le w Y hY S _ j (fun t ht => hS t (by simp [ht]))
theorem vecN_dt {w Y b : Nat} (hY : 0 < Y) {e : List Int} (he : Bd b e) : ∀ (S : List Nat) (n : Nat), S.Nodup → (∀ s ∈ S, s < w) → (dt (vecN w Y S n) e).natAbs ≤ S.length * (Y * 2 ^ b)
  | [], n, _, _ => by rw [vecN, dt_rep]; simp
  | s :: S, n, nd, hS => by
    have nd' := List.nodup_cons.mp nd
    have hs : s < w := hS s (by simp)
    have ih := vecN_dt hY he S (n / Y) nd'.2 (fun t ht => hS t (by simp [ht]))
    rw [vecN, dt_set _ (by rw [vecN_len]; exact hs), vecN_out w Y S _ s (fun t ht => hS t (by simp [ht])) nd'.1]
    have h1 : (((n % Y : Nat) : Int) * at0 e s).natAbs ≤ Y * 2 ^ b := by
      rw [Int.natAbs_mul]
      exact Nat.mul_le_mul (by have := Nat.mod_lt n hY; simp; omega) (Nat.le_of_lt (bd_at he s))
    rw [List.length_cons, Nat.add_mul, Nat.one_mul, Int.sub_zero]
    omega
/-- numbers in one -/
def codeN (Z : Nat) (f : List Int → Int) : List (List Int) → Nat
  | [] => 0
  | e :: es => (f e).toNat + Z * codeN Z f es
theorem codeN_lt {Z : Nat} (hZ : 0 < Z) {f : List Int → Int} : ∀ es : List (List Int), (∀ e ∈ es, 0 ≤ f e ∧ f e < Z) → codeN Z f es < Z ^ es.length
  | [], _ => by simp [codeN]
  | e :: es, h => by
    have ih := codeN_lt hZ es fun x hx => h x (by simp [hx])
    obtain ⟨h1, h2⟩ := h e (by simp)
    rw [codeN, List.length_cons, Nat.pow_succ]
    have h3 : Z * (codeN Z f es + 1) ≤ Z * Z ^ es.length := Nat.mul_le_mul_left _ ih
    rw [Nat.mul_add, Nat.mul_one] at h3
    rw [Nat.mul_comm (Z ^ es.length)]
    omega
theorem codeN_inj {Z : Nat} {f g : List Int → Int} : ∀ es : List (List Int), (∀ e ∈ es, 0 ≤ f e ∧ f e < Z) → (∀ e ∈ es, 0 ≤ g e ∧ g e < Z) → codeN Z f es = codeN Z g es → ∀ e ∈ es, f e = g e
  | [], _, _, _ => fun e he => by simp at he
  | e :: es, hf, hg, h => by
    obtain ⟨f1, f2⟩ := hf e (by simp)
    obtain ⟨g1, g2⟩ := hg e (by simp)
    rw [codeN, codeN] at h
    have hZ : 0 < Z := by omega
    have a : (f e).toNat < Z := by omega
    have b : (g e).toNat < Z := by omega
    have h1 : (f e).toNat = (g e).toNat := by
      have := congrArg (· % Z) h
      simp only [Nat.add_mul_mod_self_left, Nat.mod_eq_of_lt a, Nat.mod_eq_of_lt b] at this
      exact this
    have h2 : codeN Z f es = codeN Z g es := by
      rw [h1] at h
      exact Nat.eq_of_mul_eq_mul_left hZ (Nat.add_left_cancel h)
    intro x hx
    rcases List.mem_cons.mp hx with rfl | hx
    · omega
    · exact codeN_inj es (fun y hy => hf y (by simp [hy])) (fun y hy => hg y (by simp [hy])) h2 x hx
theorem siegel {w b s : Nat} {eqs : List (List Int)} {S : List Nat} (he : ∀ e ∈ eqs, e.length = w ∧ Bd b e) (nd : S.Nodup) (hS : ∀ j ∈ S, j < w) (hl : eqs.length < S.length) (hs : S.length ≤ 2 ^ s) :
    ∃ x : List Int, x.length = w ∧ (∀ j, j ∉ S → at0 x j = 0) ∧ Bd (eqs.length * (b + s + 2) + 1) x ∧ (∃ j ∈ S, at0 x j ≠ 0) ∧ ∀ e ∈ eqs, dt x e = 0 := by
  have hX : ∃ X, X = 2 ^ (eqs.length * (b + s + 2)) := ⟨_, rfl⟩
  obtain ⟨X, hX⟩ := hX
  have hX0 : 0 < X := by rw [hX]; exact Nat.two_pow_pos _
  have hY : 0 < X + 1 := by omega
  have hR : ∃ R, R = 2 ^ s * ((X + 1) * 2 ^ b) := ⟨_, rfl⟩
  obtain ⟨R, hR⟩ := hR
  have bd : ∀ n, ∀ e ∈ eqs, (dt (vecN w (X + 1) S n) e).natAbs ≤ R := fun n e hx => by
    refine Nat.le_trans (vecN_dt hY (he e hx).2 S n nd hS) ?_
    rw [hR]
    exact Nat.mul_le_mul_right _ hs
  have rng : ∀ n, ∀ e ∈ eqs, 0 ≤ dt (vecN w (X + 1) S n) e + R ∧ dt (vecN w (X + 1) S n) e + R < ((2 * R + 1 : Nat) : Int) := fun n e hx => by
    have := bd n e hx
    omega
  have key : (2 * R + 1) ^ eqs.length < (X + 1) ^ S.length := by
    have h1 : 2 * R + 1 ≤ (X + 1) * 2 ^ (b + s + 2) := by
      have e1 : 2 * R = (X + 1) * 2 ^ (b + s + 1) := by
        rw [hR, show b + s + 1 = 1 + (s + b) by omega, Nat.pow_add, Nat.pow_add, Nat.pow_one]
        generalize 2 ^ s = p
        generalize 2 ^ b = q
        rw [Nat.mul_left_comm (X + 1) 2, ← Nat.mul_assoc (X + 1) p q, Nat.mul_comm (X + 1) p, Nat.mul_assoc p]
      have e3 : (X + 1) * 2 ^ (b + s + 2) = 2 * ((X + 1) * 2 ^ (b + s + 1)) := by
        rw [show b + s + 2 = (b + s + 1) + 1 by omega, Nat.pow_succ, ← Nat.mul_assoc, Nat.mul_comm]
      have h4 : 1 ≤ (X + 1) * 2 ^ (b + s + 1) := Nat.mul_pos hY (Nat.two_pow_pos _)
      rw [e3, e1]
      generalize (X + 1) * 2 ^ (b + s + 1) = t at h4 ⊢
      omega
    have h2 : (2 * R + 1) ^ eqs.length ≤ (X + 1) ^ eqs.length * X := by
      refine Nat.le_trans (Nat.pow_le_pow_left h1 _) ?_
      rw [Nat.mul_pow, ← Nat.pow_mul, Nat.mul_comm (b + s + 2), ← hX]
      exact Nat.le_refl _
    have h3 : (X + 1) ^ eqs.length * X < (X + 1) ^ (eqs.length + 1) := by
      rw [Nat.pow_succ]
      exact Nat.mul_lt_mul_of_pos_left (by omega) (Nat.pow_pos hY)
    exact Nat.lt_of_le_of_lt h2 (Nat.lt_of_lt_of_le h3 (Nat.pow_le_pow_right hY hl))
  obtain ⟨n, m, hn, hm, ne, e⟩ := not_inj (f := fun n => codeN (2 * R + 1) (fun e => dt (vecN w (X + 1) S n) e + R) eqs) key (fun n _ => codeN_lt (by omega) eqs (rng n))
  have e2 := codeN_inj eqs (rng n) (rng m) e
  refine ⟨zw (fun a b => a - b) (vecN w (X + 1) S n) (vecN w (X + 1) S m), ?_, fun j hj => ?_, ?_, ?_, fun x hx => ?_⟩
  · rw [zw_len (by rw [vecN_len, vecN_len]), vecN_len]
  · rw [zw_at (by simp) (by rw [vecN_len, vecN_len]), vecN_out _ _ _ _ _ hS hj, vecN_out _ _ _ _ _ hS hj]; simp
  · intro z hz
    obtain ⟨i, hi, rfl⟩ := List.getElem_of_mem hz
    rw [← at0_lt hi, zw_at (by simp) (by rw [vecN_len, vecN_len]), Nat.pow_succ, ← hX]
    have h1 := vecN_le w (X + 1) hY S n i hS
    have h2 := vecN_le w (X + 1) hY S m i hS
    omega
  · refine Classical.byContradiction fun hc => ne (vecN_inj (w := w) hY S n m nd hS hn hm fun j hj => ?_)
    have : at0 (zw (fun a b => a - b) (vecN w (X + 1) S n) (vecN w (X + 1) S m)) j = 0 := Classical.byContradiction fun h => hc ⟨j, hj, h⟩
    rw [zw_at (by simp) (by rw [vecN_len, vecN_len])] at this
    omega
  · have h1 := dt_lin 1 1 (x := x) (z := zw (fun a b => a - b) (vecN w (X + 1) S n) (vecN w (X + 1) S m)) (r := vecN w (X + 1) S n) (o := vecN w (X + 1) S m) (by rw [zw_len (by rw [vecN_len, vecN_len])]) (by rw [vecN_len, vecN_len]) (fun j => by rw [zw_at (by simp) (by rw [vecN_len, vecN_len])]; omega)
    have h2 := e2 x hx
    rw [dt_comm, h1, dt_comm x, dt_comm x]
    omega
end K11

namespace K11
open PySem PySem.Spec PyProof.Rows L2 DL
/-! ### sizes of reduced rows, numbers of them -/
def col (rows : List (List Int)) (j : Nat) : List Int := rows.map fun r => at0 r j
theorem col_len (X : List (List Int)) (j : Nat) : (col X j).length = X.length := by simp [col]
def smF : List Int → List (List Int) → List Int → List Int
  | c :: cs, r :: rows, acc => smF cs rows (zw (· + ·) acc (r.map fun x => c * x))
  | _, _, acc => acc
theorem at0_map (c : Int) (xs : List Int) (j : Nat) : at0 (xs.map fun x => c * x) j = c * at0 xs j := by
  unfold at0
  by_cases h : j < xs.length
  · simp [List.getD, h]
  · simp [List.getD, h]
theorem smF_at {w : Nat} : ∀ {cs : List Int} {rows : List (List Int)} {acc : List Int} (j : Nat), (∀ o ∈ rows, o.length = w) → acc.length = w → at0 (smF cs rows acc) j = at0 acc j + dt cs (col rows j) ∧ (smF cs rows acc).length = w
  | [], rows, acc, j, _, h => ⟨by simp [smF], h⟩
  | c :: cs, [], acc, j, _, h => ⟨by simp [smF, col], h⟩
  | c :: cs, r :: rows, acc, j, hl, h => by
    have hr := hl r (by simp)
    have hlen : acc.length = (r.map fun x => c * x).length := by simp; omega
    obtain ⟨h1, h2⟩ := smF_at (cs := cs) (rows := rows) (acc := zw (· + ·) acc (r.map fun x => c * x)) j (fun p hp => hl p (by simp [hp])) (by rw [zw_len hlen]; exact h)
    refine ⟨?_, h2⟩
    rw [smF, h1, zw_at (by simp) hlen, at0_map]
    show _ = at0 acc j + dt (c :: cs) (at0 r j :: col rows j)
    rw [dt_cons]; omega
theorem ext_at0 {x y : List Int} (hl : x.length = y.length) (h : ∀ j < x.length, at0 x j = at0 y j) : x = y := by
  apply List.ext_getElem hl
  intro i h1 h2
  rw [← at0_lt h1, ← at0_lt h2]
  exact h i h1
def sm (w : Nat) (cs : List Int) (rows : List (List Int)) : List Int := smF cs rows (List.replicate w 0)
theorem sm_len {w : Nat} {cs : List Int} {rows : List (List Int)} (hl : ∀ o ∈ rows, o.length = w) : (sm w cs rows).length = w := (smF_at (w := w) 0 hl (by simp)).2
theorem dot_bd {n m : Nat} : ∀ {xs ys : List Int}, Bd n xs → Bd m ys → (zw (· * ·) xs ys).sum.natAbs ≤ xs.length * 2 ^ (n + m)
  | [], ys, _, _ => by simp [zw]
  | x :: xs, [], _, _ => by simp [zw]
  | x :: xs, y :: ys, h1, h2 => by
    have ih := dot_bd (xs := xs) (ys := ys) (fun z hz => h1 z (by simp [hz])) (fun z hz => h2 z (by simp [hz]))
    have a1 := h1 x (by simp)
    have a2 := h2 y (by simp)
    have a3 : (x * y).natAbs < 2 ^ (n + m) := by
      rw [Int.natAbs_mul, Nat.pow_add]
      exact Nat.mul_lt_mul'' a1 a2
    unfold zw at ih ⊢
    rw [List.zipWith_cons_cons, List.sum_cons, List.length_cons, Nat.add_mul, Nat.one_mul]
    have := Int.natAbs_add_le (x * y) (List.zipWith (· * ·) xs ys).sum
    omega
theorem gcdF_mul (c : Int) : ∀ (xs : List Int) (g : Nat), gcdF (c.natAbs * g) (xs.map fun x => c * x) = c.natAbs * gcdF g xs
  | [], g => rfl
  | x :: xs, g => by
    rw [List.map_cons, gcdF, gcdF, ← gcdF_mul c xs]
    congr 1
    show Nat.gcd ((c.natAbs * g : Nat) : Int).natAbs (c * x).natAbs = c.natAbs * Nat.gcd (g : Int).natAbs x.natAbs
    rw [Int.natAbs_mul, Int.natAbs_natCast, Int.natAbs_natCast, Nat.gcd_mul_left]
theorem gcdL_mul (c : Int) (xs : List Int) : gcdL (xs.map fun x => c * x) = c.natAbs * gcdL xs := gcdF_mul c xs 0
theorem pw_mem {α : Type} {R : α → α → Prop} (sy : ∀ a b, R a b → R b a) : ∀ {l : List α}, l.Pairwise R → ∀ a ∈ l, ∀ b ∈ l, a = b ∨ R a b
  | [], _ => fun a ha => by simp at ha
  | x :: l, h => fun a ha b hb => by
    have h' := List.pairwise_cons.mp h
    rcases List.mem_cons.mp ha with ea | ha
    · rcases List.mem_cons.mp hb with eb | hb
      · exact .inl (ea.trans eb.symm)
      · exact .inr (ea ▸ h'.1 b hb)
    · rcases List.mem_cons.mp hb with eb | hb
      · exact .inr (eb ▸ sy _ _ (h'.1 a ha))
      · exact pw_mem sy h'.2 a ha b hb
theorem Lt.off {w n : Nat} {lot : List (List Int)} (L : Lt w n lot) {o p : List Int} (ho : o ∈ lot) (hp : p ∈ lot) {i j : Nat} (hi : lead o = some i) (hj : lead p = some j) (ne : j ≠ i) : at0 o j = 0 := by
  rcases pw_mem (fun _ _ h => Apart.symm h) L.ap o ho p hp with rfl | h
  · rw [hi] at hj; cases hj; exact absurd rfl ne
  · exact h.2 j hj
theorem dt_single (i : Nat) : ∀ {x o : List Int}, (∀ j, j ≠ i → at0 x j * at0 o j = 0) → dt x o = at0 x i * at0 o i
  | [], o, _ => by simp
  | a :: x, [], _ => by simp
  | a :: x, b :: o, h => by
    cases i with
    | zero =>
      rw [dt_cons, at0_z, at0_z]
      have : dt x o = 0 := by
        have := dt_single x.length (x := x) (o := o) (fun j _ => by have := h (j + 1) (by omega); simpa using this)
        rw [this, at0_ge (Nat.le_refl _)]; simp
      omega
    | succ i =>
      rw [dt_cons, at0_s, at0_s, dt_single i (x := x) (o := o) (fun j hj => by have := h (j + 1) (by omega); simpa using this)]
      have := h 0 (by omega)
      simp only [at0_z] at this
      omega
theorem mem_leads {lot : List (List Int)} {j : Nat} (h : j ∈ leads lot) {w n : Nat} (L : Lt w n lot) : ∃ p ∈ lot, lead p = some j := by
  obtain ⟨p, hp, e⟩ := List.mem_map.mp h
  cases ep : lead p with
  | none => exact absurd ep (L.ld p hp)
  | some k => rw [leadL_some ep] at e; exact ⟨p, hp, by rw [ep, e]⟩
theorem rank_le {w n b : Nat} {lot B : List (List Int)} (L : Lt w n lot) (hB : ∀ o ∈ B, o.length = w ∧ Bd b o) (h : ∀ x, x.length = w → Perp x B → Perp x lot) : lot.length ≤ B.length := by
  refine Classical.byContradiction fun hc => ?_
  obtain ⟨x, h1, h2, _, ⟨j, hj, h3⟩, h4⟩ := siegel (w := w) (b := b) (s := lot.length) (eqs := B) (S := leads lot) hB L.nodup.1 L.nodup.2 (by simp [leads]; omega) (by simp [leads]; exact Nat.le_of_lt Nat.lt_two_pow_self)
  have hp := h x h1 h4
  obtain ⟨p, hp1, hp2⟩ := mem_leads hj L
  have e := dt_single j (x := x) (o := p) (fun k hk => by
    by_cases hkl : k ∈ leads lot
    · obtain ⟨q, hq1, hq2⟩ := mem_leads hkl L
      rw [L.off hp1 hq1 hp2 hq2 hk]; simp
    · rw [h2 k hkl]; simp)
  rw [hp p hp1] at e
  rcases Int.mul_eq_zero.mp e.symm with z | z
  · exact h3 z
  · exact (lead_iff.mp hp2).1 z
theorem dvd_gcdF {d : Nat} : ∀ (xs : List Int) (g : Nat), d ∣ g → (∀ x ∈ xs, (d : Int) ∣ x) → d ∣ gcdF g xs
  | [], g, h, _ => h
  | x :: xs, g, h, hx => dvd_gcdF xs _ (Nat.dvd_gcd (by simpa using h) (by
      have := hx x (by simp)
      exact Int.ofNat_dvd_left.mp this)) (fun y hy => hx y (by simp [hy]))
theorem dvd_gcdL {d : Nat} {xs : List Int} (h : ∀ x ∈ xs, (d : Int) ∣ x) : d ∣ gcdL xs := dvd_gcdF xs 0 (Nat.dvd_zero d) h
theorem low_prim {xs : List Int} (h : lead xs ≠ none) : gcdL (low xs) = 1 := by
  have h0 : gcdL xs ≠ 0 := fun z => h (gcdL_zero.mp z)
  have e : xs = (low xs).map fun x => sgn xs * x := by
    unfold low
    rw [if_neg h0, List.map_map]
    conv => lhs; rw [← List.map_id xs]
    exact List.map_congr_left fun x hx => (Int.mul_fdiv_cancel' (sgn_dvd hx)).symm
  have e2 := gcdL_mul (sgn xs) (low xs)
  rw [← e] at e2
  have e3 : (sgn xs).natAbs = gcdL xs := by unfold sgn; split <;> omega
  rw [e3] at e2
  exact Nat.eq_of_mul_eq_mul_left (Nat.pos_of_ne_zero h0) (by omega)
/-- what is 0 at the other leads, and held by the lot, is so many times the lot's row -/
theorem times_row {w n : Nat} {lot : List (List Int)} (L : Lt w n lot) {o : List Int} (ho : o ∈ lot) {i : Nat} (hi : lead o = some i) {v : List Int} (hv : v.length = w) (h0 : ∀ p ∈ lot, ∀ j, lead p = some j → j ≠ i → at0 v j = 0) (hs : ∀ x, x.length = w → Perp x lot → dt x v = 0) : ∀ j, at0 o i * at0 v j = at0 v i * at0 o j := by
  have hol := L.len o ho
  let u := zw (fun a b => at0 o i * a - at0 v i * b) v o
  have hul : u.length = w := by show (zw _ v o).length = w; rw [zw_len (by omega)]; exact hv
  have hu : ∀ j, at0 u j = at0 o i * at0 v j - at0 v i * at0 o j := fun j => zw_at (by simp) (by omega) j
  have hz : ∀ p ∈ lot, ∀ j, lead p = some j → at0 u j = 0 := fun p hp j hj => by
    rw [hu]
    by_cases e : j = i
    · subst e; rw [Int.mul_comm]; omega
    · rw [h0 p hp j hj e, L.off ho hp hi hj e]; simp
  intro j
  have key : at0 u j = 0 := by
    by_cases hj : j < w
    · by_cases hjl : j ∈ leads lot
      · obtain ⟨p, hp, e⟩ := mem_leads hjl L
        exact hz p hp j e
      · have hc : (leads lot).contains j = false := by
          cases h : (leads lot).contains j with
          | false => rfl
          | true => exact absurd (List.contains_iff_mem.mp h) hjl
        have e1 := line_at L hj hz
        have hp := line_perp L hj hc
        have e2 := dt_lin (at0 o i) (at0 v i) (x := lineOf w lot j) (z := u) (r := v) (o := o) (by omega) (by omega) hu
        rw [hs _ (line_len _ _ _) hp, hp o ho] at e2
        rw [e1] at e2
        have e3 : shF 1 lot * at0 u j = 0 := by rw [e2]; simp
        rcases Int.mul_eq_zero.mp e3 with z | z
        · exact absurd z (shF_ne lot 1 L.ld (by decide))
        · exact z
    · rw [at0_ge (by omega)]
  rw [hu] at key
  omega
theorem row_le {w n : Nat} {lot : List (List Int)} (L : Lt w n lot) {o : List Int} (ho : o ∈ lot) (hg : gcdL o = 1) {i : Nat} (hi : lead o = some i) {v : List Int} (hv : v.length = w) (h0 : ∀ p ∈ lot, ∀ j, lead p = some j → j ≠ i → at0 v j = 0) (hs : ∀ x, x.length = w → Perp x lot → dt x v = 0) (hne : ∃ j, at0 v j ≠ 0) {k : Nat} (hb : Bd k v) : Bd k o := by
  have ht := times_row L ho hi hv h0 hs
  have hL := (lead_iff.mp hi).1
  have hvi : at0 v i ≠ 0 := fun z => by
    obtain ⟨j, hj⟩ := hne
    have := ht j
    rw [z, Int.zero_mul] at this
    rcases Int.mul_eq_zero.mp this with z | z
    · exact hL z
    · exact hj z
  have hd : at0 o i ∣ at0 v i := by
    have h1 : ∀ x ∈ o.map (fun x => at0 v i * x), ((at0 o i).natAbs : Int) ∣ x := fun x hx => by
      obtain ⟨y, hy, rfl⟩ := List.mem_map.mp hx
      obtain ⟨j, hj, rfl⟩ := List.getElem_of_mem hy
      rw [← at0_lt hj, ← ht j, Int.natAbs_dvd]
      exact Int.dvd_mul_right _ _
    have h2 := dvd_gcdL h1
    rw [gcdL_mul, hg, Nat.mul_one] at h2
    exact Int.natAbs_dvd_natAbs.mp h2
  obtain ⟨q, hq⟩ := hd
  have hq0 : q ≠ 0 := fun z => hvi (by rw [hq, z]; simp)
  intro x hx
  obtain ⟨j, hj, rfl⟩ := List.getElem_of_mem hx
  have h3 := ht j
  rw [hq, Int.mul_assoc] at h3
  have h4 := Int.eq_of_mul_eq_mul_left hL h3
  have h5 := bd_at hb j
  rw [h4, Int.natAbs_mul, at0_lt hj] at h5
  have : 1 ≤ q.natAbs := by omega
  exact Nat.lt_of_le_of_lt (Nat.le_mul_of_pos_left _ this) h5
end K11

namespace K11
open PySem PySem.Spec PyProof.Rows L2 DL
theorem dt_smF {w : Nat} {x : List Int} : ∀ {cs : List Int} {rows : List (List Int)} {acc : List Int}, (∀ o ∈ rows, o.length = w) → acc.length = w → dt x (smF cs rows acc) = dt x acc + dt cs (rows.map fun r => dt x r)
  | [], rows, acc, _, _ => by simp [smF]
  | c :: cs, [], acc, _, _ => by simp [smF]
  | c :: cs, r :: rows, acc, hl, ha => by
    have hr := hl r (by simp)
    have hlen : acc.length = (r.map fun x => c * x).length := by simp; omega
    have ih := dt_smF (x := x) (cs := cs) (rows := rows) (acc := zw (· + ·) acc (r.map fun x => c * x)) (fun p hp => hl p (by simp [hp])) (by rw [zw_len hlen]; exact ha)
    have e := dt_lin 1 (-c) (x := x) (z := zw (· + ·) acc (r.map fun x => c * x)) (r := acc) (o := r) (by rw [zw_len hlen]) (by omega) (fun j => by rw [zw_at (by simp) hlen, at0_map, Int.neg_mul]; omega)
    rw [smF, ih, e, List.map_cons, dt_cons, Int.neg_mul]
    omega
theorem at0_mapI {α : Type} (f : α → Int) (xs : List α) (i : Nat) : at0 (xs.map f) i = match xs[i]? with | some x => f x | none => 0 := by
  unfold at0
  simp only [List.getD, List.getElem?_map]
  cases xs[i]? <;> rfl
/-- sizes: what so many rows of b bits span has reduced rows of so many bits -/
theorem lot_bd {w n b s : Nat} {lot B : List (List Int)} (L : Lt w n lot) (pr : ∀ o ∈ lot, gcdL o = 1) (hB : ∀ o ∈ B, o.length = w ∧ Bd b o) (hl : B.length = lot.length) (same : ∀ x, Perp x lot ↔ Perp x B) (hs : lot.length ≤ 2 ^ s) : Lt w (lot.length * (b + s + 2)) lot := by
  refine ⟨L.len, fun o ho => ?_, L.ld, L.ap⟩
  cases hi : lead o with
  | none => exact absurd hi (L.ld o ho)
  | some i =>
    have himem : i ∈ leads lot := List.mem_map.mpr ⟨o, ho, leadL_some hi⟩
    have hlen1 : ((leads lot).erase i).length = lot.length - 1 := by rw [List.length_erase_of_mem himem]; simp [leads]
    have hpos : 0 < lot.length := List.length_pos_of_mem ho
    obtain ⟨c, c1, c2, c3, ⟨p, hp, c4⟩, c5⟩ := siegel (w := lot.length) (b := b) (s := s) (eqs := ((leads lot).erase i).map fun j => col B j) (S := List.range lot.length) (fun e he => by
      obtain ⟨j, _, rfl⟩ := List.mem_map.mp he
      refine ⟨by rw [col_len, hl], fun z hz => ?_⟩
      obtain ⟨r, hr, rfl⟩ := List.mem_map.mp hz
      exact bd_at (hB r hr).2 j) List.nodup_range (fun j hj => List.mem_range.mp hj) (by rw [List.length_map, hlen1, List.length_range]; omega) (by rw [List.length_range]; exact hs)
    rw [List.length_map, hlen1] at c3
    have hBl : ∀ o ∈ B, o.length = w := fun o ho => (hB o ho).1
    have hvl : (sm w c B).length = w := sm_len hBl
    have hva : ∀ j, at0 (sm w c B) j = dt c (col B j) := fun j => by
      unfold sm
      rw [(smF_at (w := w) j hBl (by simp)).1, at0_rep]; omega
    have hvx : ∀ x, dt x (sm w c B) = dt c (B.map fun r => dt x r) := fun x => by
      unfold sm
      rw [dt_smF hBl (by simp), dt_comm x, dt_rep]; omega
    refine row_le L ho (pr o ho) hi hvl (fun q hq j hj ne => ?_) (fun x hx hpx => ?_) ?_ (v := sm w c B) ?_
    · rw [hva]
      have hjm : j ∈ (leads lot).erase i := (List.mem_erase_of_ne ne).mpr (List.mem_map.mpr ⟨q, hq, leadL_some hj⟩)
      have := c5 (col B j) (List.mem_map.mpr ⟨j, hjm, rfl⟩)
      exact this
    · rw [hvx]
      have hpb := (same x).mp hpx
      refine dt_zero fun j => ?_
      rw [at0_mapI]
      cases e : B[j]? with
      | none => rfl
      | some r => exact hpb r (List.mem_of_getElem? e)
    · refine Classical.byContradiction fun hc => ?_
      have hz : ∀ j, at0 (sm w c B) j = 0 := fun j => Classical.byContradiction fun h => hc ⟨j, h⟩
      have hpl : p < B.length := by rw [hl]; exact List.mem_range.mp hp
      have hr := rank_le (b := b) (B := B.eraseIdx p) L (fun o ho => hB o (List.mem_of_mem_eraseIdx ho)) (fun x hx hpx => by
        rw [same]
        have e0 : dt x (sm w c B) = 0 := dt_zero hz
        rw [hvx, dt_single p (x := c) (o := B.map fun r => dt x r) (fun j hj => by
          rw [at0_mapI]
          cases e : B[j]? with
          | none => simp
          | some r =>
            have : dt x r = 0 := hpx r (List.mem_eraseIdx_iff_getElem?.mpr ⟨j, hj, e⟩)
            simp [this]), at0_mapI] at e0
        rw [List.getElem?_eq_getElem hpl] at e0
        have e1 : dt x B[p] = 0 := by
          rcases Int.mul_eq_zero.mp e0 with z | z
          · exact absurd z c4
          · exact z
        intro r hr
        obtain ⟨j, hj, rfl⟩ := List.getElem_of_mem hr
        by_cases ej : j = p
        · subst ej; exact e1
        · exact hpx _ (List.mem_eraseIdx_iff_getElem?.mpr ⟨j, ej, List.getElem?_eq_getElem hj⟩))
      rw [List.length_eraseIdx_of_lt hpl] at hr
      omega
    · intro z hz
      obtain ⟨j, hj, rfl⟩ := List.getElem_of_mem hz
      rw [← at0_lt hj, hva]
      have h1 := dot_bd (n := (lot.length - 1) * (b + s + 2) + 1) (m := b) (xs := c) (ys := col B j) c3 (fun z hz => by
        obtain ⟨r, hr, rfl⟩ := List.mem_map.mp hz
        exact bd_at (hB r hr).2 j)
      have h1 : (dt c (col B j)).natAbs ≤ c.length * 2 ^ ((lot.length - 1) * (b + s + 2) + 1 + b) := h1
      rw [c1] at h1
      refine Nat.lt_of_le_of_lt h1 ?_
      have h2 : lot.length * 2 ^ ((lot.length - 1) * (b + s + 2) + 1 + b) ≤ 2 ^ (s + ((lot.length - 1) * (b + s + 2) + 1 + b)) := by
        rw [Nat.pow_add 2 s]; exact Nat.mul_le_mul_right _ hs
      refine Nat.lt_of_le_of_lt h2 (Nat.pow_lt_pow_right (by decide) ?_)
      obtain ⟨m, hm⟩ : ∃ m, lot.length = m + 1 := ⟨lot.length - 1, by omega⟩
      rw [hm, Nat.add_sub_cancel, Nat.add_mul m 1, Nat.one_mul]
      omega
/-! ### one lot for one span -/
/-- reduced: apart, lowest, the lead above 0, in order -/
structure Red (w : Nat) (lot : List (List Int)) : Prop where
  lt : ∃ n, Lt w n lot
  prim : ∀ o ∈ lot, gcdL o = 1
  pos : ∀ o ∈ lot, ∀ i, lead o = some i → 0 < at0 o i
  srt : (leads lot).Pairwise (· < ·)
theorem sorted_eq : ∀ {a b : List Nat}, a.Pairwise (· < ·) → b.Pairwise (· < ·) → (∀ x, x ∈ a ↔ x ∈ b) → a = b
  | [], [], _, _, _ => rfl
  | [], y :: b, _, _, h => absurd ((h y).mpr (by simp)) (by simp)
  | x :: a, [], _, _, h => absurd ((h x).mp (by simp)) (by simp)
  | x :: a, y :: b, ha, hb, h => by
    have ha' := List.pairwise_cons.mp ha
    have hb' := List.pairwise_cons.mp hb
    have hxy : x = y := by
      rcases List.mem_cons.mp ((h x).mp (by simp)) with e | e
      · exact e
      · rcases List.mem_cons.mp ((h y).mpr (by simp)) with e2 | e2
        · exact e2.symm
        · have := hb'.1 x e; have := ha'.1 y e2; omega
    subst hxy
    congr 1
    refine sorted_eq ha'.2 hb'.2 fun z => ?_
    have hz := h z
    simp only [List.mem_cons] at hz
    constructor
    · intro m
      rcases hz.mp (.inr m) with e | e
      · subst e; have := ha'.1 z m; omega
      · exact e
    · intro m
      rcases hz.mpr (.inr m) with e | e
      · subst e; have := hb'.1 z m; omega
      · exact e
/-- held: what is apart from the lot is apart from the row -/
def Held (w : Nat) (lot : List (List Int)) (v : List Int) : Prop := ∀ x, x.length = w → Perp x lot → dt x v = 0
theorem held_rest {w n : Nat} {lot : List (List Int)} (L : Lt w n lot) {v : List Int} (hv : v.length = w) : Held w lot v ↔ lead (rest lot v) = none := by
  constructor
  · intro h
    refine Classical.byContradiction fun hc => ?_
    obtain ⟨x, x1, x2⟩ := lines_full L hv hc
    obtain ⟨x3, x4⟩ := perp_lines L x1
    exact x2 (h x x3 x4)
  · intro h x hx hp
    obtain ⟨a, ha, e⟩ := rest_dt (fun o ho => ⟨L.len o ho, L.ld o ho⟩) hv
    have := e x hp
    rw [dt_zero (lead_none_at h)] at this
    rcases Int.mul_eq_zero.mp this.symm with z | z
    · exact absurd z ha
    · exact z
theorem putF_keep2 {w : Nat} {sh : Int} {j : Nat} {r : List Int} : ∀ {lot : List (List Int)} {cur : List Int}, (∀ o ∈ lot, o.length = w ∧ lead o ≠ none) → cur.length = w → lot.Pairwise Apart → (∀ o ∈ lot, ∀ i, lead o = some i → at0 cur i = 0) → (∀ o ∈ lot, at0 o j * at0 r (leadL o) = 0) → dt (putF sh j lot cur) r = dt cur r
  | [], cur, _, _, _, _, _ => rfl
  | o :: lot, cur, hl, hc, ha, h0, h1 => by
    have hp := List.pairwise_cons.mp ha
    cases e : lead o with
    | none => exact absurd e (hl o (by simp)).2
    | some i =>
      have hi : i < cur.length := by have := (lead_some e).1; have := (hl o (by simp)).1; omega
      rw [putF, leadL_some e, putF_keep2 (lot := lot) (fun p hp => hl p (by simp [hp])) (by simpa using hc) hp.2 (fun p hp2 k hk => ?_) (fun p hp => h1 p (by simp [hp])), dt_set _ hi, h0 o (by simp) i e]
      · have h2 := h1 o (by simp)
        rw [leadL_some e] at h2
        have : (0 - at0 o j * sh.fdiv (at0 o i) - 0) * at0 r i = - (at0 o j * at0 r i * sh.fdiv (at0 o i)) := by
          rw [Int.sub_zero, Int.zero_sub, Int.neg_mul, Int.mul_assoc, Int.mul_comm (sh.fdiv _), ← Int.mul_assoc]
        rw [this, h2]; simp
      · rw [at0_set _ hi, if_neg, h0 p (by simp [hp2]) k hk]
        rintro rfl
        exact (lead_iff.mp e).1 ((hp.1 p hp2).2 k hk)
/-- the first place of a held row that is not 0 is a lead -/
theorem held_lead {w n : Nat} {lot : List (List Int)} (L : Lt w n lot) {v : List Int} (hv : v.length = w) (h : Held w lot v) {i : Nat} (hi : lead v = some i) : i ∈ leads lot := by
  refine Classical.byContradiction fun hc => ?_
  have hiw : i < w := by have := (lead_some hi).1; omega
  have hcf : (leads lot).contains i = false := by
    cases e : (leads lot).contains i with
    | false => rfl
    | true => exact absurd (List.contains_iff_mem.mp e) hc
  have hp := line_perp L hiw hcf
  have e := h _ (line_len _ _ _) hp
  unfold lineOf at e
  rw [putF_keep2 (w := w) (fun o ho => ⟨L.len o ho, L.ld o ho⟩) (by simp) L.ap (fun o ho k hk => ?_) (fun o ho => ?_), dt_set _ (by simpa using hiw), dt_rep, at0_rep] at e
  · have e2 : shF 1 lot * at0 v i = 0 := by simpa using e
    rcases Int.mul_eq_zero.mp e2 with z | z
    · exact shF_ne lot 1 L.ld (by decide) z
    · exact (lead_iff.mp hi).1 z
  · rw [at0_set _ (by simpa using hiw), if_neg (fun e => by subst e; exact not_lead hcf ho hk), at0_rep]
  · cases eo : lead o with
    | none => exact absurd eo (L.ld o ho)
    | some k =>
      rw [leadL_some eo]
      rcases Nat.lt_trichotomy k i with hk | hk | hk
      · rw [(lead_iff.mp hi).2 k hk]; simp
      · subst hk; exact absurd eo (not_lead hcf ho)
      · rw [(lead_iff.mp eo).2 i hk]; simp
theorem held_same {w : Nat} {A B : List (List Int)} (h : ∀ x, x.length = w → (Perp x A ↔ Perp x B)) {v : List Int} (hv : Held w A v) : Held w B v := fun x hx hp => hv x hx ((h x hx).mpr hp)
theorem held_self {w : Nat} {A : List (List Int)} {o : List Int} (ho : o ∈ A) : Held w A o := fun x _ hp => hp o ho
theorem red_unique {w : Nat} {A B : List (List Int)} (a : Red w A) (b : Red w B) (h : ∀ x, x.length = w → (Perp x A ↔ Perp x B)) : A = B := by
  obtain ⟨na, LA⟩ := a.lt
  obtain ⟨nb, LB⟩ := b.lt
  have hl : leads A = leads B := sorted_eq a.srt b.srt fun i => by
    constructor
    · intro hi
      obtain ⟨o, ho, e⟩ := mem_leads hi LA
      exact held_lead LB (LA.len o ho) (held_same h (held_self ho)) e
    · intro hi
      obtain ⟨o, ho, e⟩ := mem_leads hi LB
      exact held_lead LA (LB.len o ho) (held_same (fun x hx => (h x hx).symm) (held_self ho)) e
  have hlen : A.length = B.length := by
    have := congrArg List.length hl
    simpa [leads] using this
  refine List.ext_getElem hlen fun k h1 h2 => ?_
  have ho : A[k] ∈ A := List.getElem_mem h1
  have hp : B[k] ∈ B := List.getElem_mem h2
  have e1 : leadL A[k] = leadL B[k] := by
    have : (leads A)[k]'(by simpa [leads] using h1) = (leads B)[k]'(by simpa [leads] using h2) := by simp only [hl]
    simpa [leads] using this
  generalize A[k] = o at ho e1 ⊢
  generalize B[k] = p at hp e1 ⊢
  cases eo : lead o with
  | none => exact absurd eo (LA.ld o ho)
  | some i =>
    cases ep : lead p with
    | none => exact absurd ep (LB.ld p hp)
    | some i' =>
      rw [leadL_some eo, leadL_some ep] at e1
      subst e1
      have ol := LA.len o ho
      have pl := LB.len p hp
      have ht := times_row LB hp ep ol (fun q hq j hj ne => by
        have hj2 : j ∈ leads A := by rw [hl]; exact List.mem_map.mpr ⟨q, hq, leadL_some hj⟩
        obtain ⟨q', hq', e'⟩ := mem_leads hj2 LA
        exact LA.off ho hq' eo e' ne) (held_same h (held_self ho))
      have hm : (o.map fun x => at0 p i * x) = p.map fun x => at0 o i * x := ext_at0 (by simp; omega) fun j hj => by
        rw [at0_map, at0_map]; exact ht j
      have hg := congrArg gcdL hm
      rw [gcdL_mul, gcdL_mul, a.prim o ho, b.prim p hp, Nat.mul_one, Nat.mul_one] at hg
      have p1 := a.pos o ho i eo
      have p2 := b.pos p hp i ep
      have e2 : at0 p i = at0 o i := by omega
      refine ext_at0 (by omega) fun j hj => ?_
      have := ht j
      rw [e2] at this
      exact Int.eq_of_mul_eq_mul_left (by omega) this
end K11

namespace K11
open PySem PySem.Spec PyProof.Rows L2 DL
/-! ### what is sorted by leads -/
theorem perm_map {α β : Type} (f : α → β) (g : β → α) (h : ∀ a, g (f a) = a) {m : List α} {L : List β} (p : L.Perm (m.map f)) : ∃ m' : List α, L = m'.map f ∧ m'.Perm m := by
  refine ⟨L.map g, ?_, ?_⟩
  · rw [List.map_map]
    have : ∀ b ∈ L, (f ∘ g) b = b := fun b hb => by
      obtain ⟨a, _, rfl⟩ := List.mem_map.mp (p.mem_iff.mp hb)
      show f (g (f a)) = f a
      rw [h]
    rw [List.map_congr_left this]
    simp
  · have := p.map g
    rw [List.map_map] at this
    have e : (g ∘ f) = id := funext h
    rwa [e, List.map_id] at this
theorem keys_eq (μ : List Cell) : ∀ m : List (List Int), (∀ r ∈ m, lead r ≠ none) → keysI F_lead_in (m.map Ri) μ = some (m.map fun r => (leadL r : Int), μ)
  | [], _ => rfl
  | r :: m, h => by
    have ih := keys_eq μ m fun q hq => h q (by simp [hq])
    have e := lead_in_ok r μ
    rw [optD_leadL (h r (by simp))] at e
    simp only [List.map_cons, keysI, e, ih]
    rfl
theorem zip_map2 (m : List (List Int)) : (m.map fun r => (leadL r : Int)).zip (m.map Ri) = m.map fun r => ((leadL r : Int), Ri r) := by
  induction m with
  | nil => rfl
  | cons r m ih => simp only [List.map_cons, List.zip_cons_cons, ih]
/-- sorted by key = lead_in -/
theorem sort_key (M : List (List Int)) : ∃ m' : List (List Int), ((((M.map fun r => (leadL r : Int)).zip (M.map Ri)).mergeSort fun p q => decide (p.1 ≤ q.1)).map (·.2)) = m'.map Ri ∧ m'.Perm M ∧ (leads m').Pairwise (· ≤ ·) := by
  rw [zip_map2]
  obtain ⟨m', h1, h2⟩ := perm_map (fun r => ((leadL r : Int), Ri r)) (fun p => unRi p.2) (fun r => unRi_ri r) (List.mergeSort_perm (M.map fun r => ((leadL r : Int), Ri r)) fun p q => decide (p.1 ≤ q.1))
  refine ⟨m', by rw [h1, List.map_map]; rfl, h2, ?_⟩
  have hs := List.pairwise_mergeSort (le := fun p q : Int × D => decide (p.1 ≤ q.1)) (fun a b c h1 h2 => by simp only [decide_eq_true_eq] at *; omega) (fun a b => by simp only [Bool.or_eq_true, decide_eq_true_eq]; omega) (M.map fun r => ((leadL r : Int), Ri r))
  rw [h1, List.pairwise_map] at hs
  unfold leads
  rw [List.pairwise_map]
  refine hs.imp fun {a b} h => ?_
  have h2 : (leadL a : Int) ≤ (leadL b : Int) := of_decide_eq_true h
  omega
/-! pairs of leads and rows -/
theorem lex_le_trans {a b c : PyData} (h1 : PySem.W.dataLt b a = false) (h2 : PySem.W.dataLt c b = false) : PySem.W.dataLt c a = false := by
  cases h : PySem.W.dataLt c a with
  | false => rfl
  | true =>
    rcases PyProof.Rows.lex_negTrans _ _ _ h with z | z
    · unfold PySem.W.dataLt at h2; rw [z] at h2; exact absurd h2 (by simp)
    · unfold PySem.W.dataLt at h1; rw [z] at h1; exact absurd h1 (by simp)
theorem lex_le_total (a b : PyData) : (!PySem.W.dataLt b a || !PySem.W.dataLt a b) = true := by
  cases h1 : PySem.W.dataLt b a with
  | false => rfl
  | true =>
    cases h2 : PySem.W.dataLt a b with
    | false => rfl
    | true =>
      have := PyProof.Rows.lex_trans _ _ _ h1 h2
      rw [PyProof.Rows.lex_irrefl] at this
      cases this
theorem pr_le {k k' : Int} {r r' : List Int} (h : PySem.W.dataLe false DL.encD (Pr k r) (Pr k' r') = true) : k ≤ k' := by
  have e : ∀ (k : Int) (r : List Int), DL.encD (Pr k r) = .tuple [.int k, .tuple (r.map .int)] := fun k r => by
    simp [DL.encD, toPy, toPyL, py_ints]
  have h2 : (!PySem.W.dataLt (DL.encD (Pr k' r')) (DL.encD (Pr k r))) = true := h
  rw [e, e, PySem.W.dataLt_pair (by simp [PySem.W.alike]) (by simp [PySem.W.alike, alike_ints]), PySem.W.dataLt_int] at h2
  by_cases hk : k' < k
  · rw [if_neg (by simp [PyData.eqv]; omega), decide_eq_true hk] at h2
    cases h2
  · omega
theorem sorted_prs2 (s : S) (ps : List (Int × List Int)) (hl : ps.length ≤ 16777216) : ∃ qs : List (Int × List Int), qs.Perm ps ∧ gSorted s [.lst (ps.map fun p => Pr p.1 p.2)] = some (.lst (qs.map fun p => Pr p.1 p.2)) ∧ qs.Pairwise fun p q => p.1 ≤ q.1 := by
  obtain ⟨qs, h1, h2⟩ := perm_map (fun p : Int × List Int => Pr p.1 p.2) (fun d => match d with | .tup [.int k, r] => (k, unRi r) | _ => (0, [])) (fun p => by show (p.1, unRi (Ri p.2)) = p; rw [unRi_ri]) (List.mergeSort_perm (ps.map fun p => Pr p.1 p.2) (PySem.W.dataLe false DL.encD))
  refine ⟨qs, h2, ?_, ?_⟩
  · simp only [gSorted, asl_lst, Option.bind_some, py_prs, sortOk_prs, List.length_map, hl, decide_true, Bool.true_and, if_true, h1]
  · have hs := List.pairwise_mergeSort (le := PySem.W.dataLe false DL.encD) (fun a b c h1 h2 => by
        have g1 : (!PySem.W.dataLt (DL.encD b) (DL.encD a)) = true := h1
        have g2 : (!PySem.W.dataLt (DL.encD c) (DL.encD b)) = true := h2
        show (!PySem.W.dataLt (DL.encD c) (DL.encD a)) = true
        rw [lex_le_trans (by simpa using g1) (by simpa using g2)]; rfl) (fun a b => lex_le_total (DL.encD a) (DL.encD b)) (ps.map fun p => Pr p.1 p.2)
    rw [h1, List.pairwise_map] at hs
    exact hs.imp fun {a b} h => pr_le h
end K11

namespace K11
open PySem PySem.Spec PyProof.Rows L2 DL
/-! ### lots of known size -/
/-- reduced, and spanned by as many rows of b bits -/
structure Good (w b : Nat) (lot : List (List Int)) : Prop where
  red : Red w lot
  bas : ∃ B : List (List Int), B.length = lot.length ∧ (∀ o ∈ B, o.length = w ∧ Bd b o) ∧ ∀ x, Perp x lot ↔ Perp x B
def sz (b s l : Nat) : Nat := l * (b + s + 2) + 1
theorem Good.le {w b : Nat} {lot : List (List Int)} (g : Good w b lot) : lot.length ≤ w := by
  obtain ⟨n, L⟩ := g.red.lt
  exact L.le
theorem Good.sz {w b s : Nat} {lot : List (List Int)} (g : Good w b lot) (hs : w ≤ 2 ^ s) : Lt w (sz b s lot.length) lot := by
  obtain ⟨n, L⟩ := g.red.lt
  obtain ⟨B, b1, b2, b3⟩ := g.bas
  exact (lot_bd L g.red.prim b2 b1 b3 (Nat.le_trans L.le hs)).mono (Nat.le_succ _)
theorem Good.nil (w b : Nat) : Good w b [] := ⟨⟨⟨1, by simp, by simp, by simp, .nil⟩, by simp, by simp, .nil⟩, [], rfl, by simp, fun x => Iff.rfl⟩
/-- the new rows, before they are sorted -/
def newM (lot : List (List Int)) (row : List Int) : List (List Int) := lot.map (fun o => low (less o (low (rest lot row)))) ++ [low (rest lot row)]
theorem newM_lt {w n r : Nat} {lot : List (List Int)} {row : List Int} (L : Lt w n lot) (hr : row.length = w) (hb : Bd r row) (h : lead (rest lot row) ≠ none) : ∃ k, Lt w k (newM lot row) := by
  cases e : lead (rest lot row) with
  | none => exact absurd e h
  | some j =>
    have rl : (low (rest lot row)).length = w := by rw [low_len]; exact rest_len L.len hr
    exact ⟨_, lt_with L rl (low_bd (rest_bd L.bd hb)) (by rw [lead_low]; exact e) fun o ho i hi => (low_at i).mpr (rest_zero L.len hr L.ap o ho i hi)⟩
theorem newM_prim {w k : Nat} {lot : List (List Int)} {row : List Int} (L : Lt w k (newM lot row)) : ∀ o ∈ newM lot row, gcdL o = 1 ∧ ∀ i, lead o = some i → 0 < at0 o i := fun o ho => by
  have hl := L.ld o ho
  have : ∃ y, o = low y := by
    rcases List.mem_append.mp ho with h | h
    · obtain ⟨p, _, rfl⟩ := List.mem_map.mp h; exact ⟨_, rfl⟩
    · exact ⟨_, List.mem_singleton.mp h⟩
  obtain ⟨y, rfl⟩ := this
  rw [lead_low] at hl
  refine ⟨low_prim hl, fun i hi => ?_⟩
  rw [lead_low] at hi
  exact low_pos hi
theorem newM_perp {w n : Nat} {lot : List (List Int)} {row : List Int} (L : Lt w n lot) (hr : row.length = w) (h : lead (rest lot row) ≠ none) (x : List Int) : Perp x (newM lot row) ↔ Perp x lot ∧ dt x row = 0 := by
  cases e : lead (rest lot row) with
  | none => exact absurd e h
  | some j => exact wr_perp (fun o ho => ⟨L.len o ho, L.ld o ho⟩) hr (.inr ⟨j, by rw [lead_low]; exact e, List.Perm.refl _⟩) x
theorem bas_add {b w : Nat} {lot B : List (List Int)} {row : List Int} {m : List (List Int)} (b1 : B.length = lot.length) (b2 : ∀ o ∈ B, o.length = w ∧ Bd b o) (b3 : ∀ x, Perp x lot ↔ Perp x B) (hr : row.length = w) (hb : Bd b row) (hm : m.length = lot.length + 1) (hp : ∀ x, Perp x m ↔ Perp x lot ∧ dt x row = 0) :
    (B ++ [row]).length = m.length ∧ (∀ o ∈ B ++ [row], o.length = w ∧ Bd b o) ∧ ∀ x, Perp x m ↔ Perp x (B ++ [row]) := by
  refine ⟨by simp; omega, fun o ho => ?_, fun x => ?_⟩
  · rcases List.mem_append.mp ho with h | h
    · exact b2 o h
    · rw [List.mem_singleton.mp h]; exact ⟨hr, hb⟩
  · rw [hp x, b3 x]
    constructor
    · rintro ⟨h1, h2⟩ r hr
      rcases List.mem_append.mp hr with h | h
      · exact h1 r h
      · rw [List.mem_singleton.mp h]; exact h2
    · intro h
      exact ⟨fun r hr => h r (by simp [hr]), h row (by simp)⟩
/-- the new rows are small -/
theorem newM_sz {w b s : Nat} {lot : List (List Int)} {row : List Int} (g : Good w b lot) (hs : w ≤ 2 ^ s) (hr : row.length = w) (hb : Bd b row) (h : lead (rest lot row) ≠ none) : Lt w (sz b s (lot.length + 1)) (newM lot row) := by
  have L := g.sz hs
  obtain ⟨k, LM⟩ := newM_lt L hr hb h
  obtain ⟨B, b1, b2, b3⟩ := g.bas
  have hl : (newM lot row).length = lot.length + 1 := by simp [newM]
  obtain ⟨c1, c2, c3⟩ := bas_add b1 b2 b3 hr hb hl (newM_perp L hr h)
  have := (lot_bd (s := s) LM (fun o ho => (newM_prim LM o ho).1) c2 c1 c3 (Nat.le_trans LM.le hs)).mono (Nat.le_succ _)
  rw [hl] at this
  exact this
theorem good_new {w b s : Nat} {lot m : List (List Int)} {row : List Int} (g : Good w b lot) (hs : w ≤ 2 ^ s) (hr : row.length = w) (hb : Bd b row) (h : lead (rest lot row) ≠ none) (hm : m.Perm (newM lot row)) (so : (leads m).Pairwise (· ≤ ·)) : Good w b m ∧ m.length = lot.length + 1 ∧ ∀ x, Perp x m ↔ Perp x lot ∧ dt x row = 0 := by
  have L := g.sz hs
  obtain ⟨k, LM⟩ := newM_lt L hr hb h
  have Lm := LM.perm hm
  have hp : ∀ x, Perp x m ↔ Perp x lot ∧ dt x row = 0 := fun x => by
    rw [← newM_perp L hr h x]
    exact ⟨fun q r hr => q r (hm.mem_iff.mpr hr), fun q r hr => q r (hm.mem_iff.mp hr)⟩
  have hl : m.length = lot.length + 1 := by rw [hm.length_eq]; simp [newM]
  obtain ⟨B, b1, b2, b3⟩ := g.bas
  refine ⟨⟨⟨⟨k, Lm⟩, fun o ho => (newM_prim LM o (hm.mem_iff.mp ho)).1, fun o ho => (newM_prim LM o (hm.mem_iff.mp ho)).2, ?_⟩, B ++ [row], bas_add b1 b2 b3 hr hb hl hp⟩, hl, hp⟩
  have nd := Lm.nodup.1
  unfold List.Nodup at nd
  exact (so.and nd).imp fun {a b} ⟨h1, h2⟩ => by omega
theorem good_old {w b s : Nat} {lot : List (List Int)} {row : List Int} (g : Good w b lot) (hs : w ≤ 2 ^ s) (hr : row.length = w) (h : lead (rest lot row) = none) (x : List Int) : Perp x lot ↔ Perp x lot ∧ dt x row = 0 :=
  wr_perp (fun o ho => ⟨(g.sz hs).len o ho, (g.sz hs).ld o ho⟩) hr (.inl ⟨by rw [lead_low]; exact h, rfl⟩) x
/-- what must hold of the sizes when a row is added to l rows -/
def CanAdd (b s l : Nat) : Prop := b + l * (sz b s l + 1) ≤ 8900 ∧ sz b s l + sz b s (l + 1) + 1 ≤ 8900
theorem with_comp2 (μ : List Cell) (a b d : DL.Slot) {w n r : Nat} (hw : w ≤ 16777216) (hn : 0 < n) (hr0 : 0 < r) (hz : n + r + 1 ≤ 8900) {left : List Int} (hl : left.length = w) (hb : Bd r left) {j : Nat} (hj : lead left = some j) : ∀ lot : List (List Int), (∀ o ∈ lot, o.length = w ∧ Bd n o) →
    dLcGo [4] (gNm 4) dYes (dCall F_lowest_row (dCons (dCall F_less_by (dCons (dVar 4) (dCons (dVar 2) dNil))) dNil)) (lot.map Ri) ⟨[a, b, .val (Ri left), d, .no], μ⟩ = .ok ((lot.map fun o => low (less o left)).map Ri) ⟨[a, b, .val (Ri left), d, .no], μ⟩
  | [], _ => rfl
  | o :: lot, h => by
    obtain ⟨h1, h2⟩ := h o (by simp)
    have ih := with_comp2 μ a b d hw hn hr0 hz hl hb hj lot fun q hq => h q (by simp [hq])
    have e1 := less_by_ok (row := o) (other := left) (by omega) (by omega) hj hn hr0 (by omega) h2 hb μ
    have e2 := lowest_row_ok (xs := less o left) ((less_bd h2 hb).mono (by omega)) (by rw [less_len (by omega)]; omega) μ
    simp only [List.map_map] at ih
    simp [dLcGo, wipeD, backD, e1, e2, ih]
theorem with_row2 {w b s : Nat} {lot : List (List Int)} {row : List Int} (hw : w ≤ 60) (hs : w ≤ 2 ^ s) (hb0 : 0 < b) (g : Good w b lot) (hr : row.length = w) (hb : Bd b row) (hc : lot.length < w → CanAdd b s lot.length) (hz2 : b + (lot.length + 1) * (sz b s lot.length + 1) ≤ 40000) (μ : List Cell) :
    ∃ m, F_with_row [.tup (lot.map Ri), Ri row] μ = .ok (.tup (m.map Ri)) μ ∧ Good w b m ∧ m.length ≤ lot.length + 1 ∧ ∀ x, Perp x m ↔ Perp x lot ∧ dt x row = 0 := by
  have L := g.sz hs
  have hk := L.le
  have hn : 0 < sz b s lot.length := Nat.succ_pos _
  have e1 := rest_by_ok (w := w) (n := sz b s lot.length) (r := b) (by omega) hn (lot := lot) (row := row) (fun o ho => ⟨L.len o ho, L.bd o ho, L.ld o ho⟩) hr hb hb0 hz2 μ
  have rl := rest_len (lot := lot) (row := row) L.len hr
  cases er : lead (rest lot row) with
  | none =>
    have e2 := lowest_row_ok (bd_none er 8900) (by omega) μ
    have ej : lead (low (rest lot row)) = none := by rw [lead_low, er]
    refine ⟨lot, ?_, g, Nat.le_succ _, good_old g hs hr er⟩
    simp [F_with_row, b_with_row, runF, e1, e2, lead_in_ok, ej, optD, isN, -List.map_map]
  | some j =>
    have hne : lead (rest lot row) ≠ none := by rw [er]; exact fun z => nomatch z
    have hlt : lot.length < w := by
      rcases Nat.lt_or_ge lot.length w with z | z
      · exact z
      · exact absurd (L.full (Nat.le_antisymm hk z) hr) hne
    obtain ⟨hc1, hc2⟩ := hc hlt
    have rb : Bd (b + lot.length * (sz b s lot.length + 1)) (rest lot row) := rest_bd L.bd hb
    have e2 := lowest_row_ok (rb.mono hc1) (by omega) μ
    have LM := newM_sz g hs hr hb hne
    have lb : Bd (sz b s (lot.length + 1)) (low (rest lot row)) := LM.bd _ (by simp [newM])
    have ej : lead (low (rest lot row)) = some j := by rw [lead_low, er]
    have ll : (low (rest lot row)).length = w := by rw [low_len]; exact rl
    have e3 := with_comp2 μ (.val (.tup (lot.map Ri))) (.val (Ri row)) .no (w := w) (n := sz b s lot.length) (r := sz b s (lot.length + 1)) (by omega) hn (Nat.succ_pos _) hc2 ll lb ej lot fun o ho => ⟨L.len o ho, L.bd o ho⟩
    have k1 := keys_eq μ (newM lot row) LM.ld
    obtain ⟨m, m1, m2, m3⟩ := sort_key (newM lot row)
    obtain ⟨g1, g2, g3⟩ := good_new g hs hr hb hne m2 m3
    refine ⟨m, ?_, g1, by omega, g3⟩
    have ea : ∀ s : S, gAdd s (.lst ((lot.map fun o => low (less o (low (rest lot row)))).map Ri)) (.lst [Ri (low (rest lot row))]) = some (.lst ((newM lot row).map Ri)) := fun s => by
      rw [add_ll _ _ _ (by simp; omega)]; simp [newM]
    have hk2 : lot.length ≤ 16777216 := by omega
    have hml : (newM lot row).length ≤ 16777216 := by simp [newM]; omega
    have sk := sortKey_ap (F := F_lead_in) (fa := dVar 3) (s := ⟨[.val (.tup (lot.map Ri)), .val (Ri row), .val (Ri (low (rest lot row))), .val (.lst ((newM lot row).map Ri)), .no], μ⟩) rfl (by simpa using hml) k1
    rw [m1] at sk
    generalize newM lot row = M at *
    simp [F_with_row, b_with_row, runF, e1, e2, lead_in_ok, ej, optD, isN, e3, ea, -List.map_map, hk2, sk, gTuple]
end K11

namespace K11
open PySem PySem.Spec PyProof.Rows L2 DL
theorem L_with_comp2 (μ : List Cell) (a d e f : DL.Slot) {w n r : Nat} (hw : w < 16777216) (hn : 0 < n) (hr0 : 0 < r) (hz : n + r + 1 ≤ 8900) {left : List Int} (hl : left.length = w) (hb : Bd r left) {j : Nat} (hj : lead left = some j) (c : DL.Slot) (hc : ∀ x, c ≠ .own x) : ∀ lot : List (List Int), (∀ o ∈ lot, o.length = w ∧ Bd n o) →
    dLcGo [2] (gNm 2) dYes (dCall F_L_lowest (dCons (dCall F_L_less (dCons (dVar 2) (dCons (dVar 1) dNil))) dNil)) (lot.map Ri) ⟨[a, .val (Ri left), c, d, e, f], μ⟩ = .ok ((lot.map fun o => low (less o left)).map Ri) ⟨[a, .val (Ri left), c, d, e, f], μ⟩
  | [], _ => rfl
  | o :: lot, h => by
    obtain ⟨h1, h2⟩ := h o (by simp)
    have ih := L_with_comp2 μ a d e f hw hn hr0 hz hl hb hj c hc lot fun q hq => h q (by simp [hq])
    have e1 := L_less_ok (row := o) (other := left) (by omega) (by omega) hj hn hr0 (by omega) h2 hb μ
    have e2 := L_lowest_ok (xs := less o left) ((less_bd h2 hb).mono (by omega)) (by rw [less_len (by omega)]; omega) μ
    simp only [List.map_map] at ih
    cases c with
    | own x => exact absurd rfl (hc x)
    | no => simp [dLcGo, wipeD, backD, e1, e2, ih]
    | val x => simp [dLcGo, wipeD, backD, e1, e2, ih]
theorem L_with_row2 {w b s : Nat} {lot : List (List Int)} {row : List Int} (hw : w ≤ 60) (hs : w ≤ 2 ^ s) (hb0 : 0 < b) (g : Good w b lot) (hr : row.length = w) (hb : Bd b row) (hc : lot.length < w → CanAdd b s lot.length) (hz2 : b + (lot.length + 1) * (sz b s lot.length + 1) ≤ 40000) (μ : List Cell) :
    ∃ m, F_L_with_row [.tup (lot.map Ri), Ri row] μ = .ok (.tup (m.map Ri)) μ ∧ Good w b m ∧ m.length ≤ lot.length + 1 ∧ ∀ x, Perp x m ↔ Perp x lot ∧ dt x row = 0 := by
  have L := g.sz hs
  have hk := L.le
  have hn : 0 < sz b s lot.length := Nat.succ_pos _
  obtain ⟨c', hcs, e1⟩ := L_rest_loop μ [.no, .no, .no] (.val (.tup (lot.map Ri))) (w := w) (n := sz b s lot.length) (by omega) hn lot row b .no (fun o ho => ⟨L.len o ho, L.bd o ho, L.ld o ho⟩) hr hb hb0 hz2
  have hcs : ∀ x, c' ≠ .own x := fun x z => by subst z; rcases hcs with h | ⟨_, h⟩ <;> cases h
  have rl := rest_len (lot := lot) (row := row) L.len hr
  have el := L_lead_ok (rest lot row) (by omega) μ
  cases er : lead (rest lot row) with
  | none =>
    have ej2 : leadL (rest lot row) = (rest lot row).length := leadL_len.mpr er
    refine ⟨lot, ?_, g, Nat.le_succ _, good_old g hs hr er⟩
    simp [F_L_with_row, b_L_with_row, runF, dForI, e1, el, ej2, gLen, -List.map_map]
  | some j =>
    have hne : lead (rest lot row) ≠ none := by rw [er]; exact fun z => nomatch z
    have ej2 : ((leadL (rest lot row) : Int) == ((rest lot row).length : Int)) = false := by
      have : leadL (rest lot row) ≠ (rest lot row).length := fun z => hne (leadL_len.mp z)
      simp; omega
    have hlt : lot.length < w := by
      rcases Nat.lt_or_ge lot.length w with z | z
      · exact z
      · exact absurd (L.full (Nat.le_antisymm hk z) hr) hne
    obtain ⟨hc1, hc2⟩ := hc hlt
    have rb : Bd (b + lot.length * (sz b s lot.length + 1)) (rest lot row) := rest_bd L.bd hb
    have e2 := L_lowest_ok (rb.mono hc1) (by omega) μ
    have LM := newM_sz g hs hr hb hne
    have lb : Bd (sz b s (lot.length + 1)) (low (rest lot row)) := LM.bd _ (by simp [newM])
    have ej3 : lead (low (rest lot row)) = some j := by rw [lead_low, er]
    have ll : (low (rest lot row)).length = w := by rw [low_len]; exact rl
    have e3 := L_with_comp2 μ (.val (.tup (lot.map Ri))) .no .no .no (w := w) (n := sz b s lot.length) (r := sz b s (lot.length + 1)) (by omega) hn (Nat.succ_pos _) hc2 ll lb ej3 c' hcs lot fun o ho => ⟨L.len o ho, L.bd o ho⟩
    have ea : ∀ s : S, gAdd s (.lst ((lot.map fun o => low (less o (low (rest lot row)))).map Ri)) (.lst [Ri (low (rest lot row))]) = some (.lst ((newM lot row).map Ri)) := fun s => by
      rw [add_ll _ _ _ (by simp; omega)]; simp [newM]
    have hMl : (newM lot row).length ≤ 61 := by simp [newM]; omega
    have hMr : ∀ q ∈ newM lot row, q.length < 16777216 := fun q hq => by rw [LM.len q hq]; omega
    obtain ⟨qs, hq1, hq2, hq3⟩ := sorted_prs2 ⟨[.val (.tup (lot.map Ri)), .val (Ri (low (rest lot row))), c', .val (.lst ((newM lot row).map Ri)), .no, .no], μ⟩ ((newM lot row).map fun q => ((leadL q : Int), q)) (by simp; omega)
    have hq4 : ∀ p ∈ qs, p.1 = (leadL p.2 : Int) := fun p hp => by
      obtain ⟨q, _, rfl⟩ := List.mem_map.mp (hq1.mem_iff.mp hp)
      rfl
    have hperm : (qs.map (·.2)).Perm (newM lot row) := by
      have := hq1.map (·.2)
      rw [List.map_map] at this
      have e6 : ((fun p : Int × List Int => p.2) ∘ fun q => ((leadL q : Int), q)) = id := rfl
      rwa [e6, List.map_id] at this
    have hsrt : (leads (qs.map (·.2))).Pairwise (· ≤ ·) := by
      unfold leads
      rw [List.map_map, List.pairwise_map]
      refine hq3.imp_of_mem fun {p q} hp hq h => ?_
      rw [hq4 p hp, hq4 q hq] at h
      show leadL p.2 ≤ leadL q.2
      omega
    obtain ⟨g1, g2, g3⟩ := good_new g hs hr hb hne hperm hsrt
    rw [List.map_map] at hq2
    have hq2 : gSorted ⟨[.val (.tup (lot.map Ri)), .val (Ri (low (rest lot row))), c', .val (.lst ((newM lot row).map Ri)), .no, .no], μ⟩ [.lst ((newM lot row).map fun q => Pr (leadL q) q)] = some (.lst (qs.map fun p => Pr p.1 p.2)) := hq2
    have e4 := pairs_comp μ (.val (.tup (lot.map Ri))) (.val (Ri (low (rest lot row)))) c' (.val (.lst ((newM lot row).map Ri))) .no (newM lot row) hMr
    have e5 := second_comp μ (.val (.tup (lot.map Ri))) (.val (Ri (low (rest lot row)))) c' (.val (.lst ((newM lot row).map Ri))) .no qs
    have hql : qs.length ≤ 16777216 := by rw [hq1.length_eq]; simp; omega
    refine ⟨qs.map (·.2), ?_, g1, by rw [g2]; exact Nat.le_refl _, g3⟩
    have hk2 : lot.length ≤ 16777216 := by omega
    have hk3 : (newM lot row).length ≤ 16777216 := by omega
    generalize newM lot row = M at *
    cases c' with
    | own x => exact absurd rfl (hcs x)
    | no =>
      simp [F_L_with_row, b_L_with_row, runF, dForI, e1, el, ej2, gLen, e2, e3, ea, e4, e5, hq2, -List.map_map, -List.map_append, hk2, hk3, hql, gTuple, Function.comp_def]
      rw [List.map_map]; rfl
    | val x =>
      simp [F_L_with_row, b_L_with_row, runF, dForI, e1, el, ej2, gLen, e2, e3, ea, e4, e5, hq2, -List.map_map, -List.map_append, hk2, hk3, hql, gTuple, Function.comp_def]
      rw [List.map_map]; rfl
/-- what is asked of the sizes when rows are put to a lot of at most K -/
structure Sizes (w b s K : Nat) : Prop where
  w60 : w ≤ 60
  ws : w ≤ 2 ^ s
  b0 : 0 < b
  add : ∀ l, l < w → l < K → CanAdd b s l
  z2 : ∀ l, l ≤ w → l ≤ K → b + (l + 1) * (sz b s l + 1) ≤ 40000
theorem lot_loop2 {F : FF} {w b s K : Nat} (Z : Sizes w b s K) {μ : List Cell} (hF : ∀ (lot : List (List Int)) (row : List Int), Good w b lot → row.length = w → Bd b row → (lot.length < w → CanAdd b s lot.length) → b + (lot.length + 1) * (sz b s lot.length + 1) ≤ 40000 → ∃ m, F [.tup (lot.map Ri), Ri row] μ = .ok (.tup (m.map Ri)) μ ∧ Good w b m ∧ m.length ≤ lot.length + 1 ∧ ∀ x, Perp x m ↔ Perp x lot ∧ dt x row = 0) (a : DL.Slot) :
    ∀ (rows lot : List (List Int)) (c : DL.Slot), Good w b lot → (∀ o ∈ rows, o.length = w ∧ Bd b o) → lot.length + rows.length ≤ K →
      ∃ m c', dFor (gNm 2) (dAsg 1 (dCall F (dCons (dVar 1) (dCons (dVar 2) dNil)))) (rows.map Ri) ⟨[a, .val (.tup (lot.map Ri)), c], μ⟩ = .nx ⟨[a, .val (.tup (m.map Ri)), c'], μ⟩ ∧ Good w b m ∧ m.length ≤ lot.length + rows.length ∧ ∀ x, Perp x m ↔ Perp x lot ∧ Perp x rows
  | [], lot, c, g, _, _ => ⟨lot, c, rfl, g, Nat.le_refl _, fun x => ⟨fun h => ⟨h, perp_nil x⟩, fun h => h.1⟩⟩
  | o :: rows, lot, c, g, hl, hK => by
    rw [List.length_cons] at hK
    obtain ⟨h1, h2⟩ := hl o (by simp)
    obtain ⟨m1, e1, g1, l1, p1⟩ := hF lot o g h1 h2 (fun h => Z.add _ h (by omega)) (Z.z2 _ g.le (by omega))
    obtain ⟨m, c', e2, g2, l2, p2⟩ := lot_loop2 Z hF a rows m1 (.val (Ri o)) g1 (fun q hq => hl q (by simp [hq])) (by omega)
    refine ⟨m, c', ?_, g2, by rw [List.length_cons]; omega, fun x => ?_⟩
    · simp [dFor, e1, -List.map_map]
      exact e2
    · rw [p2 x, p1 x]
      constructor
      · rintro ⟨⟨a, b⟩, c⟩
        exact ⟨a, fun r hr => (List.mem_cons.mp hr).elim (fun e => e ▸ b) (c r)⟩
      · rintro ⟨a, b⟩
        exact ⟨⟨a, b o (by simp)⟩, fun r hr => b r (by simp [hr])⟩
def Same (A B : List (List Int)) : Prop := ∀ x, Perp x A ↔ Perp x B
theorem lot_in2 {w b s : Nat} {rows : List (List Int)} (Z : Sizes w b s rows.length) (hl : ∀ o ∈ rows, o.length = w ∧ Bd b o) {d : D} (hd : IsRows rows d) (μ : List Cell) : ∃ m, F_lot_in [d] μ = .ok (.tup (m.map Ri)) μ ∧ Good w b m ∧ m.length ≤ rows.length ∧ Same m rows := by
  obtain ⟨m, c', e, g, l, p⟩ := lot_loop2 (F := F_with_row) Z (μ := μ) (fun lot row g h1 h2 h3 h4 => with_row2 Z.w60 Z.ws Z.b0 g h1 h2 h3 h4 μ) (.val d) rows [] .no (Good.nil w b) hl (by simp)
  refine ⟨m, ?_, g, by simpa using l, fun x => by rw [p x]; exact ⟨fun h => h.2, fun h => ⟨perp_nil x, h⟩⟩⟩
  have e : dFor (gNm 2) (dAsg 1 (dCall F_with_row (dCons (dVar 1) (dCons (dVar 2) dNil)))) (rows.map Ri) ⟨[.val d, .val (.tup []), .no], μ⟩ = .nx ⟨[.val d, .val (.tup (m.map Ri)), c'], μ⟩ := e
  rcases hd with rfl | rfl <;> simp [F_lot_in, b_lot_in, runF, dForI, e, -List.map_map]
theorem L_lot2 {w b s : Nat} {rows : List (List Int)} (Z : Sizes w b s rows.length) (hl : ∀ o ∈ rows, o.length = w ∧ Bd b o) {d : D} (hd : IsRows rows d) (μ : List Cell) : ∃ m, F_L_lot [d] μ = .ok (.tup (m.map Ri)) μ ∧ Good w b m ∧ m.length ≤ rows.length ∧ Same m rows := by
  obtain ⟨m, c', e, g, l, p⟩ := lot_loop2 (F := F_L_with_row) Z (μ := μ) (fun lot row g h1 h2 h3 h4 => L_with_row2 Z.w60 Z.ws Z.b0 g h1 h2 h3 h4 μ) (.val d) rows [] .no (Good.nil w b) hl (by simp)
  refine ⟨m, ?_, g, by simpa using l, fun x => by rw [p x]; exact ⟨fun h => h.2, fun h => ⟨perp_nil x, h⟩⟩⟩
  have e : dFor (gNm 2) (dAsg 1 (dCall F_L_with_row (dCons (dVar 1) (dCons (dVar 2) dNil)))) (rows.map Ri) ⟨[.val d, .val (.tup []), .no], μ⟩ = .nx ⟨[.val d, .val (.tup (m.map Ri)), c'], μ⟩ := e
  rcases hd with rfl | rfl <;> simp [F_L_lot, b_L_lot, runF, dForI, e, -List.map_map]
end K11

namespace K11
open PySem PySem.Spec PyProof.Rows L2 DL
/-! ### the lines apart are small, once they are lowest -/
theorem prop_le {p x : List Int} {j k : Nat} (hg : gcdL p = 1) (hp : at0 p j ≠ 0) (ht : ∀ i, at0 p j * at0 x i = at0 x j * at0 p i) (hx : at0 x j ≠ 0) (hb : Bd k x) : Bd k p := by
  have hd : at0 p j ∣ at0 x j := by
    have h1 : ∀ z ∈ p.map (fun y => at0 x j * y), ((at0 p j).natAbs : Int) ∣ z := fun z hz => by
      obtain ⟨y, hy, rfl⟩ := List.mem_map.mp hz
      obtain ⟨i, hi, rfl⟩ := List.getElem_of_mem hy
      rw [← at0_lt hi, ← ht i, Int.natAbs_dvd]
      exact Int.dvd_mul_right _ _
    have h2 := dvd_gcdL h1
    rw [gcdL_mul, hg, Nat.mul_one] at h2
    exact Int.natAbs_dvd_natAbs.mp h2
  obtain ⟨q, hq⟩ := hd
  have hq0 : q ≠ 0 := fun z => hx (by rw [hq, z]; simp)
  intro z hz
  obtain ⟨i, hi, rfl⟩ := List.getElem_of_mem hz
  have h3 := ht i
  rw [hq, Int.mul_assoc] at h3
  have h4 := Int.eq_of_mul_eq_mul_left hp h3
  have h5 := bd_at hb i
  rw [h4, Int.natAbs_mul, at0_lt hi] at h5
  have : 1 ≤ q.natAbs := by omega
  exact Nat.lt_of_le_of_lt (Nat.le_mul_of_pos_left _ this) h5
theorem putF_at {w : Nat} {sh : Int} {j : Nat} : ∀ {lot : List (List Int)} {cur : List Int} {i : Nat}, (∀ o ∈ lot, o.length = w ∧ lead o ≠ none) → cur.length = w → i ∉ leads lot → at0 (putF sh j lot cur) i = at0 cur i
  | [], cur, i, _, _, _ => rfl
  | o :: lot, cur, i, hl, hc, hi => by
    rw [putF, putF_at (lot := lot) (fun p hp => hl p (by simp [hp])) (by simpa using hc) (fun h => hi (List.mem_cons_of_mem _ h)), at0_set _ (by have := leadL_lt (hl o (by simp)).2; have := (hl o (by simp)).1; omega), if_neg]
    exact fun e => hi (by rw [e]; exact List.mem_cons_self)
theorem line_self {w n : Nat} {lot : List (List Int)} (L : Lt w n lot) {j : Nat} (hj : j < w) (hn : (leads lot).contains j = false) : at0 (lineOf w lot j) j = shF 1 lot := by
  unfold lineOf
  rw [putF_at (fun o ho => ⟨L.len o ho, L.ld o ho⟩) (by simp) (fun h => by rw [List.contains_iff_mem.mpr h] at hn; cases hn), at0_set _ (by simpa using hj), if_pos rfl]
theorem line_out {w n : Nat} {lot : List (List Int)} (L : Lt w n lot) {i j : Nat} (hj : j < w) (hij : i ≠ j) (hi : i ∉ leads lot) : at0 (lineOf w lot j) i = 0 := by
  unfold lineOf
  rw [putF_at (fun o ho => ⟨L.len o ho, L.ld o ho⟩) (by simp) hi, at0_set _ (by simpa using hj), if_neg hij, at0_rep]
/-- what is apart from the lot and stands at the leads and at j alone -/
theorem two_places {w n : Nat} {lot : List (List Int)} (L : Lt w n lot) {x : List Int} {j : Nat} (hn : (leads lot).contains j = false) (hs : ∀ i, i ≠ j → i ∉ leads lot → at0 x i = 0) (hp : Perp x lot) {o : List Int} (ho : o ∈ lot) {i : Nat} (hi : lead o = some i) : at0 x i * at0 o i + at0 x j * at0 o j = 0 := by
  have hne : i ≠ j := fun e => by subst e; exact not_lead hn ho hi
  have h0 := hp o ho
  have hi2 : i < o.length := (lead_some hi).1
  have e1 := dt_single j (x := x) (o := o.set i 0) (fun k hk => by
    rw [at0_set _ hi2]
    by_cases e : k = i
    · simp [e]
    · rw [if_neg e]
      by_cases hkl : k ∈ leads lot
      · obtain ⟨q, hq1, hq2⟩ := mem_leads hkl L
        rw [L.off ho hq1 hi hq2 e]; simp
      · rw [hs k hk hkl]; simp)
  rw [dt_comm, dt_set _ hi2, at0_set _ hi2, if_neg (Ne.symm hne), dt_comm, h0] at e1
  have : (0 - at0 o i) * at0 x i = - (at0 x i * at0 o i) := by rw [Int.zero_sub, Int.neg_mul, Int.mul_comm]
  rw [this] at e1
  omega
theorem line_small {w b s : Nat} {lot : List (List Int)} (g : Good w b lot) (hs : w ≤ 2 ^ s) {j : Nat} (hj : j < w) (hn : (leads lot).contains j = false) : Bd (sz b s lot.length) (low (lineOf w lot j)) ∧ lead (lineOf w lot j) ≠ none := by
  have L := g.sz hs
  obtain ⟨B, b1, b2, b3⟩ := g.bas
  have hsh := shF_ne lot 1 L.ld (by decide)
  have hself := line_self L hj hn
  have hne : lead (lineOf w lot j) ≠ none := fun e => hsh (by rw [← hself]; exact lead_none_at e j)
  refine ⟨?_, hne⟩
  have hjn : j ∉ leads lot := fun h => by rw [List.contains_iff_mem.mpr h] at hn; cases hn
  have hle : lot.length + 1 ≤ w := by
    have := (nodup_le w (j :: leads lot) (List.nodup_cons.mpr ⟨hjn, L.nodup.1⟩) (fun x hx => (List.mem_cons.mp hx).elim (fun e => e ▸ hj) (L.nodup.2 x))).1
    simpa [leads] using this
  obtain ⟨x, x1, x2, x3, ⟨i, hi, x4⟩, x5⟩ := siegel (w := w) (b := b) (s := s) (eqs := B) (S := j :: leads lot) b2 (List.nodup_cons.mpr ⟨hjn, L.nodup.1⟩) (fun k hk => (List.mem_cons.mp hk).elim (fun e => e ▸ hj) (L.nodup.2 k)) (by simp [leads]; omega) (by simp [leads]; omega)
  rw [b1] at x3
  have xp : Perp x lot := (b3 x).mpr x5
  have xs : ∀ i, i ≠ j → i ∉ leads lot → at0 x i = 0 := fun i h1 h2 => x2 i (fun h => (List.mem_cons.mp h).elim h1 h2)
  have lp := line_perp L hj hn
  have ls : ∀ i, i ≠ j → i ∉ leads lot → at0 (lineOf w lot j) i = 0 := fun i h1 h2 => line_out L hj h1 h2
  have hlin : ∀ i, at0 (lineOf w lot j) j * at0 x i = at0 x j * at0 (lineOf w lot j) i := fun i => by
    by_cases e : i = j
    · rw [e, Int.mul_comm]
    · by_cases hil : i ∈ leads lot
      · obtain ⟨o, ho, eo⟩ := mem_leads hil L
        have p1 := two_places L hn xs xp ho eo
        have p2 := two_places L hn ls lp ho eo
        have hL := (lead_iff.mp eo).1
        refine Int.eq_of_mul_eq_mul_right hL ?_
        have q1 : at0 x i * at0 o i = -(at0 x j * at0 o j) := by omega
        have q2 : at0 (lineOf w lot j) i * at0 o i = -(at0 (lineOf w lot j) j * at0 o j) := by omega
        rw [Int.mul_assoc, q1, Int.mul_assoc, q2, Int.mul_neg, Int.mul_neg, Int.mul_left_comm]
      · rw [xs i e hil, ls i e hil]; simp
  obtain ⟨c, c1, c2⟩ := low_lin (lineOf w lot j)
  have hpj : at0 (low (lineOf w lot j)) j ≠ 0 := fun z => hsh (by rw [← hself, c2 j, z]; simp)
  have hxj : at0 x j ≠ 0 := fun z => by
    have := hlin i
    rw [z, Int.zero_mul, hself] at this
    rcases Int.mul_eq_zero.mp this with q | q
    · exact hsh q
    · exact x4 q
  refine prop_le (low_prim hne) hpj (fun i => ?_) hxj x3
  have := hlin i
  rw [c2 j, c2 i, Int.mul_assoc, Int.mul_left_comm (at0 x j)] at this
  exact Int.eq_of_mul_eq_mul_left c1 this
end K11

namespace K11
open PySem PySem.Spec PyProof.Rows L2 DL
/-! ### lots of rows that are small only when lowest -/
theorem newM_sz3 {w b s : Nat} {lot : List (List Int)} {row : List Int} (g : Good w b lot) (hs : w ≤ 2 ^ s) (hr : row.length = w) {r : Nat} (hbr : Bd r row) (hb : Bd b (low row)) (h : lead (rest lot row) ≠ none) : Lt w (sz b s (lot.length + 1)) (newM lot row) := by
  have L := g.sz hs
  obtain ⟨k, LM⟩ := newM_lt L hr hbr h
  obtain ⟨B, b1, b2, b3⟩ := g.bas
  have hl : (newM lot row).length = lot.length + 1 := by simp [newM]
  obtain ⟨c1, c2, c3⟩ := bas_add b1 b2 b3 (row := low row) (by rw [low_len]; exact hr) hb hl (fun x => by rw [newM_perp L hr h x, low_dt])
  have := (lot_bd (s := s) LM (fun o ho => (newM_prim LM o ho).1) c2 c1 c3 (Nat.le_trans LM.le hs)).mono (Nat.le_succ _)
  rw [hl] at this
  exact this
theorem good_new3 {w b s : Nat} {lot m : List (List Int)} {row : List Int} (g : Good w b lot) (hs : w ≤ 2 ^ s) (hr : row.length = w) {r : Nat} (hbr : Bd r row) (hb : Bd b (low row)) (h : lead (rest lot row) ≠ none) (hm : m.Perm (newM lot row)) (so : (leads m).Pairwise (· ≤ ·)) : Good w b m ∧ m.length = lot.length + 1 ∧ ∀ x, Perp x m ↔ Perp x lot ∧ dt x row = 0 := by
  have L := g.sz hs
  obtain ⟨k, LM⟩ := newM_lt L hr hbr h
  have Lm := LM.perm hm
  have hp : ∀ x, Perp x m ↔ Perp x lot ∧ dt x row = 0 := fun x => by
    rw [← newM_perp L hr h x]
    exact ⟨fun q r hr => q r (hm.mem_iff.mpr hr), fun q r hr => q r (hm.mem_iff.mp hr)⟩
  have hl : m.length = lot.length + 1 := by rw [hm.length_eq]; simp [newM]
  obtain ⟨B, b1, b2, b3⟩ := g.bas
  refine ⟨⟨⟨⟨k, Lm⟩, fun o ho => (newM_prim LM o (hm.mem_iff.mp ho)).1, fun o ho => (newM_prim LM o (hm.mem_iff.mp ho)).2, ?_⟩, B ++ [low row], bas_add b1 b2 b3 (row := low row) (by rw [low_len]; exact hr) hb hl (fun x => by rw [hp x, low_dt])⟩, hl, hp⟩
  have nd := Lm.nodup.1
  unfold List.Nodup at nd
  exact (so.and nd).imp fun {a b} ⟨h1, h2⟩ => by omega
theorem with_row3 {w b s : Nat} {lot : List (List Int)} {row : List Int} (hw : w ≤ 60) (hs : w ≤ 2 ^ s) (hb0 : 0 < b) (g : Good w b lot) (hr : row.length = w) {r : Nat} (hr0 : 0 < r) (hbr : Bd r row) (hb : Bd b (low row)) (hg : lead (rest lot row) ≠ none → gcdL (rest lot row) < 2 ^ 8900) (hc : lot.length < w → sz b s lot.length + sz b s (lot.length + 1) + 1 ≤ 8900) (hz2 : r + (lot.length + 1) * (sz b s lot.length + 1) ≤ 40000) (μ : List Cell) :
    ∃ m, F_with_row [.tup (lot.map Ri), Ri row] μ = .ok (.tup (m.map Ri)) μ ∧ Good w b m ∧ m.length ≤ lot.length + 1 ∧ ∀ x, Perp x m ↔ Perp x lot ∧ dt x row = 0 := by
  have L := g.sz hs
  have hk := L.le
  have hn : 0 < sz b s lot.length := Nat.succ_pos _
  have e1 := rest_by_ok (w := w) (n := sz b s lot.length) (r := r) (by omega) hn (lot := lot) (row := row) (fun o ho => ⟨L.len o ho, L.bd o ho, L.ld o ho⟩) hr hbr hr0 hz2 μ
  have rl := rest_len (lot := lot) (row := row) L.len hr
  cases er : lead (rest lot row) with
  | none =>
    have e2 := lowest_row_ok (bd_none er 8900) (by omega) μ
    have ej : lead (low (rest lot row)) = none := by rw [lead_low, er]
    refine ⟨lot, ?_, g, Nat.le_succ _, good_old g hs hr er⟩
    simp [F_with_row, b_with_row, runF, e1, e2, lead_in_ok, ej, optD, isN, -List.map_map]
  | some j =>
    have hne : lead (rest lot row) ≠ none := by rw [er]; exact fun z => nomatch z
    have hlt : lot.length < w := by
      rcases Nat.lt_or_ge lot.length w with z | z
      · exact z
      · exact absurd (L.full (Nat.le_antisymm hk z) hr) hne
    have hc2 := hc hlt
    have rb : Bd (r + lot.length * (sz b s lot.length + 1)) (rest lot row) := rest_bd L.bd hbr
    have e2 := lowest_row_okg (hg hne) (by omega) μ
    have LM := newM_sz3 g hs hr hbr hb hne
    have lb : Bd (sz b s (lot.length + 1)) (low (rest lot row)) := LM.bd _ (by simp [newM])
    have ej : lead (low (rest lot row)) = some j := by rw [lead_low, er]
    have ll : (low (rest lot row)).length = w := by rw [low_len]; exact rl
    have e3 := with_comp2 μ (.val (.tup (lot.map Ri))) (.val (Ri row)) .no (w := w) (n := sz b s lot.length) (r := sz b s (lot.length + 1)) (by omega) hn (Nat.succ_pos _) hc2 ll lb ej lot fun o ho => ⟨L.len o ho, L.bd o ho⟩
    have k1 := keys_eq μ (newM lot row) LM.ld
    obtain ⟨m, m1, m2, m3⟩ := sort_key (newM lot row)
    obtain ⟨g1, g2, g3⟩ := good_new3 g hs hr hbr hb hne m2 m3
    refine ⟨m, ?_, g1, by omega, g3⟩
    have ea : ∀ s : S, gAdd s (.lst ((lot.map fun o => low (less o (low (rest lot row)))).map Ri)) (.lst [Ri (low (rest lot row))]) = some (.lst ((newM lot row).map Ri)) := fun s => by
      rw [add_ll _ _ _ (by simp; omega)]; simp [newM]
    have hk2 : lot.length ≤ 16777216 := by omega
    have hml : (newM lot row).length ≤ 16777216 := by simp [newM]; omega
    have sk := sortKey_ap (F := F_lead_in) (fa := dVar 3) (s := ⟨[.val (.tup (lot.map Ri)), .val (Ri row), .val (Ri (low (rest lot row))), .val (.lst ((newM lot row).map Ri)), .no], μ⟩) rfl (by simpa using hml) k1
    rw [m1] at sk
    generalize newM lot row = M at *
    simp [F_with_row, b_with_row, runF, e1, e2, lead_in_ok, ej, optD, isN, e3, ea, -List.map_map, hk2, sk, gTuple]
theorem L_with_row3 {w b s : Nat} {lot : List (List Int)} {row : List Int} (hw : w ≤ 60) (hs : w ≤ 2 ^ s) (hb0 : 0 < b) (g : Good w b lot) (hr : row.length = w) {r : Nat} (hr0 : 0 < r) (hbr : Bd r row) (hb : Bd b (low row)) (hg : lead (rest lot row) ≠ none → gcdL (rest lot row) < 2 ^ 8900) (hc : lot.length < w → sz b s lot.length + sz b s (lot.length + 1) + 1 ≤ 8900) (hz2 : r + (lot.length + 1) * (sz b s lot.length + 1) ≤ 40000) (μ : List Cell) :
    ∃ m, F_L_with_row [.tup (lot.map Ri), Ri row] μ = .ok (.tup (m.map Ri)) μ ∧ Good w b m ∧ m.length ≤ lot.length + 1 ∧ ∀ x, Perp x m ↔ Perp x lot ∧ dt x row = 0 := by
  have L := g.sz hs
  have hk := L.le
  have hn : 0 < sz b s lot.length := Nat.succ_pos _
  obtain ⟨c', hcs, e1⟩ := L_rest_loop μ [.no, .no, .no] (.val (.tup (lot.map Ri))) (w := w) (n := sz b s lot.length) (by omega) hn lot row r .no (fun o ho => ⟨L.len o ho, L.bd o ho, L.ld o ho⟩) hr hbr hr0 hz2
  have hcs : ∀ x, c' ≠ .own x := fun x z => by subst z; rcases hcs with h | ⟨_, h⟩ <;> cases h
  have rl := rest_len (lot := lot) (row := row) L.len hr
  have el := L_lead_ok (rest lot row) (by omega) μ
  cases er : lead (rest lot row) with
  | none =>
    have ej2 : leadL (rest lot row) = (rest lot row).length := leadL_len.mpr er
    refine ⟨lot, ?_, g, Nat.le_succ _, good_old g hs hr er⟩
    simp [F_L_with_row, b_L_with_row, runF, dForI, e1, el, ej2, gLen, -List.map_map]
  | some j =>
    have hne : lead (rest lot row) ≠ none := by rw [er]; exact fun z => nomatch z
    have ej2 : ((leadL (rest lot row) : Int) == ((rest lot row).length : Int)) = false := by
      have : leadL (rest lot row) ≠ (rest lot row).length := fun z => hne (leadL_len.mp z)
      simp; omega
    have hlt : lot.length < w := by
      rcases Nat.lt_or_ge lot.length w with z | z
      · exact z
      · exact absurd (L.full (Nat.le_antisymm hk z) hr) hne
    have hc2 := hc hlt
    have rb : Bd (r + lot.length * (sz b s lot.length + 1)) (rest lot row) := rest_bd L.bd hbr
    have e2 := L_lowest_okg (rb.mono (by rw [Nat.add_mul] at hz2; omega)) (hg hne) (by omega) μ
    have LM := newM_sz3 g hs hr hbr hb hne
    have lb : Bd (sz b s (lot.length + 1)) (low (rest lot row)) := LM.bd _ (by simp [newM])
    have ej3 : lead (low (rest lot row)) = some j := by rw [lead_low, er]
    have ll : (low (rest lot row)).length = w := by rw [low_len]; exact rl
    have e3 := L_with_comp2 μ (.val (.tup (lot.map Ri))) .no .no .no (w := w) (n := sz b s lot.length) (r := sz b s (lot.length + 1)) (by omega) hn (Nat.succ_pos _) hc2 ll lb ej3 c' hcs lot fun o ho => ⟨L.len o ho, L.bd o ho⟩
    have ea : ∀ s : S, gAdd s (.lst ((lot.map fun o => low (less o (low (rest lot row)))).map Ri)) (.lst [Ri (low (rest lot row))]) = some (.lst ((newM lot row).map Ri)) := fun s => by
      rw [add_ll _ _ _ (by simp; omega)]; simp [newM]
    have hMl : (newM lot row).length ≤ 61 := by simp [newM]; omega
    have hMr : ∀ q ∈ newM lot row, q.length < 16777216 := fun q hq => by rw [LM.len q hq]; omega
    obtain ⟨qs, hq1, hq2, hq3⟩ := sorted_prs2 ⟨[.val (.tup (lot.map Ri)), .val (Ri (low (rest lot row))), c', .val (.lst ((newM lot row).map Ri)), .no, .no], μ⟩ ((newM lot row).map fun q => ((leadL q : Int), q)) (by simp; omega)
    have hq4 : ∀ p ∈ qs, p.1 = (leadL p.2 : Int) := fun p hp => by
      obtain ⟨q, _, rfl⟩ := List.mem_map.mp (hq1.mem_iff.mp hp)
      rfl
    have hperm : (qs.map (·.2)).Perm (newM lot row) := by
      have := hq1.map (·.2)
      rw [List.map_map] at this
      have e6 : ((fun p : Int × List Int => p.2) ∘ fun q => ((leadL q : Int), q)) = id := rfl
      rwa [e6, List.map_id] at this
    have hsrt : (leads (qs.map (·.2))).Pairwise (· ≤ ·) := by
      unfold leads
      rw [List.map_map, List.pairwise_map]
      refine hq3.imp_of_mem fun {p q} hp hq h => ?_
      rw [hq4 p hp, hq4 q hq] at h
      show leadL p.2 ≤ leadL q.2
      omega
    obtain ⟨g1, g2, g3⟩ := good_new3 g hs hr hbr hb hne hperm hsrt
    rw [List.map_map] at hq2
    have hq2 : gSorted ⟨[.val (.tup (lot.map Ri)), .val (Ri (low (rest lot row))), c', .val (.lst ((newM lot row).map Ri)), .no, .no], μ⟩ [.lst ((newM lot row).map fun q => Pr (leadL q) q)] = some (.lst (qs.map fun p => Pr p.1 p.2)) := hq2
    have e4 := pairs_comp μ (.val (.tup (lot.map Ri))) (.val (Ri (low (rest lot row)))) c' (.val (.lst ((newM lot row).map Ri))) .no (newM lot row) hMr
    have e5 := second_comp μ (.val (.tup (lot.map Ri))) (.val (Ri (low (rest lot row)))) c' (.val (.lst ((newM lot row).map Ri))) .no qs
    have hql : qs.length ≤ 16777216 := by rw [hq1.length_eq]; simp; omega
    refine ⟨qs.map (·.2), ?_, g1, by rw [g2]; exact Nat.le_refl _, g3⟩
    have hk2 : lot.length ≤ 16777216 := by omega
    have hk3 : (newM lot row).length ≤ 16777216 := by omega
    generalize newM lot row = M at *
    cases c' with
    | own x => exact absurd rfl (hcs x)
    | no =>
      simp [F_L_with_row, b_L_with_row, runF, dForI, e1, el, ej2, gLen, e2, e3, ea, e4, e5, hq2, -List.map_map, -List.map_append, hk2, hk3, hql, gTuple, Function.comp_def]
      rw [List.map_map]; rfl
    | val x =>
      simp [F_L_with_row, b_L_with_row, runF, dForI, e1, el, ej2, gLen, e2, e3, ea, e4, e5, hq2, -List.map_map, -List.map_append, hk2, hk3, hql, gTuple, Function.comp_def]
      rw [List.map_map]; rfl
/-- what is asked of the sizes where rows of r bits are put to a lot, that are of b bits when they are lowest -/
structure Sizes3 (w b s r K : Nat) : Prop where
  w60 : w ≤ 60
  ws : w ≤ 2 ^ s
  b0 : 0 < b
  r0 : 0 < r
  add : ∀ l, l < w → l < K → (l = 0 ∨ r + l * (sz b s l + 1) ≤ 8900) ∧ sz b s l + sz b s (l + 1) + 1 ≤ 8900
  z2 : ∀ l, l ≤ w → l ≤ K → r + (l + 1) * (sz b s l + 1) ≤ 40000
theorem Sizes3.gcd {w b s r K : Nat} (Z : Sizes3 w b s r K) {lot : List (List Int)} {row : List Int} (g : Good w b lot) (hr : row.length = w) (hb : Bd r row) (hg : gcdL row < 2 ^ 8900) (hK : lot.length < K) (hne : lead (rest lot row) ≠ none) : gcdL (rest lot row) < 2 ^ 8900 := by
  have L := g.sz Z.ws
  have hlt : lot.length < w := by
    rcases Nat.lt_or_ge lot.length w with z | z
    · exact z
    · exact absurd (L.full (Nat.le_antisymm L.le z) hr) hne
  rcases (Z.add _ hlt hK).1 with h | h
  · have : lot = [] := List.eq_nil_of_length_eq_zero h
    subst this
    exact hg
  · exact Nat.lt_of_lt_of_le (gcdL_lt (rest_bd L.bd hb)) (Nat.pow_le_pow_right (by decide) h)
theorem lot_loop3 {F : FF} {w b s K : Nat} {r : Nat} (Z : Sizes3 w b s r K) {μ : List Cell} (hF : ∀ (lot : List (List Int)) (row : List Int), Good w b lot → row.length = w → Bd r row → Bd b (low row) → (lead (rest lot row) ≠ none → gcdL (rest lot row) < 2 ^ 8900) → (lot.length < w → sz b s lot.length + sz b s (lot.length + 1) + 1 ≤ 8900) → r + (lot.length + 1) * (sz b s lot.length + 1) ≤ 40000 → ∃ m, F [.tup (lot.map Ri), Ri row] μ = .ok (.tup (m.map Ri)) μ ∧ Good w b m ∧ m.length ≤ lot.length + 1 ∧ ∀ x, Perp x m ↔ Perp x lot ∧ dt x row = 0) (a : DL.Slot) :
    ∀ (rows lot : List (List Int)) (c : DL.Slot), Good w b lot → (∀ o ∈ rows, o.length = w ∧ Bd r o ∧ Bd b (low o) ∧ gcdL o < 2 ^ 8900) → lot.length + rows.length ≤ K →
      ∃ m c', dFor (gNm 2) (dAsg 1 (dCall F (dCons (dVar 1) (dCons (dVar 2) dNil)))) (rows.map Ri) ⟨[a, .val (.tup (lot.map Ri)), c], μ⟩ = .nx ⟨[a, .val (.tup (m.map Ri)), c'], μ⟩ ∧ Good w b m ∧ m.length ≤ lot.length + rows.length ∧ ∀ x, Perp x m ↔ Perp x lot ∧ Perp x rows
  | [], lot, c, g, _, _ => ⟨lot, c, rfl, g, Nat.le_refl _, fun x => ⟨fun h => ⟨h, perp_nil x⟩, fun h => h.1⟩⟩
  | o :: rows, lot, c, g, hl, hK => by
    rw [List.length_cons] at hK
    obtain ⟨h1, h2, h3, h4⟩ := hl o (by simp)
    obtain ⟨m1, e1, g1, l1, p1⟩ := hF lot o g h1 h2 h3 (fun hne => Z.gcd g h1 h2 h4 (by omega) hne) (fun h => (Z.add _ h (by omega)).2) (Z.z2 _ g.le (by omega))
    obtain ⟨m, c', e2, g2, l2, p2⟩ := lot_loop3 Z hF a rows m1 (.val (Ri o)) g1 (fun q hq => hl q (by simp [hq])) (by omega)
    refine ⟨m, c', ?_, g2, by rw [List.length_cons]; omega, fun x => ?_⟩
    · simp [dFor, e1, -List.map_map]
      exact e2
    · rw [p2 x, p1 x]
      constructor
      · rintro ⟨⟨a, b⟩, c⟩
        exact ⟨a, fun r hr => (List.mem_cons.mp hr).elim (fun e => e ▸ b) (c r)⟩
      · rintro ⟨a, b⟩
        exact ⟨⟨a, b o (by simp)⟩, fun r hr => b r (by simp [hr])⟩
theorem lot_in3 {w b s : Nat} {rows : List (List Int)} {r : Nat} (Z : Sizes3 w b s r rows.length) (hl : ∀ o ∈ rows, o.length = w ∧ Bd r o ∧ Bd b (low o) ∧ gcdL o < 2 ^ 8900) {d : D} (hd : IsRows rows d) (μ : List Cell) : ∃ m, F_lot_in [d] μ = .ok (.tup (m.map Ri)) μ ∧ Good w b m ∧ m.length ≤ rows.length ∧ Same m rows := by
  obtain ⟨m, c', e, g, l, p⟩ := lot_loop3 (F := F_with_row) Z (μ := μ) (fun lot row g h1 h2 h3 h4 h5 h6 => with_row3 Z.w60 Z.ws Z.b0 g h1 Z.r0 h2 h3 h4 h5 h6 μ) (.val d) rows [] .no (Good.nil w b) hl (by simp)
  refine ⟨m, ?_, g, by simpa using l, fun x => by rw [p x]; exact ⟨fun h => h.2, fun h => ⟨perp_nil x, h⟩⟩⟩
  have e : dFor (gNm 2) (dAsg 1 (dCall F_with_row (dCons (dVar 1) (dCons (dVar 2) dNil)))) (rows.map Ri) ⟨[.val d, .val (.tup []), .no], μ⟩ = .nx ⟨[.val d, .val (.tup (m.map Ri)), c'], μ⟩ := e
  rcases hd with rfl | rfl <;> simp [F_lot_in, b_lot_in, runF, dForI, e, -List.map_map]
theorem L_lot3 {w b s : Nat} {rows : List (List Int)} {r : Nat} (Z : Sizes3 w b s r rows.length) (hl : ∀ o ∈ rows, o.length = w ∧ Bd r o ∧ Bd b (low o) ∧ gcdL o < 2 ^ 8900) {d : D} (hd : IsRows rows d) (μ : List Cell) : ∃ m, F_L_lot [d] μ = .ok (.tup (m.map Ri)) μ ∧ Good w b m ∧ m.length ≤ rows.length ∧ Same m rows := by
  obtain ⟨m, c', e, g, l, p⟩ := lot_loop3 (F := F_L_with_row) Z (μ := μ) (fun lot row g h1 h2 h3 h4 h5 h6 => L_with_row3 Z.w60 Z.ws Z.b0 g h1 Z.r0 h2 h3 h4 h5 h6 μ) (.val d) rows [] .no (Good.nil w b) hl (by simp)
  refine ⟨m, ?_, g, by simpa using l, fun x => by rw [p x]; exact ⟨fun h => h.2, fun h => ⟨perp_nil x, h⟩⟩⟩
  have e : dFor (gNm 2) (dAsg 1 (dCall F_L_with_row (dCons (dVar 1) (dCons (dVar 2) dNil)))) (rows.map Ri) ⟨[.val d, .val (.tup []), .no], μ⟩ = .nx ⟨[.val d, .val (.tup (m.map Ri)), c'], μ⟩ := e
  rcases hd with rfl | rfl <;> simp [F_L_lot, b_L_lot, runF, dForI, e, -List.map_map]
end K11

namespace K11
open PySem PySem.Spec PyProof.Rows L2 DL
/-! ### the rows apart, of known size -/
theorem Sizes3.mono {w b s r K J : Nat} (Z : Sizes3 w b s r K) (h : J ≤ K) : Sizes3 w b s r J := ⟨Z.w60, Z.ws, Z.b0, Z.r0, fun l h1 h2 => Z.add l h1 (by omega), fun l h1 h2 => Z.z2 l h1 (by omega)⟩
structure ApOk3 (w b s : Nat) (lot : List (List Int)) : Prop where
  good : Good w b lot
  w60 : w ≤ 60
  ws : w ≤ 2 ^ s
  n1 : sz b s lot.length ≤ 8900
  z0 : sz b s lot.length + (1 + lot.length * sz b s lot.length) ≤ 40000
  sh : lot.length < w → 1 + lot.length * sz b s lot.length ≤ 8900
  Z : Sizes3 w (sz b s lot.length) s (sz b s lot.length + (1 + lot.length * sz b s lot.length)) (w - lot.length)
structure ApRes3 (w b s : Nat) (lot m' : List (List Int)) : Prop where
  good : Good w (sz b s lot.length) m'
  len : m'.length ≤ (aparts w lot).length
  same : Same m' (aparts w lot)
theorem at0_dvd {g : Int} {xs : List Int} (h : ∀ x ∈ xs, g ∣ x) (j : Nat) : g ∣ at0 xs j := by
  by_cases e : j < xs.length
  · rw [at0_lt e]; exact h _ (List.getElem_mem e)
  · rw [at0_ge (by omega)]; exact ⟨0, by simp⟩
theorem ap_rows3 {w b s : Nat} {lot : List (List Int)} (A : ApOk3 w b s lot) : ∀ o ∈ aparts w lot, o.length = w ∧ Bd (sz b s lot.length + (1 + lot.length * sz b s lot.length)) o ∧ Bd (sz b s lot.length) (low o) ∧ gcdL o < 2 ^ 8900 := by
  have L := A.good.sz A.ws
  intro o ho
  have hmem := List.length_pos_of_mem ho
  obtain ⟨j, hj, rfl⟩ := List.mem_map.mp ho
  obtain ⟨h1, h2⟩ := List.mem_filter.mp hj
  have hjw := List.mem_range.mp h1
  have hc : (leads lot).contains j = false := by simpa using h2
  refine ⟨line_len _ _ _, line_bd L j, (line_small A.good A.ws hjw hc).1, ?_⟩
  have hs := shF_bd lot 1 1 L.bd (by decide)
  have hsh := shF_ne lot 1 L.ld (by decide)
  have hself := line_self L hjw hc
  have hd : (gcdL (lineOf w lot j) : Int) ∣ at0 (lineOf w lot j) j := at0_dvd (gcdF_dvd _ 0).2 j
  rw [hself] at hd
  have := Nat.le_of_dvd (by omega) (Int.ofNat_dvd_left.mp hd)
  exact Nat.lt_of_le_of_lt this (Nat.lt_of_lt_of_le hs (Nat.pow_le_pow_right (by decide) (A.sh (by have := aparts_len L; omega))))
theorem apart_in3 {w b s : Nat} {lot : List (List Int)} (A : ApOk3 w b s lot) (μ : List Cell) : ∃ m', F_apart_in [.int (w : Nat), .tup (lot.map Ri)] μ = .ok (.tup (m'.map Ri)) μ ∧ ApRes3 w b s lot m' := by
  have L := A.good.sz A.ws
  have hw := A.w60
  have hle := L.le
  have h1 := ap_rows3 A
  have hn0 : 0 < sz b s lot.length := Nat.succ_pos _
  obtain ⟨m', e1, g1, k1, p1⟩ := lot_in3 (A.Z.mono (by have := aparts_len L; omega)) h1 (d := .lst ((aparts w lot).map Ri)) (.inr rfl) μ
  refine ⟨m', ?_, g1, k1, p1⟩
  have hs := shF_bd lot 1 1 L.bd (by decide)
  have hz : sz b s lot.length + (1 + lot.length * sz b s lot.length) ≤ 50000 := by have := A.z0; omega
  obtain ⟨c2, c6, e2⟩ := ap_share (.val (.int (w : Nat))) (.val (.tup (lot.map Ri))) (.val (.lst ((ldI lot).map .int))) (.own (.lst [])) .no .no μ hn0 lot 1 1 .no .no (fun o ho => ⟨L.bd o ho, L.ld o ho⟩) (by decide) (by decide) (by rw [Nat.add_mul]; omega)
  obtain ⟨c2', c6', c7', c8', e3⟩ := ap_out (μ := μ) hw L hn0 A.n1 hz w 0 [] c2 c6 .no .no (by omega) (by simp)
  rw [aparts_from, List.nil_append] at e3
  have t : b_apart_in ⟨[.val (.int (w : Nat)), .val (.tup (lot.map Ri)), .no, .no, .no, .no, .no, .no, .no], μ⟩ = .rt (.tup (m'.map Ri)) ⟨[.val (.int (w : Nat)), .val (.tup (lot.map Ri)), c2', .val (.lst ((ldI lot).map .int)), .val (.int (shF 1 lot)), .val (.lst ((aparts w lot).map Ri)), c6', c7', c8'], μ⟩ := by
    unfold b_apart_in
    rw [seq_nx (ap_par (by omega) L.ld)]
    rw [seq_nx (by
      rw [forZp (d := .lst ((ldI lot).map .int)) (e := .tup (lot.map Ri)) (xs := (ldI lot).map .int) (ys := lot.map Ri) (by simp) rfl rfl]
      exact e2)]
    rw [seq_nx (frz5 (by
      rw [forRng (w := w) (by simp) hw]
      exact e3))]
    exact ret_call (ds := [.lst ((aparts w lot).map Ri)]) (by simp) rfl e1 rfl
  exact runF_rt (n := 9) (ds := [.int (w : Nat), .tup (lot.map Ri)]) t
theorem L_apart3 {w b s : Nat} {lot : List (List Int)} (A : ApOk3 w b s lot) (μ : List Cell) : ∃ m', F_L_apart [.tup (lot.map Ri), .int (w : Nat)] μ = .ok (.tup (m'.map Ri)) μ ∧ ApRes3 w b s lot m' := by
  have L := A.good.sz A.ws
  have hw := A.w60
  have hle := L.le
  have h1 := ap_rows3 A
  have hn0 : 0 < sz b s lot.length := Nat.succ_pos _
  obtain ⟨m', e1, g1, k1, p1⟩ := L_lot3 (A.Z.mono (by have := aparts_len L; omega)) h1 (d := .lst ((aparts w lot).map Ri)) (.inr rfl) μ
  refine ⟨m', ?_, g1, k1, p1⟩
  have hz : sz b s lot.length + (1 + lot.length * sz b s lot.length) ≤ 50000 := by have := A.z0; omega
  obtain ⟨c2', c5', c6', c7', e3⟩ := apL_out (μ := μ) hw L hn0 A.n1 hz w 0 [] .no .no .no .no (by omega) (by simp)
  rw [aparts_from, List.nil_append] at e3
  have t : b_L_apart ⟨[.val (.tup (lot.map Ri)), .val (.int (w : Nat)), .no, .no, .no, .no, .no, .no], μ⟩ = .rt (.tup (m'.map Ri)) ⟨[.val (.tup (lot.map Ri)), .val (.int (w : Nat)), c2', .val (.lst ((ldI lot).map .int)), .val (.lst ((aparts w lot).map Ri)), c5', c6', c7'], μ⟩ := by
    unfold b_L_apart
    rw [seq_nx (apL_par (by omega) (fun o ho => by rw [L.len o ho]; omega))]
    rw [seq_nx (frzL4 (by
      rw [forRng (w := w) (by simp) hw]
      exact e3))]
    exact ret_call (ds := [.lst ((aparts w lot).map Ri)]) (by simp) rfl e1 rfl
  exact runF_rt (n := 8) (ds := [.tup (lot.map Ri), .int (w : Nat)]) t
end K11

namespace K11
open PySem PySem.Spec PyProof.Rows L2 DL
/-! ### how many rows are apart -/
def unitR (w i : Nat) : List Int := (List.replicate w 0).set i 1
theorem unit_at {w i j : Nat} (hi : i < w) : at0 (unitR w i) j = if j = i then 1 else 0 := by
  unfold unitR
  rw [at0_set _ (by simpa using hi), at0_rep]
theorem unit_dt {w i : Nat} (hi : i < w) (x : List Int) : dt (unitR w i) x = at0 x i := by
  unfold unitR
  rw [dt_set _ (by simpa using hi), dt_rep, at0_rep]; omega
theorem unit_lead {w i : Nat} (hi : i < w) : lead (unitR w i) = some i := lead_iff.mpr ⟨by rw [unit_at hi, if_pos rfl]; decide, fun j hj => by rw [unit_at hi, if_neg (by omega)]⟩
def unitsR (w : Nat) : List (List Int) := (List.range w).map (unitR w)
theorem units_lt (w : Nat) : Lt w 1 (unitsR w) := by
  refine ⟨fun r hr => ?_, fun r hr => ?_, fun r hr => ?_, ?_⟩
  · obtain ⟨i, hi, rfl⟩ := List.mem_map.mp hr
    simp [unitR]
  · obtain ⟨i, hi, rfl⟩ := List.mem_map.mp hr
    intro z hz
    obtain ⟨j, hj, rfl⟩ := List.getElem_of_mem hz
    rw [← at0_lt hj, unit_at (List.mem_range.mp hi)]
    split <;> decide
  · obtain ⟨i, hi, rfl⟩ := List.mem_map.mp hr
    rw [unit_lead (List.mem_range.mp hi)]; exact fun z => nomatch z
  · unfold unitsR
    rw [List.pairwise_map]
    refine List.pairwise_lt_range.imp_of_mem fun {a b} ha hb hab => ?_
    have ha := List.mem_range.mp ha
    have hb := List.mem_range.mp hb
    refine ⟨fun i hi => ?_, fun i hi => ?_⟩
    · rw [unit_lead ha] at hi; cases hi
      rw [unit_at hb, if_neg (by omega)]
    · rw [unit_lead hb] at hi; cases hi
      rw [unit_at ha, if_neg (by omega)]
theorem dt_self : ∀ x : List Int, 0 ≤ dt x x ∧ (dt x x = 0 → ∀ j, at0 x j = 0)
  | [] => by simp
  | a :: x => by
    obtain ⟨h1, h2⟩ := dt_self x
    have h3 : 0 ≤ a * a := by
      rcases Int.le_total 0 a with h | h
      · exact Int.mul_nonneg h h
      · exact Int.mul_nonneg_of_nonpos_of_nonpos h h
    rw [dt_cons]
    refine ⟨by omega, fun h j => ?_⟩
    have ha : a * a = 0 := by omega
    have hx : dt x x = 0 := by omega
    cases j with
    | zero => rcases Int.mul_eq_zero.mp ha with z | z <;> simpa using z
    | succ j => rw [at0_s]; exact h2 hx j
/-- what is apart from all lines is held -/
theorem held_of_lines {w n : Nat} {lot : List (List Int)} (L : Lt w n lot) {v : List Int} (hv : v.length = w) (h : Perp v (aparts w lot)) : Held w lot v := by
  rw [held_rest L hv]
  refine Classical.byContradiction fun hc => ?_
  obtain ⟨x, x1, x2⟩ := lines_full L hv hc
  exact x2 (by rw [dt_comm]; exact h x x1)
theorem lines_of_held {w n : Nat} {lot : List (List Int)} (L : Lt w n lot) {v : List Int} (h : Held w lot v) : Perp v (aparts w lot) := fun x hx => by
  obtain ⟨x1, x2⟩ := perp_lines L hx
  rw [dt_comm]; exact h x x1 x2
theorem apart_len {w b s : Nat} {lot m : List (List Int)} (g : Good w b lot) (hs : w ≤ 2 ^ s) (R : ApRes3 w b s lot m) : m.length + lot.length = w := by
  have L := g.sz hs
  have LM := R.good.sz hs
  have h1 := R.len
  have h2 := aparts_len L
  have h3 := rank_le (b := max (sz b s lot.length) (sz (sz b s lot.length) s m.length)) (B := lot ++ m) (units_lt w) (fun o ho => by
    rcases List.mem_append.mp ho with h | h
    · exact ⟨L.len o h, (L.bd o h).mono (Nat.le_max_left _ _)⟩
    · exact ⟨LM.len o h, (LM.bd o h).mono (Nat.le_max_right _ _)⟩) (fun x hx hp => by
    have p1 : Perp x lot := fun o ho => hp o (by simp [ho])
    have p2 : Perp x (aparts w lot) := (R.same x).mp fun o ho => hp o (by simp [ho])
    have hz := (dt_self x).2 (held_of_lines L hx p2 x hx p1)
    intro r hr
    obtain ⟨i, hi, rfl⟩ := List.mem_map.mp hr
    rw [dt_comm, unit_dt (List.mem_range.mp hi), hz i])
  simp only [unitsR, List.length_map, List.length_range, List.length_append] at h3
  omega
/-- what is apart from the rows apart is what the lot holds -/
theorem apart_perp {w b s : Nat} {lot m : List (List Int)} (g : Good w b lot) (hs : w ≤ 2 ^ s) (R : ApRes3 w b s lot m) {x : List Int} (hx : x.length = w) : Perp x m ↔ Held w lot x := by
  have L := g.sz hs
  rw [R.same x]
  exact ⟨held_of_lines L hx, lines_of_held L⟩
theorem apart_held {w b s : Nat} {lot m : List (List Int)} (g : Good w b lot) (hs : w ≤ 2 ^ s) (R : ApRes3 w b s lot m) {x : List Int} (hx : x.length = w) : Held w m x ↔ Perp x lot := by
  have L := g.sz hs
  have LM := R.good.sz hs
  constructor
  · intro h o ho
    rw [dt_comm]
    exact h o (L.len o ho) ((apart_perp g hs R (L.len o ho)).mpr (held_self ho))
  · intro h y hy hp
    rw [dt_comm]
    exact (apart_perp g hs R hy).mp hp x hx h
/-- apart twice -/
theorem apart_twice {w b s : Nat} {lot m k : List (List Int)} (g : Good w b lot) (hs : w ≤ 2 ^ s) (R : ApRes3 w b s lot m) (R2 : ApRes3 w (sz b s lot.length) s m k) : k = lot :=
  red_unique R2.good.red g.red fun x hx => by
    rw [apart_perp R.good hs R2 hx, apart_held g hs R hx]
end K11

namespace K11
open PySem PySem.Spec PyProof.Rows L2 DL
/-! ### how many rows are joined and met -/
theorem held_zero {w n : Nat} {lot : List (List Int)} (L : Lt w n lot) {v : List Int} (hv : v.length = w) (h : Held w lot v) (h0 : ∀ i ∈ leads lot, at0 v i = 0) : ∀ j, at0 v j = 0 := by
  cases e : lead v with
  | none => exact fun j => lead_none_at e j
  | some i => exact absurd (h0 i (held_lead L hv h e)) (lead_iff.mp e).1
theorem sm_at {w : Nat} {cs : List Int} {rows : List (List Int)} (hl : ∀ o ∈ rows, o.length = w) (j : Nat) : at0 (sm w cs rows) j = dt cs (col rows j) := by
  unfold sm
  rw [(smF_at (w := w) j hl (by simp)).1, at0_rep]; omega
theorem sm_dt {w : Nat} {cs : List Int} {rows : List (List Int)} (hl : ∀ o ∈ rows, o.length = w) (x : List Int) : dt x (sm w cs rows) = dt cs (rows.map fun r => dt x r) := by
  unfold sm
  rw [dt_smF hl (by simp), dt_comm x, dt_rep]; omega
theorem sm_perp {w : Nat} {cs : List Int} {rows : List (List Int)} (hl : ∀ o ∈ rows, o.length = w) {x : List Int} (hp : Perp x rows) : dt x (sm w cs rows) = 0 := by
  rw [sm_dt hl]
  refine dt_zero fun j => ?_
  rw [at0_mapI]
  cases e : rows[j]? with
  | none => rfl
  | some r => exact hp r (List.mem_of_getElem? e)
/-- a sum of a lot's rows that is 0 has only noughts -/
theorem sm_free {w n : Nat} {lot : List (List Int)} (L : Lt w n lot) {cs : List Int} (hc : cs.length = lot.length) (h : ∀ j, at0 (sm w cs lot) j = 0) : ∀ k, at0 cs k = 0 := by
  intro k
  by_cases hk : k < lot.length
  · have ho : lot[k] ∈ lot := List.getElem_mem hk
    cases eo : lead lot[k] with
    | none => exact absurd eo (L.ld _ ho)
    | some i =>
      have h1 := h i
      rw [sm_at L.len, dt_single k (x := cs) (o := col lot i) (fun j hj => by
        unfold col
        rw [at0_mapI]
        cases e : lot[j]? with
        | none => simp
        | some r =>
          obtain ⟨hj2, e2⟩ := List.getElem?_eq_some_iff.mp e
          have ap : Apart lot[k] r := by
            rcases Nat.lt_trichotomy j k with z | z | z
            · have := List.pairwise_iff_getElem.mp L.ap j k hj2 hk z
              rw [e2] at this; exact this.symm
            · exact absurd z hj
            · have := List.pairwise_iff_getElem.mp L.ap k j hk hj2 z
              rw [e2] at this; exact this
          have := ap.1 i eo
          simp [this])] at h1
      unfold col at h1
      rw [at0_mapI, List.getElem?_eq_getElem hk] at h1
      rcases Int.mul_eq_zero.mp h1 with z | z
      · exact z
      · exact absurd z (lead_iff.mp eo).1
  · rw [at0_ge (by omega)]
theorem at0_app' {x y : List Int} {j : Nat} : at0 (x ++ y) j = if j < x.length then at0 x j else at0 y (j - x.length) := by
  unfold at0
  split
  · rename_i h; simp [List.getD, List.getElem?_append_left h]
  · rename_i h; simp [List.getD, List.getElem?_append_right (Nat.le_of_not_lt h)]
theorem dims_ge {w n1 n2 n3 n4 : Nat} {U V P M : List (List Int)} (LU : Lt w n1 U) (LV : Lt w n2 V) (LP : Lt w n3 P) (LM : Lt w n4 M) (hP : ∀ x, x.length = w → Perp x P → Perp x U ∧ Perp x V) (hM : ∀ x, x.length = w → Held w U x → Held w V x → Held w M x) : U.length + V.length ≤ P.length + M.length := by
  refine Classical.byContradiction fun hc => ?_
  have bU : ∀ i, Bd (max n1 n2) (col U i) := fun i z hz => by
    obtain ⟨r, hr, rfl⟩ := List.mem_map.mp hz
    exact (bd_at ((LU.bd r hr).mono (Nat.le_max_left _ _)) i)
  have bV : ∀ i, Bd (max n1 n2) ((col V i).map fun a => -1 * a) := fun i z hz => by
    obtain ⟨y, hy, rfl⟩ := List.mem_map.mp hz
    obtain ⟨r, hr, rfl⟩ := List.mem_map.mp hy
    have := (bd_at ((LV.bd r hr).mono (Nat.le_max_right n1 n2)) i)
    omega
  obtain ⟨z, z1, _, _, ⟨q, hq, z4⟩, z5⟩ := siegel (w := U.length + V.length) (b := max n1 n2) (s := U.length + V.length)
    (eqs := ((leads P).map fun i => col U i ++ (col V i).map fun a => -1 * a) ++ (leads M).map fun i => col U i ++ List.replicate V.length 0) (S := List.range (U.length + V.length)) (fun e he => by
      rcases List.mem_append.mp he with he | he
      · obtain ⟨i, _, rfl⟩ := List.mem_map.mp he
        refine ⟨by simp [col_len], fun a ha => (List.mem_append.mp ha).elim (bU i a) (bV i a)⟩
      · obtain ⟨i, _, rfl⟩ := List.mem_map.mp he
        refine ⟨by simp [col_len], fun a ha => (List.mem_append.mp ha).elim (bU i a) fun h => by rw [List.eq_of_mem_replicate h]; exact Nat.two_pow_pos _⟩) List.nodup_range (fun j hj => List.mem_range.mp hj) (by simp [leads]; omega) (by simp; exact Nat.le_of_lt Nat.lt_two_pow_self)
  have hz : z = z.take U.length ++ z.drop U.length := (List.take_append_drop ..).symm
  have c1 : (z.take U.length).length = U.length := by rw [List.length_take]; omega
  have d1 : (z.drop U.length).length = V.length := by rw [List.length_drop]; omega
  generalize z.take U.length = c at hz c1
  generalize z.drop U.length = d at hz d1
  subst hz
  have hx : ∀ i ∈ leads P, at0 (sm w c U) i = at0 (sm w d V) i := fun i hi => by
    have := z5 _ (List.mem_append.mpr (.inl (List.mem_map.mpr ⟨i, hi, rfl⟩)))
    rw [dt_app (by rw [c1, col_len]), dt_comm d, dt_map, dt_comm _ d] at this
    rw [sm_at LU.len, sm_at LV.len]
    omega
  have hm : ∀ i ∈ leads M, at0 (sm w c U) i = 0 := fun i hi => by
    have := z5 _ (List.mem_append.mpr (.inr (List.mem_map.mpr ⟨i, hi, rfl⟩)))
    rw [dt_app (by rw [c1, col_len]), dt_comm d, dt_rep] at this
    rw [sm_at LU.len]
    omega
  have xl : (sm w c U).length = w := sm_len LU.len
  have yl : (sm w d V).length = w := sm_len LV.len
  have hu : Held w U (sm w c U) := fun x _ hp => sm_perp LU.len hp
  have hv : Held w V (sm w d V) := fun x _ hp => sm_perp LV.len hp
  have hul : (zw (fun a b => a - b) (sm w c U) (sm w d V)).length = w := by rw [zw_len (by omega)]; exact xl
  have hua : ∀ j, at0 (zw (fun a b => a - b) (sm w c U) (sm w d V)) j = at0 (sm w c U) j - at0 (sm w d V) j := fun j => zw_at (by simp) (by omega) j
  have hd0 := held_zero LP hul (fun x hx2 hp => by
    obtain ⟨p1, p2⟩ := hP x hx2 hp
    have := dt_lin 1 1 (x := x) (z := zw (fun a b => a - b) (sm w c U) (sm w d V)) (r := sm w c U) (o := sm w d V) (by omega) (by omega) (fun j => by rw [hua]; omega)
    rw [this, hu x hx2 p1, hv x hx2 p2]; simp) (fun i hi => by rw [hua, hx i hi]; omega)
  have hxy : sm w c U = sm w d V := ext_at0 (by omega) fun j _ => by have := hd0 j; rw [hua] at this; omega
  have hx0 := held_zero LM xl (hM _ xl hu (by rw [hxy]; exact hv)) hm
  have hc0 := sm_free LU c1 hx0
  have hd0 := sm_free LV d1 (by rw [← hxy]; exact hx0)
  refine z4 ?_
  rw [at0_app']
  split
  · exact hc0 q
  · exact hd0 _
end K11

namespace K11
open PySem PySem.Spec PyProof.Rows L2 DL
theorem perp_app {x : List Int} {A B : List (List Int)} : Perp x (A ++ B) ↔ Perp x A ∧ Perp x B := by
  constructor
  · intro h
    exact ⟨fun r hr => h r (by simp [hr]), fun r hr => h r (by simp [hr])⟩
  · rintro ⟨h1, h2⟩ r hr
    exact (List.mem_append.mp hr).elim (h1 r) (h2 r)
/-- joined and met: as many rows as must be -/
theorem dims {w b s b2 : Nat} {U V P A B T L2 M : List (List Int)} (hs : w ≤ 2 ^ s) (gU : Good w b U) (gV : Good w b V) (gP : Good w b P) (SP : Same P (U ++ V)) (RA : ApRes3 w b s U A) (RB : ApRes3 w b s V B) (RT : ApRes3 w b s P T) (gL : Good w b2 L2) (SL : Same L2 (A ++ B)) (RM : ApRes3 w b2 s L2 M) : P.length + M.length = U.length + V.length := by
  have LU := gU.sz hs
  have LV := gV.sz hs
  have LP := gP.sz hs
  have LL := gL.sz hs
  have LA := RA.good.sz hs
  have LB := RB.good.sz hs
  have LT := RT.good.sz hs
  have LM := RM.good.sz hs
  have h1 := dims_ge LU LV LP LM (fun x _ hp => perp_app.mp ((SP x).mp hp)) (fun x hx hu hv => (apart_held gL hs RM hx).mpr ((SL x).mpr (perp_app.mpr ⟨(apart_perp gU hs RA hx).mpr hu, (apart_perp gV hs RB hx).mpr hv⟩)))
  have h2 := dims_ge LA LB LL LT (fun x _ hp => perp_app.mp ((SL x).mp hp)) (fun x hx ha hb => (apart_held gP hs RT hx).mpr ((SP x).mpr (perp_app.mpr ⟨(apart_held gU hs RA hx).mp ha, (apart_held gV hs RB hx).mp hb⟩)))
  have e1 := apart_len gU hs RA
  have e2 := apart_len gV hs RB
  have e3 := apart_len gP hs RT
  have e4 := apart_len gL hs RM
  omega
/-- two lots of the same rows are one lot -/
theorem good_unique {w b b' : Nat} {A B : List (List Int)} (a : Good w b A) (c : Good w b' B) (h : Same A B) : A = B := red_unique a.red c.red fun x _ => h x
theorem Same.symm {A B : List (List Int)} (h : Same A B) : Same B A := fun x => (h x).symm
theorem Same.trans {A B C : List (List Int)} (h : Same A B) (k : Same B C) : Same A C := fun x => (h x).trans (k x)
theorem Same.perm {A B : List (List Int)} (h : A.Perm B) : Same A B := fun x => ⟨fun q r hr => q r (h.mem_iff.mpr hr), fun q r hr => q r (h.mem_iff.mp hr)⟩
theorem Same.app {A B C D : List (List Int)} (h : Same A B) (k : Same C D) : Same (A ++ C) (B ++ D) := fun x => by rw [perp_app, perp_app, h x, k x]
/-- the rows apart are one lot, whoever finds them -/
theorem apart_unique {w b s : Nat} {U A B : List (List Int)} (a : ApRes3 w b s U A) (c : ApRes3 w b s U B) : A = B := good_unique a.good c.good (a.same.trans c.same.symm)
end K11

namespace K11
open PySem PySem.Spec PyProof.Rows L2 DL
/-! ### is it a lot: the program's way -/
def anyAt (p i : Nat) : Nat → List (List Int) → Bool
  | _, [] => false
  | k, o :: os => (k != p && at0 o i != 0) || anyAt p i (k + 1) os
def plotGo (m : List (List Int)) : Nat → Int → List (List Int) → Bool
  | _, _, [] => true
  | p, ah, r :: rs => match lead r with
    | none => false
    | some i => if decide ((i : Int) ≤ ah) || !decide (low r = r) then false else if anyAt p i 0 m then false else plotGo m (p + 1) i rs
def othB (p i : Nat) : Nat → List (List Int) → List Bool
  | _, [] => []
  | k, o :: os => if k = p then othB p i (k + 1) os else (at0 o i != 0) :: othB p i (k + 1) os
theorem oth_any (p i : Nat) : ∀ (k : Nat) (os : List (List Int)), (othB p i k os).any id = anyAt p i k os
  | _, [] => rfl
  | k, o :: os => by
    unfold othB anyAt
    by_cases h : k = p
    · simp [h, oth_any p i (p + 1) os]
    · have e : (k != p) = true := by simpa using h
      simp [h, e, oth_any p i (k + 1) os]
theorem oth_comp (μ : List Cell) (a b c d : DL.Slot) {w i : Nat} (hi : i < w) (p : Nat) : ∀ (os : List (List Int)) (k : Nat), (∀ o ∈ os, o.length = w) → dLcGo [6, 7] (gT (gC (gNm 6) (gC (gNm 7) gN))) (dCmpT neS (dVar 6) (dVar 4)) (dOp neS (dOp gIx (dVar 7) (dVar 5)) (dC (.int (0)))) (enD k (os.map Ri)) ⟨[a, b, c, d, .val (.int (p : Nat)), .val (.int (i : Nat)), .no, .no], μ⟩ =
    .ok ((othB p i k os).map .bl) ⟨[a, b, c, d, .val (.int (p : Nat)), .val (.int (i : Nat)), .no, .no], μ⟩
  | [], k, _ => rfl
  | o :: os, k, h => by
    have ho := h o (by simp)
    have ih := oth_comp μ a b c d hi p os (k + 1) fun q hq => h q (by simp [hq])
    have hio : i < o.length := by omega
    by_cases e : k = p
    · subst e
      simp [enD, dLcGo, wipeD, backD, othB, ih]
    · have e2 : (!((k : Int) == (p : Int))) = true := by simp; omega
      simp [enD, dLcGo, wipeD, backD, othB, ih, e2, e, ix_row _ _ _ hio, at0_lt hio, bne]
theorem oth_len (p i : Nat) : ∀ (k : Nat) (os : List (List Int)), (othB p i k os).length ≤ os.length
  | _, [] => Nat.le_refl _
  | k, o :: os => by
    have := oth_len p i (k + 1) os
    unfold othB
    split <;> simp <;> omega
theorem any_bls (s : S) (bs : List Bool) : gAny s [.lst (bs.map .bl)] = some (.bl (bs.any id)) := any_bl s id bs
def plotBody : FS := (dSeq (dAsg 5 (dCall F_lead_in (dCons (dVar 2) dNil)))
    (dSeq (dIfS (dOrT (dCmpT isN (dVar 5) (dC .non)) (dOrT (dCmpT gLe (dVar 5) (dVar 3)) (dCmpT neS (dCall F_lowest_row (dCons (dVar 2) dNil)) (dVar 2)))) (dRet (dC (.bl false))) dSkip)
    (dSeq (dIfS (dTruth (dB gAny (dCons (dFrz (dLc [6, 7] (dIterEn (dCons (dVar 1) dNil)) (gT (gC (gNm 6) (gC (gNm 7) gN))) (dCmpT neS (dVar 6) (dVar 4)) (dOp neS (dOp gIx (dVar 7) (dVar 5)) (dC (.int (0)))))) dNil))) (dRet (dC (.bl false))) dSkip)
    (dAsg 3 (dVar 5)))))
theorem plot_loop (μ : List Cell) (W : DL.Slot) {w : Nat} {m : List (List Int)} (hm : ∀ r ∈ m, r.length = w ∧ Bd 8900 r) (hw : w ≤ 60) (hl : m.length ≤ 60) : ∀ (rs : List (List Int)) (p : Nat) (ah : Int) (c2 c4 c5 : DL.Slot), (∀ r ∈ rs, r ∈ m) →
    ∃ d2 d3 d4 d5, dFor (gT (gC (gNm 4) (gC (gNm 2) gN))) plotBody (enD p (rs.map Ri)) ⟨[W, .val (.tup (m.map Ri)), c2, .val (.int ah), c4, c5, .no, .no], μ⟩ =
      (if plotGo m p ah rs then .nx ⟨[W, .val (.tup (m.map Ri)), d2, d3, d4, d5, .no, .no], μ⟩ else .rt (.bl false) ⟨[W, .val (.tup (m.map Ri)), d2, d3, d4, d5, .no, .no], μ⟩)
  | [], p, ah, c2, c4, c5, _ => ⟨c2, _, c4, c5, rfl⟩
  | r :: rs, p, ah, c2, c4, c5, h => by
    have hr := h r (by simp)
    obtain ⟨h1, h2⟩ := hm r hr
    have e2 := lowest_row_ok h2 (by omega) μ
    cases el : lead r with
    | none =>
      refine ⟨.val (Ri r), .val (.int ah), .val (.int p), .val .non, ?_⟩
      simp [enD, dFor, plotBody, lead_in_ok, el, optD, isN, plotGo]
    | some i =>
      have hi : i < w := by have := (lead_some el).1; omega
      by_cases ha : (i : Int) ≤ ah
      · have ha2 : decide ((i : Int) ≤ ah) = true := decide_eq_true ha
        refine ⟨.val (Ri r), .val (.int ah), .val (.int p), .val (.int i), ?_⟩
        simp [enD, dFor, plotBody, lead_in_ok, el, optD, isN, plotGo, ha2]
      · have ha2 : decide ((i : Int) ≤ ah) = false := decide_eq_false ha
        by_cases hw2 : low r = r
        · have hm2 : (m.map Ri).length ≤ 16777216 := by simp; omega
          have oc := oth_comp μ W (.val (.tup (m.map Ri))) (.val (Ri r)) (.val (.int ah)) hi p m 0 fun o ho => (hm o ho).1
          have en : (enD 0 (m.map Ri)).length ≤ 16777216 := by rw [enD_len]; exact hm2
          by_cases hy : anyAt p i 0 m = true
          · refine ⟨.val (Ri r), .val (.int ah), .val (.int p), .val (.int i), ?_⟩
            simp [enD, dFor, plotBody, lead_in_ok, el, optD, isN, plotGo, ha2, e2, hw2, en, oc, any_bls, oth_any, hy, -List.map_map]
          · have hy : anyAt p i 0 m = false := by simpa using hy
            obtain ⟨d2, d3, d4, d5, e⟩ := plot_loop μ W hm hw hl rs (p + 1) i (.val (Ri r)) (.val (.int p)) (.val (.int i)) fun q hq => h q (by simp [hq])
            refine ⟨d2, d3, d4, d5, ?_⟩
            simp [enD, dFor, plotBody, lead_in_ok, el, optD, isN, plotGo, ha2, e2, hw2, en, oc, any_bls, oth_any, hy, -List.map_map]
            unfold plotBody at e
            rw [e]
        · refine ⟨.val (Ri r), .val (.int ah), .val (.int p), .val (.int i), ?_⟩
          simp [enD, dFor, plotBody, lead_in_ok, el, optD, isN, plotGo, ha2, e2, hw2]
/-- what a value tells as a lot -/
def lotB (w : Nat) (f : List (List Int) → Bool) : D → Bool
  | .tup ds => if ds.all (rowB w) then f (ds.map unRi) else false
  | _ => false
structure Okv (w : Nat) (v : D) : Prop where
  fine : Fine v
  len : ∀ xs, v = .tup xs → xs.length ≤ 60
  len2 : ∀ xs, v = .tup xs → ∀ x ∈ xs, ∀ ys, x = .tup ys → ys.length ≤ 16777216
  bd : ∀ xs, v = .tup xs → ∀ r, Ri r ∈ xs → Bd 8900 r
theorem rows_of {w : Nat} {ds : List D} (h : ds.all (rowB w) = true) : ∃ m : List (List Int), ds = m.map Ri ∧ ∀ r ∈ m, r.length = w := by
  induction ds with
  | nil => exact ⟨[], rfl, by simp⟩
  | cons d ds ih =>
    rw [List.all_cons, Bool.and_eq_true] at h
    obtain ⟨xs, rfl, hx⟩ := rowB_of h.1
    obtain ⟨m, rfl, hm⟩ := ih h.2
    exact ⟨xs :: m, rfl, fun r hr => (List.mem_cons.mp hr).elim (fun z => z ▸ hx) (hm r)⟩
theorem Fine.sub {ds : List D} (h : Fine (.tup ds)) : ∀ d ∈ ds, Fine d := by
  cases h with
  | tup _ h => exact h
theorem is_plain_lot_ok {w : Nat} (hw : w ≤ 60) {v : D} (h : Okv w v) (μ : List Cell) : F_is_plain_lot [.int w, v] μ = .ok (.bl (lotB w (fun m => plotGo m 0 (-1) m) v)) μ := by
  obtain ⟨h1, h2, h3, h4⟩ := h
  cases h1 with
  | tup ds hx =>
    have hl := h2 ds rfl
    have hl2 : ds.length ≤ 16777216 := by omega
    have pc := plain_rows .non μ (w := w) (.val (.tup ds)) .no ds fun d hd => ⟨hx d hd, h3 ds rfl d hd⟩
    have pc : ∀ a b c d e f : DL.Slot, dLcGo [2] (gNm 2) dYes (dCall F_is_plain_row (dCons (dVar 0) (dCons (dVar 2) dNil))) ds ⟨[.val (.int w), .val (.tup ds), .no, a, b, c, d, e], μ⟩ = .ok (ds.map fun d => .bl (rowB w d)) ⟨[.val (.int w), .val (.tup ds), .no, a, b, c, d, e], μ⟩ := by
      intro a b c d e f
      have key : ∀ es : List D, (∀ x ∈ es, Fine x ∧ ∀ xs, x = .tup xs → xs.length ≤ 16777216) → dLcGo [2] (gNm 2) dYes (dCall F_is_plain_row (dCons (dVar 0) (dCons (dVar 2) dNil))) es ⟨[.val (.int w), .val (.tup ds), .no, a, b, c, d, e], μ⟩ = .ok (es.map fun d => .bl (rowB w d)) ⟨[.val (.int w), .val (.tup ds), .no, a, b, c, d, e], μ⟩ := by
        intro es
        induction es with
        | nil => intro _; rfl
        | cons x es ih =>
          intro h
          obtain ⟨q1, q2⟩ := h x (by simp)
          simp [dLcGo, wipeD, backD, is_plain_row_ok q1 q2, q1.no, ih fun y hy => h y (by simp [hy])]
      exact key ds fun d hd => ⟨hx d hd, h3 ds rfl d hd⟩
    by_cases ha : ds.all (rowB w) = true
    · obtain ⟨m, rfl, hm⟩ := rows_of ha
      have hm2 : ∀ r ∈ m, r.length = w ∧ Bd 8900 r := fun r hr => ⟨hm r hr, h4 _ rfl r (List.mem_map_of_mem hr)⟩
      have um : (m.map Ri).map unRi = m := by
        rw [List.map_map, show (unRi ∘ Ri) = id from funext unRi_ri, List.map_id]
      obtain ⟨d2, d3, d4, d5, e⟩ := plot_loop μ (.val (.int w)) hm2 hw (by simpa using hl) m 0 (-1) .no .no .no fun _ z => z
      unfold plotBody at e
      have hl3 : m.length ≤ 16777216 := by simpa using hl2
      simp [F_is_plain_lot, b_is_plain_lot, runF, gIsi, tyD, kitB, hl3, pc .no .no .no .no .no .no, ha, dForI, e, lotB, um, -List.map_map]
      cases plotGo m 0 (-1) m <;> simp

    · have ha : ds.all (rowB w) = false := by simpa using ha
      simp [F_is_plain_lot, b_is_plain_lot, runF, gIsi, tyD, kitB, hl2, pc .no .no .no .no .no .no, ha, lotB]
  | non => rfl
  | bl b => rfl
  | int i => rfl
  | str x => rfl
  | lst xs h => rfl
  | dct k => rfl
end K11

namespace K11
open PySem PySem.Spec PyProof.Rows L2 DL
theorem low_self {o : List Int} (hg : gcdL o = 1) {i : Nat} (hi : lead o = some i) (hp : 0 < at0 o i) : low o = o := by
  obtain ⟨h1, h2⟩ := lead_some hi
  have hv : leadV o = at0 o i := by
    unfold leadV
    rw [hi]
    rfl
  have hs : sgn o = 1 := by
    unfold sgn
    rw [hv, if_neg (by omega), hg]; rfl
  unfold low
  rw [if_neg (by omega), hs]
  conv => rhs; rw [← List.map_id o]
  exact List.map_congr_left fun x _ => Int.fdiv_one x
theorem anyAt_no {p i : Nat} : ∀ (os : List (List Int)) (k : Nat), (∀ j (h : j < os.length), k + j ≠ p → at0 os[j] i = 0) → anyAt p i k os = false
  | [], k, _ => rfl
  | o :: os, k, h => by
    unfold anyAt
    rw [anyAt_no os (k + 1) (fun j hj hne => by
      have := h (j + 1) (by simpa using hj) (by omega)
      simpa using this)]
    by_cases e : k = p
    · simp [e]
    · have := h 0 (by simp) (by simpa using e)
      have h2 : at0 o i = 0 := by simpa using this
      simp [h2]
theorem plot_red {w n : Nat} {m : List (List Int)} (L : Lt w n m) (R : Red w m) : ∀ (rs pre : List (List Int)) (ah : Int), m = pre ++ rs → (∀ r ∈ rs, ah < (leadL r : Int)) → plotGo m pre.length ah rs = true
  | [], pre, ah, _, _ => rfl
  | r :: rs, pre, ah, hm, h => by
    have hr : r ∈ m := by rw [hm]; simp
    cases e : lead r with
    | none => exact absurd e (L.ld r hr)
    | some i =>
      have h1 := h r (by simp)
      rw [leadL_some e] at h1
      have h2 : decide ((i : Int) ≤ ah) = false := decide_eq_false (by omega)
      have h3 : decide (low r = r) = true := decide_eq_true (low_self (R.prim r hr) e (R.pos r hr i e))
      have hpl : pre.length < m.length := by rw [hm]; simp
      have hget : m[pre.length] = r := by simp [hm]
      have h4 : anyAt pre.length i 0 m = false := anyAt_no m 0 fun j hj hne => by
        have hne : j ≠ pre.length := by omega
        have ap : Apart r m[j] := by
          rcases Nat.lt_trichotomy j pre.length with z | z | z
          · have := List.pairwise_iff_getElem.mp L.ap j pre.length hj hpl z
            rw [hget] at this; exact this.symm
          · exact absurd z hne
          · have := List.pairwise_iff_getElem.mp L.ap pre.length j hpl hj z
            rw [hget] at this; exact this
        exact ap.1 i e
      have ih := plot_red L R rs (pre ++ [r]) (i : Int) (by rw [hm]; simp) (fun q hq => by
        have := R.srt
        rw [hm] at this
        unfold leads at this
        rw [List.map_append, List.map_cons] at this
        have h5 := (List.pairwise_append.mp this).2.1
        have h6 := (List.pairwise_cons.mp h5).1 (leadL q) (List.mem_map.mpr ⟨q, hq, rfl⟩)
        rw [leadL_some e] at h6
        omega)
      rw [List.length_append, List.length_singleton] at ih
      unfold plotGo
      rw [e]
      simp only [h2, h3, h4, Bool.not_true, Bool.or_self, Bool.false_eq_true, if_false]
      exact ih
theorem plain_lot_red {w n : Nat} {m : List (List Int)} (hw : w ≤ 60) (hn : n ≤ 8900) (L : Lt w n m) (R : Red w m) (μ : List Cell) : F_is_plain_lot [.int (w : Nat), .tup (m.map Ri)] μ = .ok (.bl true) μ := by
  have hle := L.le
  have O : Okv w (.tup (m.map Ri)) := by
    refine ⟨.tup _ fun x hx => ?_, fun xs e => ?_, fun xs e x hx ys e2 => ?_, fun xs e r hr => ?_⟩
    · obtain ⟨r, _, rfl⟩ := List.mem_map.mp hx; exact ri_fine r
    · cases e; simp; omega
    · cases e
      obtain ⟨r, hr, rfl⟩ := List.mem_map.mp hx
      rw [ri_len r ys e2, L.len r hr]; omega
    · cases e
      obtain ⟨q, hq, e⟩ := List.mem_map.mp hr
      have : q = r := by rw [← unRi_ri q, e, unRi_ri]
      subst this
      exact (L.bd q hq).mono hn
  have e := is_plain_lot_ok hw O μ
  have e2 : lotB w (fun m => plotGo m 0 (-1) m) (.tup (m.map Ri)) = true := by
    have h1 : (m.map Ri).all (rowB w) = true := by
      rw [List.all_eq_true]
      intro x hx
      obtain ⟨r, hr, rfl⟩ := List.mem_map.mp hx
      rw [rowB_ri, L.len r hr]; simp
    have h2 : (m.map Ri).map unRi = m := by
      rw [List.map_map]
      have : (unRi ∘ Ri) = id := funext unRi_ri
      rw [this, List.map_id]
    unfold lotB
    simp only [h1, h2, if_true]
    exact plot_red L R m [] (-1) rfl (fun r _ => by omega)
  rw [e2] at e
  exact e
theorem require_lot_ok {w n : Nat} {m : List (List Int)} (hw : w ≤ 60) (hn : n ≤ 8900) (L : Lt w n m) (R : Red w m) (μ : List Cell) : F_require_lot [.int (w : Nat), .tup (m.map Ri)] μ = .ok .non μ := by
  simp [F_require_lot, b_require_lot, runF, plain_lot_red hw hn L R, -List.map_map]
end K11

namespace K11
open PySem PySem.Spec PyProof.Rows L2 DL
/-! ### the package's words for lots -/
theorem lot_of2 {w b s : Nat} {rows : List (List Int)} (h1 : 1 ≤ w) (Z : Sizes w b s rows.length) (hl : ∀ o ∈ rows, o.length = w ∧ Bd b o) (hk : rows.length ≤ 60) (μ : List Cell) : ∃ m, F_lot_of [.int (w : Nat), .tup (rows.map Ri)] μ = .ok (.tup (m.map Ri)) μ ∧ Good w b m ∧ m.length ≤ rows.length ∧ Same m rows := by
  obtain ⟨m, e, g, l, p⟩ := lot_in2 Z hl (d := .tup (rows.map Ri)) (.inl rfl) μ
  refine ⟨m, ?_, g, l, p⟩
  have hw := Z.w60
  simp [F_lot_of, b_lot_of, runF, require_width_ok h1 hw, require_rows_ok (w := w) (m := rows) (fun o ho => (hl o ho).1) (by omega) (by omega), e, -List.map_map]
theorem does_hold_ok {w n r : Nat} {lot : List (List Int)} {row : List Int} (hw : w ≤ 60) (hn : 0 < n) (hr0 : 0 < r) (L : Lt w n lot) (hr : row.length = w) (hb : Bd r row) (hz : r + (lot.length + 1) * (n + 1) ≤ 40000) (μ : List Cell) : F_does_hold [.tup (lot.map Ri), Ri row] μ = .ok (.bl (decide (lead (rest lot row) = none))) μ := by
  have e1 := rest_by_ok (w := w) (n := n) (r := r) (by omega) hn (lot := lot) (row := row) (fun o ho => ⟨L.len o ho, L.bd o ho, L.ld o ho⟩) hr hb hr0 hz μ
  have e2 := lead_in_ok (rest lot row) μ
  cases e : lead (rest lot row) with
  | none => rw [e] at e2; simp [F_does_hold, b_does_hold, runF, e1, e2, optD, isN, -List.map_map]
  | some i => rw [e] at e2; simp [F_does_hold, b_does_hold, runF, e1, e2, optD, isN, -List.map_map]
theorem holds_ok {w b s r : Nat} {lot : List (List Int)} {row : List Int} (h1 : 1 ≤ w) (hw : w ≤ 60) (hs : w ≤ 2 ^ s) (hr0 : 0 < r) (g : Good w b lot) (hn : sz b s lot.length ≤ 8900) (hr : row.length = w) (hb : Bd r row) (hz : r + (lot.length + 1) * (sz b s lot.length + 1) ≤ 40000) (μ : List Cell) : F_holds [.int (w : Nat), .tup (lot.map Ri), Ri row] μ = .ok (.bl (decide (lead (rest lot row) = none))) μ := by
  have L := g.sz hs
  simp [F_holds, b_holds, runF, require_width_ok h1 hw, require_lot_ok hw hn L g.red, require_row_ok hr (show w ≤ 16777216 by omega), does_hold_ok hw (Nat.succ_pos _) hr0 L hr hb hz, -List.map_map]
theorem require_two_ok {w n n' : Nat} {A B : List (List Int)} (h1 : 1 ≤ w) (hw : w ≤ 60) (hn : n ≤ 8900) (hn' : n' ≤ 8900) (LA : Lt w n A) (RA : Red w A) (LB : Lt w n' B) (RB : Red w B) (μ : List Cell) : F_require_two_lots [.int (w : Nat), .tup (A.map Ri), .tup (B.map Ri)] μ = .ok .non μ := by
  simp [F_require_two_lots, b_require_two_lots, runF, require_width_ok h1 hw, require_lot_ok hw hn LA RA, require_lot_ok hw hn' LB RB, -List.map_map]
theorem joined_ok {w n n' b s : Nat} {A B : List (List Int)} (h1 : 1 ≤ w) (hn : n ≤ 8900) (hn' : n' ≤ 8900) (LA : Lt w n A) (RA : Red w A) (LB : Lt w n' B) (RB : Red w B) (Z : Sizes w b s (A ++ B).length) (hl : ∀ o ∈ A ++ B, o.length = w ∧ Bd b o) (μ : List Cell) : ∃ m, F_joined_lots [.int (w : Nat), .tup (A.map Ri), .tup (B.map Ri)] μ = .ok (.tup (m.map Ri)) μ ∧ Good w b m ∧ Same m (A ++ B) := by
  obtain ⟨m, e, g, l, p⟩ := lot_in2 Z hl (d := .tup ((A ++ B).map Ri)) (.inl rfl) μ
  refine ⟨m, ?_, g, p⟩
  have q1 := LA.le
  have q2 := LB.le
  have hw := Z.w60
  have ea : ∀ s : S, gAdd s (.tup (A.map Ri)) (.tup (B.map Ri)) = some (.tup ((A ++ B).map Ri)) := fun s => by
    rw [add_tt2 _ _ _ (by simp; omega), List.map_append]
  simp [F_joined_lots, b_joined_lots, runF, require_two_ok h1 hw hn hn' LA RA LB RB, ea, e, -List.map_map, -List.map_append]
theorem rows_apart_ok {w b s : Nat} {lot : List (List Int)} (h1 : 1 ≤ w) (A : ApOk3 w b s lot) (μ : List Cell) : ∃ m, F_rows_apart [.int (w : Nat), .tup (lot.map Ri)] μ = .ok (.tup (m.map Ri)) μ ∧ ApRes3 w b s lot m := by
  obtain ⟨m, e, R⟩ := apart_in3 A μ
  have hw := A.w60
  refine ⟨m, ?_, R⟩
  simp [F_rows_apart, b_rows_apart, runF, require_width_ok h1 hw, require_lot_ok hw A.n1 (A.good.sz A.ws) A.good.red, e, -List.map_map]
theorem met_ok {w b s c : Nat} {U V : List (List Int)} (h1 : 1 ≤ w) (AU : ApOk3 w b s U) (AV : ApOk3 w b s V) (Z : ∀ A B, ApRes3 w b s U A → ApRes3 w b s V B → Sizes w c s (A ++ B).length ∧ (∀ o ∈ A ++ B, o.length = w ∧ Bd c o)) (Y : ∀ L2, Good w c L2 → ApOk3 w c s L2) (μ : List Cell) :
    ∃ A B L2 M, F_met_lots [.int (w : Nat), .tup (U.map Ri), .tup (V.map Ri)] μ = .ok (.tup (M.map Ri)) μ ∧ ApRes3 w b s U A ∧ ApRes3 w b s V B ∧ Good w c L2 ∧ Same L2 (A ++ B) ∧ ApRes3 w c s L2 M := by
  obtain ⟨A, e1, RA⟩ := apart_in3 AU μ
  obtain ⟨B, e2, RB⟩ := apart_in3 AV μ
  obtain ⟨z1, z2⟩ := Z A B RA RB
  obtain ⟨L2, e3, g, l, p⟩ := lot_in2 z1 z2 (d := .tup ((A ++ B).map Ri)) (.inl rfl) μ
  obtain ⟨M, e4, RM⟩ := apart_in3 (Y L2 g) μ
  refine ⟨A, B, L2, M, ?_, RA, RB, g, p, RM⟩
  have q1 := RA.good.le
  have q2 := RB.good.le
  have hw := AU.w60
  have ea : ∀ s : S, gAdd s (.tup (A.map Ri)) (.tup (B.map Ri)) = some (.tup ((A ++ B).map Ri)) := fun s => by
    rw [add_tt2 _ _ _ (by simp; omega), List.map_append]
  simp [F_met_lots, b_met_lots, runF, require_two_ok h1 hw AU.n1 AV.n1 (AU.good.sz AU.ws) AU.good.red (AV.good.sz AV.ws) AV.good.red, e1, e2, e3, e4, ea, -List.map_map, -List.map_append]
end K11

namespace K11
open PySem PySem.Spec PyProof.Rows L2 DL
/-! ### sizes of the lots that are met -/
/-- a lot of as many rows as places has small rows -/
theorem full_small {w n : Nat} {lot : List (List Int)} (L : Lt w n lot) (R : Red w lot) (h : lot.length = w) : Lt w 1 lot := by
  refine ⟨L.len, fun o ho => ?_, L.ld, L.ap⟩
  cases hi : lead o with
  | none => exact absurd hi (L.ld o ho)
  | some i =>
    have hiw : i < w := by have := (lead_some hi).1; have := L.len o ho; omega
    refine row_le L ho (R.prim o ho) hi (v := unitR w i) (by simp [unitR]) (fun p hp j hj ne => by rw [unit_at hiw, if_neg ne]) (fun x hx hp => ?_) ⟨i, by rw [unit_at hiw, if_pos rfl]; decide⟩ (fun z hz => ?_)
    · have hz : ∀ j, at0 x j = 0 := fun j => by
        by_cases hj : j < w
        · have hj2 : j ∈ leads lot := (nodup_le w (leads lot) L.nodup.1 L.nodup.2).2 (by simpa [leads] using h) j hj
          obtain ⟨q, hq, eq⟩ := mem_leads hj2 L
          have h0 := hp q hq
          rw [dt_single j (x := x) (o := q) (fun k hk => by
            by_cases hkw : k < w
            · have hk2 : k ∈ leads lot := (nodup_le w (leads lot) L.nodup.1 L.nodup.2).2 (by simpa [leads] using h) k hkw
              obtain ⟨r, hr, er⟩ := mem_leads hk2 L
              rw [L.off hq hr eq er hk]; simp
            · rw [show at0 x k = 0 from at0_ge (by omega)]; simp)] at h0
          rcases Int.mul_eq_zero.mp h0 with z | z
          · exact z
          · exact absurd z (lead_iff.mp eq).1
        · exact at0_ge (by omega)
      rw [dt_comm]
      exact dt_zero hz
    · obtain ⟨j, hj, rfl⟩ := List.getElem_of_mem hz
      rw [← at0_lt hj, unit_at hiw]
      split <;> decide
theorem nodup_sub : ∀ {l k : List Nat}, l.Nodup → (∀ x ∈ l, x ∈ k) → l.length ≤ k.length
  | [], k, _, _ => Nat.zero_le _
  | x :: l, k, nd, h => by
    have nd' := List.nodup_cons.mp nd
    have hx := h x (by simp)
    have ih := nodup_sub (l := l) (k := k.erase x) nd'.2 (fun y hy => (List.mem_erase_of_ne (show y ≠ x from fun e => nd'.1 (by rw [← e]; exact hy))).mpr (h y (by simp [hy])))
    rw [List.length_erase_of_mem hx] at ih
    have := List.length_pos_of_mem hx
    rw [List.length_cons]; omega
theorem filter_split (l : List Nat) (p : Nat → Bool) : l.length = (l.filter p).length + (l.filter fun x => !p x).length := by
  induction l with
  | nil => rfl
  | cons x l ih => cases h : p x <;> simp [h, ih] <;> omega
/-- the rows apart are small -/
theorem apart_small {w b s : Nat} {lot m : List (List Int)} (g : Good w b lot) (hs : w ≤ 2 ^ s) (R : ApRes3 w b s lot m) : Lt w (sz b s lot.length) m := by
  have L := g.sz hs
  have LM := R.good.sz hs
  have hl := apart_len g hs R
  obtain ⟨B, b1, b2, b3⟩ := g.bas
  refine ⟨LM.len, fun o ho => ?_, LM.ld, LM.ap⟩
  cases hi : lead o with
  | none => exact absurd hi (LM.ld o ho)
  | some i =>
    have himem : i ∈ leads m := List.mem_map.mpr ⟨o, ho, leadL_some hi⟩
    have hiw := LM.nodup.2 i himem
    have hS : ((List.range w).filter fun j => !((leads m).erase i).contains j).length + ((leads m).erase i).length ≥ w := by
      have : ∀ l : List Nat, w ≤ ((List.range w).filter fun j => !l.contains j).length + l.length := fun l => by
        have h1 := filter_split (List.range w) (fun j => !l.contains j)
        have h2 := nodup_sub (l := (List.range w).filter fun j => !(!l.contains j)) (k := l) (List.nodup_range.filter _) (fun x hx => by
          have := (List.mem_filter.mp hx).2
          simpa using this)
        rw [List.length_range] at h1
        omega
      exact this _
    have he : ((leads m).erase i).length = m.length - 1 := by rw [List.length_erase_of_mem himem]; simp [leads]
    have hpos := List.length_pos_of_mem ho
    obtain ⟨x, x1, x2, x3, ⟨j, hj, x4⟩, x5⟩ := siegel (w := w) (b := b) (s := s) (eqs := B) (S := (List.range w).filter fun j => !((leads m).erase i).contains j) b2 (List.nodup_range.filter _) (fun k hk => List.mem_range.mp (List.mem_filter.mp hk).1) (by omega) (Nat.le_trans (Nat.le_trans (List.length_filter_le _ _) (by simp)) hs)
    rw [b1] at x3
    have xp : Perp x lot := (b3 x).mpr x5
    refine row_le LM ho (R.good.red.prim o ho) hi x1 (fun p hp k hk ne => x2 k fun hm => ?_) ((apart_held g hs R x1).mpr xp) ⟨j, x4⟩ x3
    have h2 := (List.mem_filter.mp hm).2
    have : k ∈ (leads m).erase i := (List.mem_erase_of_ne ne).mpr (List.mem_map.mpr ⟨p, hp, leadL_some hk⟩)
    rw [List.contains_iff_mem.mpr this] at h2
    cases h2
end K11

namespace K11
open PySem PySem.Spec PyProof.Rows L2 DL
/-! ### the sizes that are met at widths to six -/
instance (b s l : Nat) : Decidable (CanAdd b s l) := inferInstanceAs (Decidable (_ ∧ _))
theorem add326 : ∀ l < 6, CanAdd 326 3 l := by decide
theorem add80 : ∀ l < 6, CanAdd 80 3 l := by decide
theorem add60 : ∀ l < 6, CanAdd 60 3 l := by decide
theorem zz : ∀ l ≤ 6, 326 + (l + 1) * (sz 326 3 l + 1) ≤ 40000 ∧ 80 + (l + 1) * (sz 80 3 l + 1) ≤ 40000 ∧ 60 + (l + 1) * (sz 60 3 l + 1) ≤ 40000 ∧ 326 + (l + 1) * (sz 60 3 l + 1) ≤ 40000 := by decide
theorem S326 {w : Nat} (hw : w ≤ 6) (K : Nat) : Sizes w 326 3 K := ⟨by omega, by omega, by decide, fun l h _ => add326 l (by omega), fun l h _ => (zz l (by omega)).1⟩
theorem S80 {w : Nat} (hw : w ≤ 6) (K : Nat) : Sizes w 80 3 K := ⟨by omega, by omega, by decide, fun l h _ => add80 l (by omega), fun l h _ => (zz l (by omega)).2.1⟩
theorem S60 {w : Nat} (hw : w ≤ 6) (K : Nat) : Sizes w 60 3 K := ⟨by omega, by omega, by decide, fun l h _ => add60 l (by omega), fun l h _ => (zz l (by omega)).2.2.1⟩
theorem sz_le : ∀ l ≤ 6, sz 60 3 l ≤ 8900 ∧ sz 326 3 l ≤ 8900 ∧ sz 60 3 l + (1 + l * sz 60 3 l) ≤ 40000 ∧ sz 326 3 l + (1 + l * sz 326 3 l) ≤ 40000 := by decide
theorem sz_lt : ∀ l < 6, 1 + l * sz 60 3 l ≤ 8900 ∧ 1 + l * sz 326 3 l ≤ 8900 ∧ sz 60 3 l ≤ 326 := by decide
theorem ap60 : ∀ l ≤ 6, ∀ k < 6 - l, (k = 0 ∨ sz 60 3 l + (1 + l * sz 60 3 l) + k * (sz (sz 60 3 l) 3 k + 1) ≤ 8900) ∧ sz (sz 60 3 l) 3 k + sz (sz 60 3 l) 3 (k + 1) + 1 ≤ 8900 := by decide
theorem ap326 : ∀ l ≤ 6, ∀ k < 6 - l, (k = 0 ∨ sz 326 3 l + (1 + l * sz 326 3 l) + k * (sz (sz 326 3 l) 3 k + 1) ≤ 8900) ∧ sz (sz 326 3 l) 3 k + sz (sz 326 3 l) 3 (k + 1) + 1 ≤ 8900 := by decide
theorem ap60z : ∀ l ≤ 6, ∀ k ≤ 6 - l, sz 60 3 l + (1 + l * sz 60 3 l) + (k + 1) * (sz (sz 60 3 l) 3 k + 1) ≤ 40000 := by decide
theorem ap326z : ∀ l ≤ 6, ∀ k ≤ 6 - l, sz 326 3 l + (1 + l * sz 326 3 l) + (k + 1) * (sz (sz 326 3 l) 3 k + 1) ≤ 40000 := by decide
theorem A60 {w : Nat} (hw : w ≤ 6) {lot : List (List Int)} (g : Good w 60 lot) : ApOk3 w 60 3 lot := by
  have hl := g.le
  obtain ⟨a, _, c, _⟩ := sz_le lot.length (by omega)
  exact ⟨g, by omega, by omega, a, c, fun h => (sz_lt _ (by omega)).1, by omega, by omega, Nat.succ_pos _, by show 0 < _ + _; omega, fun l _ h => ap60 _ (by omega) l (by omega), fun l _ h => ap60z _ (by omega) l (by omega)⟩
theorem A326 {w : Nat} (hw : w ≤ 6) {lot : List (List Int)} (g : Good w 326 lot) : ApOk3 w 326 3 lot := by
  have hl := g.le
  obtain ⟨_, a, _, c⟩ := sz_le lot.length (by omega)
  exact ⟨g, by omega, by omega, a, c, fun h => (sz_lt _ (by omega)).2.1, by omega, by omega, Nat.succ_pos _, by show 0 < _ + _; omega, fun l _ h => ap326 _ (by omega) l (by omega), fun l _ h => ap326z _ (by omega) l (by omega)⟩
/-- the rows of a lot are rows again -/
theorem lot_rows {w : Nat} (hw : w ≤ 6) {lot : List (List Int)} (g : Good w 60 lot) : ∀ o ∈ lot, o.length = w ∧ Bd 326 o := fun o ho => by
  have L := g.sz (s := 3) (by omega)
  refine ⟨L.len o ho, ?_⟩
  rcases Nat.lt_or_ge lot.length w with h | h
  · exact (L.bd o ho).mono (sz_lt _ (by omega)).2.2
  · exact ((full_small L g.red (Nat.le_antisymm g.le h)).bd o ho).mono (by decide)
theorem apart_rows {w : Nat} (hw : w ≤ 6) {lot m : List (List Int)} (g : Good w 60 lot) (R : ApRes3 w 60 3 lot m) : ∀ o ∈ m, o.length = w ∧ Bd 326 o := fun o ho => by
  have L := apart_small g (s := 3) (by omega) R
  have hl := apart_len g (s := 3) (by omega) R
  have := List.length_pos_of_mem ho
  exact ⟨L.len o ho, (L.bd o ho).mono (sz_lt _ (by omega)).2.2⟩
end K11

namespace K11
open PySem PySem.Spec PyProof.Rows L2 DL
/-! ### the dice -/
def Dc (k n : Nat) (μ : List Cell) : Prop := (∃ a b c : Int, μ[n]? = some (.lst [.int a, .int b, .int c]) ∧ 0 ≤ c ∧ c ≤ k) ∧ μ.all nLc = true
theorem Dc.mono {k j n : Nat} {μ : List Cell} (h : Dc k n μ) (hk : k ≤ j) : Dc j n μ := by
  obtain ⟨⟨a, b, c, h1, h2, h3⟩, h4⟩ := h
  exact ⟨⟨a, b, c, h1, h2, by omega⟩, h4⟩
theorem ix_ref {s : S} {n : Nat} {xs : List D} (h : s.μ[n]? = some (.lst xs)) (i : Int) : gIx s (.ref n) (.int i) = atI xs i := by
  show (asL s (.ref n)).bind _ = _
  simp [asL, cellAt, h]
theorem ix0 (a b c : D) : atI [a, b, c] 0 = some a := rfl
theorem ix1 (a b c : D) : atI [a, b, c] 1 = some b := rfl
theorem ix2 (a b c : D) : atI [a, b, c] 2 = some c := rfl
theorem set_ref {s : S} {n : Nat} {xs : List D} (h : s.μ[n]? = some (.lst xs)) (i : Int) (d : D) : gSetI s (.ref n) (.int i) d = (ixN xs.length i).map fun j => { s with μ := s.μ.set n (.lst (xs.set j d)) } := by
  simp [gSetI, mutAt, h, setAt]
theorem set0 {s : S} {n : Nat} {a b c : D} (h : s.μ[n]? = some (.lst [a, b, c])) (d : D) : gSetI s (.ref n) (.int 0) d = some { s with μ := s.μ.set n (.lst [d, b, c]) } := by rw [set_ref h]; rfl
theorem set2 {s : S} {n : Nat} {a b c : D} (h : s.μ[n]? = some (.lst [a, b, c])) (d : D) : gSetI s (.ref n) (.int 2) d = some { s with μ := s.μ.set n (.lst [a, b, d]) } := by rw [set_ref h]; rfl
theorem fmod_rng {a t : Int} (h : 0 < t) : 0 ≤ a.fmod t ∧ a.fmod t < t := ⟨Int.fmod_nonneg_of_pos a h, Int.fmod_lt_of_pos a h⟩
theorem small_of {a t : Int} {n : Nat} (h : 0 < t) (ht : t ≤ 2 ^ n) : (a.fmod t).natAbs < 2 ^ n := by
  obtain ⟨h1, h2⟩ := fmod_rng (a := a) h
  have : ((a.fmod t).natAbs : Int) < ((2 ^ n : Nat) : Int) := by push_cast; omega
  exact_mod_cast this

theorem all_set {μ : List Cell} {n : Nat} {c : Cell} (h : μ.all nLc = true) (hc : nLc c = true) : (μ.set n c).all nLc = true := by
  rw [List.all_eq_true] at h ⊢
  intro x hx
  rcases List.mem_or_eq_of_mem_set hx with h1 | rfl
  · exact h x h1
  · exact hc
theorem roll_ok {k n : Nat} {t : Int} {μ : List Cell} (h : Dc k n μ) (hk : k ≤ 100000) (h1 : 1 ≤ t) (h2 : t ≤ 65536) : ∃ (r : Nat) (μ' : List Cell), F_L_roll [.ref n, .int t] μ = .ok (.int r) μ' ∧ (r : Int) < t ∧ Dc (k + 1) n μ' := by
  obtain ⟨⟨a, b, c, e, hc0, hc1⟩, hnl⟩ := h
  have hn : n < μ.length := by
    rcases Nat.lt_or_ge n μ.length with z | z
    · exact z
    · rw [List.getElem?_eq_none z] at e; cases e
  have t0 : t ≠ 0 := by omega
  have tb : t.natAbs < 2 ^ 17 := by omega
  have fo : ∀ x, fdivOk x t = true := fun x => fdivOk_of t0 tb (by decide) (by decide)
  by_cases ha : 0 < a
  · obtain ⟨q1, q2⟩ := fmod_rng (a := a) (t := t) (by omega)
    obtain ⟨r, hr⟩ := Int.eq_ofNat_of_zero_le q1
    refine ⟨r, μ.set n (.lst [.int (a.fdiv t), .int b, .int c]), ?_, by omega, ⟨⟨a.fdiv t, b, c, by simp [hn], hc0, by omega⟩, all_set hnl rfl⟩⟩
    have hs := hr.symm
    simp [F_L_roll, b_L_roll, runF, ix_ref (s := ⟨_, μ⟩) e, ix0, ix1, ix2, ha, mod_ii t0, fdiv_ii (fo a), dSetI, set0 (s := ⟨_, μ⟩) e, gInt, hr]
  · let μ1 := μ.set n (.lst [.int a, .int b, .int (c + 1)])
    have e1 : μ1[n]? = some (.lst [.int a, .int b, .int (c + 1)]) := by simp [μ1, hn]
    have hnl1 : μ1.all nLc = true := all_set hnl rfl
    have cb : (c + 1).natAbs < 2 ^ 20 := by omega
    have m1 : mulOk 49979687 (c + 1) = true := mulOk_of (n := 30) (m := 20) (by decide) cb (by decide) (by decide) (by decide)
    have m2 : mulOk 131 (c + 1) = true := mulOk_of (n := 30) (m := 20) (by decide) cb (by decide) (by decide) (by decide)
    let x := (b + 49979687 * (c + 1)).fmod 2305843009213693951
    have xb : x.natAbs < 2 ^ 61 := small_of (by decide) (by decide)
    have m3 : mulOk x x = true := mulOk_of xb xb (by decide) (by decide) (by decide)
    let y := (x * x + 131 * (c + 1)).fmod 2305843009213693921
    have yb : y.natAbs < 2 ^ 61 := small_of (by decide) (by decide)
    have m4 : mulOk y 32452843 = true := mulOk_of (n := 61) (m := 30) yb (by decide) (by decide) (by decide) (by decide)
    have f1 : ∀ z, fdivOk z 65587 = true := fun z => fdivOk_of (n := 20) (by decide) (by decide) (by decide) (by decide)
    obtain ⟨q1, q2⟩ := fmod_rng (a := (y * 32452843 + x).fdiv 65587) (t := t) (by omega)
    obtain ⟨r, hr⟩ := Int.eq_ofNat_of_zero_le q1
    refine ⟨r, μ1, ?_, by omega, ⟨⟨a, b, c + 1, e1, by omega, by omega⟩, hnl1⟩⟩
    have hs := hr.symm
    have ex : (b + 49979687 * (c + 1)).fmod 2305843009213693951 = x := rfl
    have ey : (x * x + 131 * (c + 1)).fmod 2305843009213693921 = y := rfl
    have eμ : μ.set n (.lst [.int a, .int b, .int (c + 1)]) = μ1 := rfl
    clear_value x y μ1
    simp [F_L_roll, b_L_roll, runF, ix_ref (s := ⟨_, μ⟩) e, ix0, ix1, ix2, ha, mod_ii t0, dSetI, set2 (s := ⟨_, μ⟩) e, gInt, ix_ref (s := ⟨_, μ1⟩) e1, mul_ii m1, mul_ii m2, mod_ii, mul_ii m3, mul_ii m4, fdiv_ii (f1 _), hr, ex, ey, eμ]
theorem pick_okD {k n : Nat} {xs : List D} {μ : List Cell} (h : Dc k n μ) (hk : k ≤ 100000) (h1 : 1 ≤ xs.length) (h2 : xs.length ≤ 65536) (hno : ∀ x ∈ xs, noOwn x = true) : ∃ x ∈ xs, ∃ μ', F_L_pick [.ref n, .lst xs] μ = .ok x μ' ∧ Dc (k + 1) n μ' := by
  obtain ⟨r, μ', e, hr, d⟩ := roll_ok (t := (xs.length : Int)) h hk (by omega) (by omega)
  have hl : xs.length ≤ 16777216 := by omega
  have hr : r < xs.length := by omega
  have ei : ∀ s : S, gIx s (.lst xs) (.int (r : Int)) = some xs[r] := fun s => by simp [gIx, L2.atI, L2.ixN, hr]
  refine ⟨xs[r], List.getElem_mem hr, μ', ?_, d⟩
  have hn := hno _ (List.getElem_mem hr)
  simp [F_L_pick, b_L_pick, runF, gLen, hl, e, ei, hn]
/-! ### shuffled -/
structure DataL (xs : List D) : Prop where
  no : ∀ x ∈ xs, noOwn x = true
  nl : ∀ x ∈ xs, nL x = true
  py : ∃ ps, toPyL xs = some ps ∧ PyData.canLayAll0 ps = true ∧ PyData.depthAll ps ≤ 3
theorem toPyL_mem : ∀ {xs : List D} {ps : List PyData}, toPyL xs = some ps → ps.length = xs.length
  | [], ps, h => by simp only [toPyL, Option.some.injEq] at h; subst h; rfl
  | x :: xs, ps, h => by
    simp only [toPyL] at h
    split at h
    · rename_i y ys h1 h2
      cases h
      simp [toPyL_mem h2]
    · cases h
theorem toPyL_cons {x : D} {xs : List D} {ps : List PyData} (h : toPyL (x :: xs) = some ps) : ∃ q qs, ps = q :: qs ∧ toPy x = some q ∧ toPyL xs = some qs := by
  simp only [toPyL] at h
  split at h
  · rename_i y ys h1 h2; cases h; exact ⟨_, _, rfl, h1, h2⟩
  · cases h
theorem erase_py : ∀ {xs : List D} {ps : List PyData} (k : Nat), toPyL xs = some ps → PyData.canLayAll0 ps = true → PyData.depthAll ps ≤ 3 → ∃ qs, toPyL (xs.eraseIdx k) = some qs ∧ PyData.canLayAll0 qs = true ∧ PyData.depthAll qs ≤ 3
  | [], ps, k, h, h2, h3 => ⟨ps, by simpa using h, h2, h3⟩
  | x :: xs, ps, k, h, h2, h3 => by
    obtain ⟨q, qs, rfl, e1, e2⟩ := toPyL_cons h
    simp only [PyData.canLayAll0, Bool.and_eq_true] at h2
    simp only [PyData.depthAll] at h3
    cases k with
    | zero => exact ⟨qs, by simpa using e2, h2.2, by omega⟩
    | succ k =>
      obtain ⟨rs, r1, r2, r3⟩ := erase_py k e2 h2.2 (by omega)
      refine ⟨q :: rs, by simp [toPyL, e1, r1], by simp [PyData.canLayAll0, h2.1, r2], by simp only [PyData.depthAll]; omega⟩
theorem DataL.erase {xs : List D} (h : DataL xs) (k : Nat) : DataL (xs.eraseIdx k) := by
  obtain ⟨ps, p1, p2, p3⟩ := h.py
  exact ⟨fun x hx => h.no x (List.mem_of_mem_eraseIdx hx), fun x hx => h.nl x (List.mem_of_mem_eraseIdx hx), erase_py k p1 p2 p3⟩
theorem ne_ownD {s : S} {i : Nat} {xs : List D} (h : s.δ[i]? = some (.own (.lst xs))) (d : DataL xs) : neS s (.own i) (.lst []) = some (.bl (!xs.isEmpty)) := by
  obtain ⟨ps, p1, p2, p3⟩ := d.py
  have e1 : toPyS s (.own i) = some (.list ps) := by
    simp only [toPyS, asL, cellAt, h, Option.bind_some, p1, Option.map_some]
  have e2 : toPyS s (.lst []) = some (.list []) := rfl
  have h2 : SeqAt.shaped (.list []) = true := rfl
  have h3 : SeqAt.shaped (.list ps) = true := by
    unfold SeqAt.shaped
    simp only [PyData.canLay0, p2, PyData.depth, Bool.true_and]
    exact decide_eq_true (by omega)
  have hl := toPyL_mem p1
  simp only [neS, twoStr, gDat, e1, e2, neG, h2, h3, Bool.and_self, if_true, Option.map_some]
  cases xs with
  | nil => cases ps with
    | nil => rfl
    | cons _ _ => simp at hl
  | cons x xs => cases ps with
    | nil => simp at hl
    | cons _ _ => rfl
def shB : FS := (dDrop (dM "list" gAppend (dVar 2) (dCons (dM "list" gPopAt (dVar 3) (dCons (dCall F_L_roll (dCons (dVar 0) (dCons (dB gLen (dCons (dVar 3) dNil)) dNil))) dNil)) dNil)))
theorem shB_ok {k n : Nat} {fs xs : List D} {a1 : DL.Slot} {μ : List Cell} (h : Dc k n μ) (hk : k ≤ 90000) (h1 : 1 ≤ xs.length) (h2 : xs.length ≤ 1000) (hf : fs.length ≤ 1000) (d : DataL xs) : ∃ (r : Nat) (hr : r < xs.length) (μ' : List Cell), Dc (k + 1) n μ' ∧
    shB ⟨[.val (.ref n), a1, .own (.lst fs), .own (.lst xs)], μ⟩ = .nx ⟨[.val (.ref n), a1, .own (.lst (fs ++ [xs[r]])), .own (.lst (xs.eraseIdx r))], μ'⟩ := by
  obtain ⟨r, μ', e, hr, dd⟩ := roll_ok (t := (xs.length : Int)) h (by omega) (by omega) (by omega)
  have hr : r < xs.length := by omega
  refine ⟨r, hr, μ', dd, ?_⟩
  have e1 : dB gLen (dCons (dVar 3) dNil) ⟨[.val (.ref n), a1, .own (.lst fs), .own (.lst xs)], μ⟩ = .ok (.int (xs.length : Nat)) ⟨[.val (.ref n), a1, .own (.lst fs), .own (.lst xs)], μ⟩ := b_ok (cons_ok (var_own rfl) rfl) rfl
  have e2 : dCall F_L_roll (dCons (dVar 0) (dCons (dB gLen (dCons (dVar 3) dNil)) dNil)) ⟨[.val (.ref n), a1, .own (.lst fs), .own (.lst xs)], μ⟩ = .ok (.int (r : Nat)) ⟨[.val (.ref n), a1, .own (.lst fs), .own (.lst xs)], μ'⟩ := call_okμ (s1 := ⟨[.val (.ref n), a1, .own (.lst fs), .own (.lst xs)], μ⟩) (ds := [.ref n, .int (xs.length : Nat)]) (cons_ok (var_ok rfl) (cons_ok e1 rfl)) rfl e
  have hx := d.no _ (List.getElem_mem hr)
  have e3 : gPopAt ⟨[.val (.ref n), a1, .own (.lst fs), .own (.lst xs)], μ'⟩ (.own 3) [.int (r : Nat)] = some (xs[r], ⟨[.val (.ref n), a1, .own (.lst fs), .own (.lst (xs.eraseIdx r))], μ'⟩) := by
    have hi : seqIndex? (r : Int) xs.length = some r := by
      have h0 : ¬ (r : Int) < 0 := by omega
      unfold seqIndex?
      simp [h0, hr]
    have h63 : decide (-(2 ^ 63) ≤ (r : Int)) = true := decide_eq_true (by omega)
    have h64 : decide ((r : Int) < 2 ^ 63) = true := decide_eq_true (by omega)
    show ((seqIndex? (r : Int) xs.length).bind fun k => _) = _
    rw [hi]
    simp only [Option.bind_some, h63, h64, Bool.and_self, if_true, List.getElem?_eq_getElem hr, Option.map_some, setAt]
    rfl
  have e4 : dM "list" gPopAt (dVar 3) (dCons (dCall F_L_roll (dCons (dVar 0) (dCons (dB gLen (dCons (dVar 3) dNil)) dNil))) dNil) ⟨[.val (.ref n), a1, .own (.lst fs), .own (.lst xs)], μ⟩ = .ok xs[r] ⟨[.val (.ref n), a1, .own (.lst fs), .own (.lst (xs.eraseIdx r))], μ'⟩ := by
    have et : tyD ⟨[.val (.ref n), a1, .own (.lst fs), .own (.lst xs)], μ⟩ (.own 3) = some "list" := rfl
    have ec : dCons (dCall F_L_roll (dCons (dVar 0) (dCons (dB gLen (dCons (dVar 3) dNil)) dNil))) dNil ⟨[.val (.ref n), a1, .own (.lst fs), .own (.lst xs)], μ⟩ = .ok [.int (r : Nat)] ⟨[.val (.ref n), a1, .own (.lst fs), .own (.lst xs)], μ'⟩ := cons_ok e2 rfl
    have ev : dVar 3 ⟨[.val (.ref n), a1, .own (.lst fs), .own (.lst xs)], μ⟩ = .ok (.own 3) ⟨[.val (.ref n), a1, .own (.lst fs), .own (.lst xs)], μ⟩ := var_own rfl
    unfold dM
    rw [ev, bind_ok, if_pos et, ec, bind_ok, e3]
  exact apd_ok (i := 2) (s1 := ⟨[.val (.ref n), a1, .own (.lst fs), .own (.lst (xs.eraseIdx r))], μ'⟩) rfl e4 rfl (by omega) hx
end K11

namespace K11
open PySem PySem.Spec PyProof.Rows L2 DL
theorem erase_perm {α : Type} : ∀ {xs : List α} {r : Nat} (h : r < xs.length), (xs[r] :: xs.eraseIdx r).Perm xs
  | x :: xs, 0, h => List.Perm.refl _
  | x :: xs, r + 1, h => by
    have ih := erase_perm (xs := xs) (r := r) (by simpa using h)
    have hr : r < xs.length := by simpa using h
    show (xs[r] :: x :: xs.eraseIdx r).Perm (x :: xs)
    exact (List.Perm.swap _ _ _).trans (ih.cons x)
theorem sh_test {n : Nat} {fs xs : List D} {a1 : DL.Slot} {μ : List Cell} (d : DataL xs) : (dCmpT neS (dVar 3) (dFrz (dLst dNil))) ⟨[.val (.ref n), a1, .own (.lst fs), .own (.lst xs)], μ⟩ = .ok (!xs.isEmpty) ⟨[.val (.ref n), a1, .own (.lst fs), .own (.lst xs)], μ⟩ := by
  have e1 : dVar 3 ⟨[.val (.ref n), a1, .own (.lst fs), .own (.lst xs)], μ⟩ = .ok (.own 3) ⟨[.val (.ref n), a1, .own (.lst fs), .own (.lst xs)], μ⟩ := var_own rfl
  have e2 : dFrz (dLst dNil) ⟨[.val (.ref n), a1, .own (.lst fs), .own (.lst xs)], μ⟩ = .ok (.lst []) ⟨[.val (.ref n), a1, .own (.lst fs), .own (.lst xs)], μ⟩ := frzE_ok (lst_ok rfl rfl (by simp))
  have e3 : neS ⟨[.val (.ref n), a1, .own (.lst fs), .own (.lst xs)], μ⟩ (.own 3) (.lst []) = some (.bl (!xs.isEmpty)) := ne_ownD rfl d
  rw [ap_CmpT, e1, bind_ok, e2, bind_ok, e3]
theorem sh_loop {n : Nat} {a1 : DL.Slot} : ∀ (t k : Nat) (fs xs : List D) (μ : List Cell), xs.length < t → Dc k n μ → k + xs.length ≤ 80000 → fs.length + xs.length ≤ 1000 → DataL xs → ∃ (ys : List D) (μ' : List Cell), ys.Perm xs ∧ Dc (k + xs.length) n μ' ∧
    dWhile (dCmpT neS (dVar 3) (dFrz (dLst dNil))) shB t ⟨[.val (.ref n), a1, .own (.lst fs), .own (.lst xs)], μ⟩ = .nx ⟨[.val (.ref n), a1, .own (.lst (fs ++ ys)), .own (.lst [])], μ'⟩
  | 0, k, fs, xs, μ, h, _, _, _, _ => by omega
  | t + 1, k, fs, xs, μ, h, hd, hk, hf, d => by
    have e1 := sh_test (n := n) (fs := fs) (a1 := a1) (μ := μ) d
    cases xs with
    | nil =>
      refine ⟨[], μ, List.Perm.refl _, hd, ?_⟩
      unfold dWhile
      rw [e1, List.append_nil]
      rfl
    | cons x xs =>
      obtain ⟨r, hr, μ1, d1, e2⟩ := shB_ok (fs := fs) (a1 := a1) hd (by omega) (by simp) (by omega) (by omega) d
      have hl : ((x :: xs).eraseIdx r).length = xs.length := by rw [List.length_eraseIdx_of_lt hr]; simp
      rw [List.length_cons] at h hk hf
      obtain ⟨ys, μ', p, d2, e3⟩ := sh_loop t (k + 1) (fs ++ [(x :: xs)[r]]) ((x :: xs).eraseIdx r) μ1 (by omega) d1 (by omega) (by simp only [List.length_append, List.length_singleton, hl]; omega) (d.erase r)
      refine ⟨(x :: xs)[r] :: ys, μ', (p.cons _).trans (erase_perm hr), by rw [List.length_cons, show k + (xs.length + 1) = k + 1 + xs.length by omega, ← hl]; exact d2, ?_⟩
      unfold dWhile
      rw [e1]
      simp only [List.isEmpty_cons, Bool.not_false, e2]
      rw [e3, List.append_assoc]
      rfl
theorem shuffled_ok {n k : Nat} {xs : List D} {dd : D} {μ : List Cell} (hd : dd = .lst xs ∨ dd = .tup xs) (h : Dc k n μ) (hk : k ≤ 50000) (hl : xs.length ≤ 500) (d : DataL xs) : ∃ (ys : List D) (μ' : List Cell), F_L_shuffled [.ref n, dd] μ = .okc (.lst ys) μ' ∧ ys.Perm xs ∧ Dc (k + xs.length) n μ' := by
  obtain ⟨ys, μ', p, d1, e⟩ := sh_loop (n := n) (a1 := .val dd) (xs.length + 1) k [] xs μ (by omega) h (by omega) (by simp; omega) d
  rw [List.nil_append] at e
  refine ⟨ys, μ', ?_, p, d1⟩
  have nd : noOwn dd = true := by rcases hd with rfl | rfl <;> rfl
  have hfu : fu0_L_shuffled [.ref n, dd] μ = xs.length + 1 := by rcases hd with rfl | rfl <;> rfl
  have t : b_L_shuffled (xs.length + 1) ⟨[.val (.ref n), .val dd, .no, .no], μ⟩ = .rtc (.lst ys) ⟨[.val (.ref n), .val dd, .no, .own (.lst [])], μ'⟩ := by
    unfold b_L_shuffled
    have e0 : dParM 2 3 (dMc (dLst dNil) (dMc (dBF gList (dCons (dVar 1) dNil)) dMn)) ⟨[.val (.ref n), .val dd, .no, .no], μ⟩ = .nx ⟨[.val (.ref n), .val dd, .own (.lst []), .own (.lst xs)], μ⟩ := by
      rcases hd with rfl | rfl <;> simp [dParM, dMv, dMc, dMn, slotOf, gList]
    refine (seq_nx e0).trans ((seq_nx e).trans ?_)
    simp [dTake]
  show runF (b_L_shuffled (fu0_L_shuffled [.ref n, dd] μ)) 4 [.ref n, dd] μ = _
  rw [hfu]
  exact runF_rtc (n := 4) (ds := [.ref n, dd]) t
end K11

namespace K11
open PySem PySem.Spec PyProof.Rows L2 DL
/-! ### what is shown -/
theorem log_of {x : Int} (h : x.natAbs < 2 ^ 1900) : x.natAbs.log2 < 1920 := Nat.lt_of_lt_of_le (log_lt h (by decide)) (by decide)
theorem short_int {x : Int} (h : x.natAbs < 2 ^ 1900) : PyData.leavesShort 1921 (.int x) = true := by
  have e : (PySem.Str.ofString (toString x)).length ≤ 1921 := by
    rw [PySem.ofString_length]
    exact PySem.int_text_length_le (k := 1920) (by decide) (log_of h)
  have e2 : (PyData.shown (.int x)).length ≤ 1921 := e
  rw [PyData.leavesShort]
  exact decide_eq_true e2
theorem short_ints : ∀ xs : List Int, Bd 1900 xs → PyData.leavesShortAll 1921 (xs.map .int) = true
  | [], _ => rfl
  | x :: xs, h => by
    rw [List.map_cons, PyData.leavesShortAll, short_int (h x (by simp)), short_ints xs fun y hy => h y (by simp [hy])]
    rfl
theorem showable_ints : ∀ xs : List Int, Bd 1900 xs → PyData.showableAll (xs.map .int) = true
  | [], _ => rfl
  | x :: xs, h => by
    have := log_of (h x (by simp))
    rw [List.map_cons, PyData.showableAll, PyData.showable, decide_eq_true this, showable_ints xs fun y hy => h y (by simp [hy])]
    rfl
theorem bulk_ints : ∀ xs : List Int, PyData.bulkAll (xs.map .int) = xs.length
  | [] => rfl
  | x :: xs => by
    rw [List.map_cons, PyData.bulkAll, PyData.bulk, bulk_ints xs, List.length_cons]
    omega
theorem nodict_ints : ∀ xs : List Int, PyData.hasDictAll (xs.map .int) = false
  | [] => rfl
  | x :: xs => by
    rw [List.map_cons, PyData.hasDictAll, PyData.hasDict, nodict_ints xs]
    rfl
theorem short_rows {n : Nat} : ∀ m : List (List Int), (∀ o ∈ m, Bd 1900 o ∧ o.length ≤ n) → PyData.leavesShortAll 1921 (m.map fun r => .tuple (r.map .int)) = true ∧ PyData.showableAll (m.map fun r => .tuple (r.map .int)) = true ∧ PyData.bulkAll (m.map fun r => .tuple (r.map .int)) ≤ m.length * (n + 1) ∧ PyData.hasDictAll (m.map fun r => .tuple (r.map .int)) = false ∧ PyData.depthAll (m.map fun r => .tuple (r.map .int)) ≤ 1
  | [], _ => ⟨rfl, rfl, by simp [PyData.bulkAll], rfl, by simp [PyData.depthAll]⟩
  | r :: m, h => by
    obtain ⟨h1, h2⟩ := h r (by simp)
    obtain ⟨a, b, c, d, e⟩ := short_rows m fun q hq => h q (by simp [hq])
    refine ⟨?_, ?_, ?_, ?_, ?_⟩
    · rw [List.map_cons, PyData.leavesShortAll, PyData.leavesShort, short_ints r h1, a]; rfl
    · rw [List.map_cons, PyData.showableAll, PyData.showable, showable_ints r h1, b]; rfl
    · rw [List.map_cons, PyData.bulkAll, PyData.bulk, bulk_ints, List.length_cons, Nat.add_mul, Nat.one_mul]; omega
    · rw [List.map_cons, PyData.hasDictAll, PyData.hasDict, nodict_ints, d]; rfl
    · rw [List.map_cons, PyData.depthAll, PyData.depth, depth_ints]; omega
/-- a lot is shown -/
theorem repr_lot {m : List (List Int)} (hl : m.length ≤ 60) (h : ∀ o ∈ m, Bd 1900 o ∧ o.length ≤ 60) : ∃ x, ∀ s : S, gRepr s [.tup (m.map Ri)] = some (.str x) := by
  obtain ⟨a, b, c, d, e⟩ := short_rows m h
  refine ⟨PyData.shown (.tuple (m.map fun r => .tuple (r.map .int))), fun s => ?_⟩
  have e1 := PyData.shown_le_bulk 1921 (by decide) (.tuple (m.map fun r => .tuple (r.map .int))) (by rw [PyData.leavesShort]; exact a)
  rw [PyData.bulk] at e1
  have e2 : PyData.showable (.tuple (m.map fun r => .tuple (r.map .int))) = true := by rw [PyData.showable]; exact b
  have e3 : PyData.depth (.tuple (m.map fun r => .tuple (r.map .int))) ≤ 60 := by rw [PyData.depth]; omega
  have e4 : PyData.hasDict (.tuple (m.map fun r => .tuple (r.map .int))) = false := by rw [PyData.hasDict]; exact d
  have e5 : (PyData.shown (.tuple (m.map fun r => .tuple (r.map .int)))).length ≤ 16777216 := by
    have : m.length * (60 + 1) ≤ 60 * 61 := Nat.mul_le_mul hl (by decide)
    omega
  have p : toPyS s (.tup (m.map Ri)) = some (.tuple (m.map fun r => .tuple (r.map .int))) := by rw [pys_tup, py_rows]; rfl
  generalize PyData.tuple (m.map fun r => .tuple (r.map .int)) = u at *
  simp [gRepr, shownD, p, e2, e3, e4, e5]
theorem repr_bl (b : Bool) : ∃ x, ∀ s : S, gRepr s [.bl b] = some (.str x) := by
  cases b
  · exact ⟨"False", fun s => rfl⟩
  · exact ⟨"True", fun s => rfl⟩
end K11

namespace K11
open PySem PySem.Spec PyProof.Rows L2 DL
/-! ### rows drawn -/
def pickL : FC := dLst (dCons (dC (.int (0))) (dCons (dC (.int (0))) (dCons (dC (.int (1))) (dCons (dNeg (dC (.int (1)))) (dCons (dC (.int (2))) (dCons (dNeg (dC (.int (3)))) (dCons (dC (.int (7))) (dCons (dOp gAdd (dOp gPow (dC (.int (10))) (dC (.int (12)))) (dC (.int (1)))) dNil))))))))
theorem pickL_ok {T : Int} (hp : ∀ s : S, gPow s (.int 10) (.int 12) = some (.int T)) (s : S) : dFrz pickL s = .ok (.lst [.int 0, .int 0, .int 1, .int (-1), .int 2, .int (-3), .int 7, .int (T + 1)]) s :=
  frzE_ok (lst_ok (cons_ok c_ok (cons_ok c_ok (cons_ok c_ok (cons_ok rfl (cons_ok c_ok (cons_ok rfl (cons_ok c_ok (cons_ok (op_ok (op_ok c_ok c_ok (hp _)) c_ok (add_ii _ _ _)) rfl)))))))) rfl (by simp))
theorem picks_gen {T : Int} (hT : T.natAbs < 2 ^ 40) (hp : ∀ s : S, gPow s (.int 10) (.int 12) = some (.int T)) {v n : Nat} (hv : 0 < v) : ∀ (ds : List D) (s : S) (k : Nat), s.δ[0]? = some (.val (.ref n)) → v < s.δ.length → Dc k n s.μ → k + ds.length ≤ 100000 → ∃ (xs : List Int) (μ' : List Cell), xs.length = ds.length ∧ Bd 41 xs ∧ Dc (k + ds.length) n μ' ∧
    dLcGo [v] (gNm v) dYes (dCall F_L_pick (dCons (dVar 0) (dCons (dFrz pickL) dNil))) ds s = .ok (xs.map .int) { s with μ := μ' }
  | [], s, k, _, _, h, _ => ⟨[], s.μ, rfl, fun x hx => by simp at hx, h, rfl⟩
  | d :: ds, s, k, h0, hl, h, hk => by
    rw [List.length_cons] at hk
    obtain ⟨x, hx, μ1, e1, h1⟩ := pick_okD (xs := [.int 0, .int 0, .int 1, .int (-1), .int 2, .int (-3), .int 7, .int (T + 1)]) h (by omega) (by simp) (by simp) (by simp)
    have : ∃ i : Int, x = .int i ∧ i.natAbs < 2 ^ 41 := by
      simp only [List.mem_cons, List.not_mem_nil, or_false] at hx
      rcases hx with rfl | rfl | rfl | rfl | rfl | rfl | rfl | rfl <;> refine ⟨_, rfl, ?_⟩ <;> omega
    obtain ⟨i, rfl, hi⟩ := this
    obtain ⟨xs, μ', l1, l2, l3, e2⟩ := picks_gen hT hp (n := n) hv ds { s with μ := μ1 } (k + 1) h0 hl h1 (by omega)
    refine ⟨i :: xs, μ', by simp [l1], fun y hy => ?_, by rw [List.length_cons, show k + (ds.length + 1) = k + 1 + ds.length by omega]; exact l3, ?_⟩
    · rcases List.mem_cons.mp hy with rfl | hy
      · exact hi
      · exact l2 y hy
    · have g0 : ((s.δ.set v .no).set v (.val d))[0]? = some (.val (.ref n)) := by
        rw [List.getElem?_set_ne (by omega), List.getElem?_set_ne (by omega), h0]
      have gv : s.δ[v]? = some (s.δ[v]'hl) := List.getElem?_eq_getElem hl
      have gb : ((s.δ.set v .no).set v (.val d)).set v (s.δ[v]'hl) = s.δ := by
        rw [List.set_set, List.set_set, List.set_getElem_self]
      have ec : dCall F_L_pick (dCons (dVar 0) (dCons (dFrz pickL) dNil)) ⟨(s.δ.set v .no).set v (.val d), s.μ⟩ = .ok (.int i) ⟨(s.δ.set v .no).set v (.val d), μ1⟩ :=
        call_okμ (s1 := ⟨(s.δ.set v .no).set v (.val d), s.μ⟩) (cons_ok (var_ok g0) (cons_ok (pickL_ok hp _) rfl)) rfl e1
      simp only [dLcGo, wipeD, backD, ap_gNm, ap_Yes, ec, no_int, if_true, gv, gb]
      rw [e2]
      rfl
structure Dr (w k : Nat) (fs : List (List Int)) : Prop where
  len : fs.length = k
  ro : ∀ o ∈ fs, o.length = w ∧ Bd (38 + 3 * k) o
theorem Dr.add {w k : Nat} {fs : List (List Int)} (h : Dr w k fs) {r : List Int} (hl : r.length = w) (hr : Bd (41 + 3 * k) r) : Dr w (k + 1) (fs ++ [r]) :=
  ⟨by simp [h.len], fun o ho => (List.mem_append.mp ho).elim (fun ho => ⟨(h.ro o ho).1, (h.ro o ho).2.mono (by omega)⟩) fun ho => by rw [List.mem_singleton.mp ho]; exact ⟨hl, hr.mono (by omega)⟩⟩
abbrev Sr (n w m : Nat) (fs : List (List Int)) (c4 c5 c6 c7 c8 c9 c10 : DL.Slot) (μ : List Cell) : S := ⟨[.val (.ref n), .val (.int (w : Nat)), .val (.int (m : Nat)), .own (.lst (fs.map Ri)), c4, c5, c6, c7, c8, c9, c10, .no, .no, .no], μ⟩
theorem dr1 {n w m k : Nat} {fs : List (List Int)} {c4 c5 c6 c7 c8 c9 c10 : DL.Slot} {μ : List Cell} (h : Dc k n μ) (hk : k ≤ 90000) : ∃ (r : Nat) (μ' : List Cell), r < 5 ∧ Dc (k + 1) n μ' ∧ (dAsg 5 (dCall F_L_roll (dCons (dVar 0) (dCons (dC (.int (5))) dNil)))) (Sr n w m fs c4 c5 c6 c7 c8 c9 c10 μ) = .nx (Sr n w m fs c4 (.val (.int (r : Nat))) c6 c7 c8 c9 c10 μ') := by
  obtain ⟨r, μ', e, hr, d⟩ := roll_ok (t := 5) h (by omega) (by decide) (by decide)
  exact ⟨r, μ', by omega, d, asg_okμ (s1 := Sr n w m fs c4 c5 c6 c7 c8 c9 c10 μ') (call_okμ (s1 := Sr n w m fs c4 c5 c6 c7 c8 c9 c10 μ) (ds := [.ref n, .int 5]) (cons_ok (var_ok rfl) (cons_ok c_ok rfl)) rfl e) rfl⟩
theorem dr2 {T : Int} (hT : T.natAbs < 2 ^ 40) (hp : ∀ s : S, gPow s (.int 10) (.int 12) = some (.int T)) {n w m k : Nat} {fs : List (List Int)} {c4 c5 c6 c7 c8 c9 c10 : DL.Slot} {μ : List Cell} (h : Dc k n μ) (hw : w ≤ 6) (hk : k ≤ 90000) : ∃ (xs : List Int) (μ' : List Cell), xs.length = w ∧ Bd 41 xs ∧ Dc (k + w) n μ' ∧ (dAsg 6 (dB gTuple (dCons (dFrz (dLc [11] (dRng1 (dCons (dVar 1) dNil)) (gNm 11) dYes (dCall F_L_pick (dCons (dVar 0) (dCons (dFrz pickL) dNil))))) dNil))) (Sr n w m fs c4 c5 c6 c7 c8 c9 c10 μ) = .nx (Sr n w m fs c4 c5 (.val (Ri xs)) c7 c8 c9 c10 μ') := by
  obtain ⟨xs, μ', l1, l2, l3, e⟩ := picks_gen hT hp (v := 11) (n := n) (by decide) (rngD 0 w) (Sr n w m fs c4 c5 c6 c7 c8 c9 c10 μ) k rfl (by simp) h (by rw [rng_len]; omega)
  rw [rng_len] at l1 l3
  have e1 : dRng1 (dCons (dVar 1) dNil) (Sr n w m fs c4 c5 c6 c7 c8 c9 c10 μ) = .ok (rngD 0 w) (Sr n w m fs c4 c5 c6 c7 c8 c9 c10 μ) := by
    have := rng_gen (fa := dCons (dVar 1) dNil) (s := Sr n w m fs c4 c5 c6 c7 c8 c9 c10 μ) (s1 := Sr n w m fs c4 c5 c6 c7 c8 c9 c10 μ) (j := (w : Int)) (cons_ok (var_ok rfl) rfl) (small_w (by omega))
    rw [this, Int.toNat_natCast]
  exact ⟨xs, μ', l1, l2, l3, asg_okμ (i := 6) (s1 := Sr n w m fs c4 c5 c6 c7 c8 c9 c10 μ') (d := Ri xs) (b_ok (cons_ok (frzE_ok (lc_okμ (vs := [11]) e1 (by rw [rng_len]; omega) rfl e)) rfl) (tup_ints _ xs)) rfl⟩
end K11

namespace K11
open PySem PySem.Spec PyProof.Rows L2 DL
theorem comb_comp (a0 a1 a2 a3 a4 a5 a6 a7 a8 : DL.Slot) (μ : List Cell) {l r : Int} {n : Nat} (hn : 0 < n) (hn2 : n ≤ 40000) (hl : l.natAbs < 2 ^ 2) (hr : r.natAbs < 2 ^ 2) : ∀ xs ys : List Int, Bd n xs → Bd n ys →
    dLcGo [12, 13] (gT (gC (gNm 12) (gC (gNm 13) gN))) dYes (dOp gAdd (dOp gMul (dVar 9) (dVar 12)) (dOp gMul (dVar 10) (dVar 13))) (zpD (xs.map .int) (ys.map .int)) ⟨[a0, a1, a2, a3, a4, a5, a6, a7, a8, .val (.int l), .val (.int r), .no, .no, .no], μ⟩ = .ok ((zw (fun a b => l * a + r * b) xs ys).map .int) ⟨[a0, a1, a2, a3, a4, a5, a6, a7, a8, .val (.int l), .val (.int r), .no, .no, .no], μ⟩
  | [], ys, _, _ => by simp [zpD, dLcGo, zw]
  | x :: xs, [], _, _ => by simp [zpD, dLcGo, zw]
  | x :: xs, y :: ys, h1, h2 => by
    have ih := comb_comp a0 a1 a2 a3 a4 a5 a6 a7 a8 μ hn hn2 hl hr xs ys (fun z hz => h1 z (by simp [hz])) (fun z hz => h2 z (by simp [hz]))
    have m1 := mulOk_of hl (h1 x (by simp)) (by decide) hn (by omega)
    have m2 := mulOk_of hr (h2 y (by simp)) (by decide) hn (by omega)
    unfold zw at ih ⊢
    simp [zpD, dLcGo, wipeD, backD, mul_ii m1, mul_ii m2, ih]
theorem comb_bd3 {l r : Int} {n : Nat} (hl : l.natAbs ≤ 3) (hr : r.natAbs ≤ 3) : ∀ xs ys : List Int, Bd n xs → Bd n ys → Bd (n + 3) (zw (fun a b => l * a + r * b) xs ys)
  | [], ys, _, _ => by intro z hz; simp [zw] at hz
  | x :: xs, [], _, _ => by intro z hz; simp [zw] at hz
  | x :: xs, y :: ys, h1, h2 => by
    have ih := comb_bd3 hl hr xs ys (fun z hz => h1 z (by simp [hz])) (fun z hz => h2 z (by simp [hz]))
    intro z hz
    unfold zw at hz ih
    rw [List.zipWith_cons_cons] at hz
    rcases List.mem_cons.mp hz with rfl | hz
    · have a1 := h1 x (by simp)
      have a2 := h2 y (by simp)
      have b1 : (l * x).natAbs ≤ 3 * x.natAbs := by rw [Int.natAbs_mul]; exact Nat.mul_le_mul_right _ hl
      have b2 : (r * y).natAbs ≤ 3 * y.natAbs := by rw [Int.natAbs_mul]; exact Nat.mul_le_mul_right _ hr
      have := Int.natAbs_add_le (l * x) (r * y)
      rw [Nat.pow_add]
      omega
    · exact ih z hz
/-- two rows picked, and put together -/
theorem dr3c {n w m k j0 : Nat} {fs : List (List Int)} {c4 c9 c10 c7 c8 : DL.Slot} {xs : List Int} {r : Nat} {μ : List Cell} (D0 : Dr w j0 fs) (hj0 : j0 ≤ 7) (hne : 1 ≤ fs.length) (h : Dc k n μ) (hw : w ≤ 6) (hk : k ≤ 90000) (n4 : nLl c4 = true) (n7 : nLl c7 = true) (n8 : nLl c8 = true) (n9 : nLl c9 = true) (n10 : nLl c10 = true) : ∃ (ys : List Int) (d7 d8 d9 d10 : DL.Slot) (μ' : List Cell), ys.length = w ∧ Bd (41 + 3 * j0) ys ∧ Dc (k + 4) n μ' ∧ nLl d7 = true ∧ nLl d8 = true ∧ nLl d9 = true ∧ nLl d10 = true ∧
    (dSeq (dPar 7 8 (dCons (dLend 3 (dCall F_L_pick (dCons (dVar 0) (dCons (dVar 3) dNil)))) (dCons (dLend 3 (dCall F_L_pick (dCons (dVar 0) (dCons (dVar 3) dNil)))) dNil)))
    (dSeq (dAsgG (dTup (dCons (dOp gSub (dCall F_L_roll (dCons (dVar 0) (dCons (dC (.int (7))) dNil))) (dC (.int (3)))) (dCons (dOp gSub (dCall F_L_roll (dCons (dVar 0) (dCons (dC (.int (7))) dNil))) (dC (.int (3)))) dNil))) (gT (gC (gNm 9) (gC (gNm 10) gN))))
    (dAsg 6 (dB gTuple (dCons (dFrz (dLc [12, 13] (dIterZp (dCons (dVar 7) (dCons (dVar 8) dNil))) (gT (gC (gNm 12) (gC (gNm 13) gN))) dYes (dOp gAdd (dOp gMul (dVar 9) (dVar 12)) (dOp gMul (dVar 10) (dVar 13))))) dNil))))) (Sr n w m fs c4 (.val (.int (r : Nat))) (.val (Ri xs)) c7 c8 c9 c10 μ) = .nx (Sr n w m fs c4 (.val (.int (r : Nat))) (.val (Ri ys)) d7 d8 d9 d10 μ') := by
  have hfl := D0.len
  obtain ⟨x, hx, μ1, e1, h1⟩ := pick_okD (xs := fs.map Ri) h (by omega) (by simpa using hne) (by simp; omega) (fun x hx => by obtain ⟨u, _, rfl⟩ := List.mem_map.mp hx; rfl)
  obtain ⟨p, hp, rfl⟩ := List.mem_map.mp hx
  obtain ⟨y, hy, μ2, e2, h2⟩ := pick_okD (xs := fs.map Ri) h1 (by omega) (by simpa using hne) (by simp; omega) (fun x hx => by obtain ⟨u, _, rfl⟩ := List.mem_map.mp hx; rfl)
  obtain ⟨q, hq, rfl⟩ := List.mem_map.mp hy
  obtain ⟨a, μ3, e3, ha, h3⟩ := roll_ok (t := 7) h2 (by omega) (by decide) (by decide)
  obtain ⟨b, μ4, e4, hb, h4⟩ := roll_ok (t := 7) h3 (by omega) (by decide) (by decide)
  obtain ⟨p1, p2⟩ := D0.ro p hp
  obtain ⟨q1, q2⟩ := D0.ro q hq
  have hl1 : ((a : Int) - 3).natAbs ≤ 3 := by omega
  have hr1 : ((b : Int) - 3).natAbs ≤ 3 := by omega
  have g1 : dLend 3 (dCall F_L_pick (dCons (dVar 0) (dCons (dVar 3) dNil))) (Sr n w m fs c4 (.val (.int (r : Nat))) (.val (Ri xs)) c7 c8 c9 c10 μ) = .ok (Ri p) (Sr n w m fs c4 (.val (.int (r : Nat))) (.val (Ri xs)) c7 c8 c9 c10 μ1) :=
    lend_ok (i := 3) (xs := fs.map Ri) rfl (call_okμ (s1 := ⟨[.val (.ref n), .val (.int (w : Nat)), .val (.int (m : Nat)), .val (.lst (fs.map Ri)), c4, .val (.int (r : Nat)), .val (Ri xs), c7, c8, c9, c10, .no, .no, .no], μ⟩) (ds := [.ref n, .lst (fs.map Ri)]) (cons_ok (var_ok rfl) (cons_ok (var_ok rfl) rfl)) rfl e1) (by simp) h1.2 (by simp [n4, n7, n8, n9, n10])
  have g2 : dLend 3 (dCall F_L_pick (dCons (dVar 0) (dCons (dVar 3) dNil))) (Sr n w m fs c4 (.val (.int (r : Nat))) (.val (Ri xs)) c7 c8 c9 c10 μ1) = .ok (Ri q) (Sr n w m fs c4 (.val (.int (r : Nat))) (.val (Ri xs)) c7 c8 c9 c10 μ2) :=
    lend_ok (i := 3) (xs := fs.map Ri) rfl (call_okμ (s1 := ⟨[.val (.ref n), .val (.int (w : Nat)), .val (.int (m : Nat)), .val (.lst (fs.map Ri)), c4, .val (.int (r : Nat)), .val (Ri xs), c7, c8, c9, c10, .no, .no, .no], μ1⟩) (ds := [.ref n, .lst (fs.map Ri)]) (cons_ok (var_ok rfl) (cons_ok (var_ok rfl) rfl)) rfl e2) (by simp) h2.2 (by simp [n4, n7, n8, n9, n10])
  have g3 : dPar 7 8 (dCons (dLend 3 (dCall F_L_pick (dCons (dVar 0) (dCons (dVar 3) dNil)))) (dCons (dLend 3 (dCall F_L_pick (dCons (dVar 0) (dCons (dVar 3) dNil)))) dNil)) (Sr n w m fs c4 (.val (.int (r : Nat))) (.val (Ri xs)) c7 c8 c9 c10 μ) = .nx (Sr n w m fs c4 (.val (.int (r : Nat))) (.val (Ri xs)) (.val (Ri p)) (.val (Ri q)) c9 c10 μ2) := by
    have : dCons (dLend 3 (dCall F_L_pick (dCons (dVar 0) (dCons (dVar 3) dNil)))) (dCons (dLend 3 (dCall F_L_pick (dCons (dVar 0) (dCons (dVar 3) dNil)))) dNil) (Sr n w m fs c4 (.val (.int (r : Nat))) (.val (Ri xs)) c7 c8 c9 c10 μ) = .ok [Ri p, Ri q] (Sr n w m fs c4 (.val (.int (r : Nat))) (.val (Ri xs)) c7 c8 c9 c10 μ2) := cons_ok g1 (cons_ok g2 rfl)
    unfold dPar
    rw [this]
    rfl
  have g4 : dAsgG (dTup (dCons (dOp gSub (dCall F_L_roll (dCons (dVar 0) (dCons (dC (.int (7))) dNil))) (dC (.int (3)))) (dCons (dOp gSub (dCall F_L_roll (dCons (dVar 0) (dCons (dC (.int (7))) dNil))) (dC (.int (3)))) dNil))) (gT (gC (gNm 9) (gC (gNm 10) gN))) (Sr n w m fs c4 (.val (.int (r : Nat))) (.val (Ri xs)) (.val (Ri p)) (.val (Ri q)) c9 c10 μ2) = .nx (Sr n w m fs c4 (.val (.int (r : Nat))) (.val (Ri xs)) (.val (Ri p)) (.val (Ri q)) (.val (.int ((a : Int) - 3))) (.val (.int ((b : Int) - 3))) μ4) := by
    have k1 : dTup (dCons (dOp gSub (dCall F_L_roll (dCons (dVar 0) (dCons (dC (.int (7))) dNil))) (dC (.int (3)))) (dCons (dOp gSub (dCall F_L_roll (dCons (dVar 0) (dCons (dC (.int (7))) dNil))) (dC (.int (3)))) dNil)) (Sr n w m fs c4 (.val (.int (r : Nat))) (.val (Ri xs)) (.val (Ri p)) (.val (Ri q)) c9 c10 μ2) = .ok (.tup [.int ((a : Int) - 3), .int ((b : Int) - 3)]) (Sr n w m fs c4 (.val (.int (r : Nat))) (.val (Ri xs)) (.val (Ri p)) (.val (Ri q)) c9 c10 μ4) :=
      tup_ok (cons_ok (op_ok (call_okμ (s1 := Sr n w m fs c4 (.val (.int (r : Nat))) (.val (Ri xs)) (.val (Ri p)) (.val (Ri q)) c9 c10 μ2) (ds := [.ref n, .int 7]) (cons_ok (var_ok rfl) (cons_ok c_ok rfl)) rfl e3) c_ok (sub_ii _ _ _)) (cons_ok (op_ok (call_okμ (s1 := Sr n w m fs c4 (.val (.int (r : Nat))) (.val (Ri xs)) (.val (Ri p)) (.val (Ri q)) c9 c10 μ3) (ds := [.ref n, .int 7]) (cons_ok (var_ok rfl) (cons_ok c_ok rfl)) rfl e4) c_ok (sub_ii _ _ _)) rfl)) rfl (by simp)
    unfold dAsgG
    rw [k1]
    rfl
  have cc := comb_comp (.val (.ref n)) (.val (.int (w : Nat))) (.val (.int (m : Nat))) (.own (.lst (fs.map Ri))) c4 (.val (.int (r : Nat))) (.val (Ri xs)) (.val (Ri p)) (.val (Ri q)) μ4 (l := (a : Int) - 3) (r := (b : Int) - 3) (n := 38 + 3 * j0) (by omega) (by omega) (by omega) (by omega) p q p2 q2
  refine ⟨zw (fun a1 b1 => ((a : Int) - 3) * a1 + ((b : Int) - 3) * b1) p q, .val (Ri p), .val (Ri q), .val (.int ((a : Int) - 3)), .val (.int ((b : Int) - 3)), μ4, by rw [zw_len (by omega)]; exact p1, (comb_bd3 hl1 hr1 p q p2 q2).mono (by omega), h4.mono (by omega), by simp, by simp, by simp, by simp, ?_⟩
  refine (seq_nx g3).trans ((seq_nx g4).trans ?_)
  have k2 : dIterZp (dCons (dVar 7) (dCons (dVar 8) dNil)) (Sr n w m fs c4 (.val (.int (r : Nat))) (.val (Ri xs)) (.val (Ri p)) (.val (Ri q)) (.val (.int ((a : Int) - 3))) (.val (.int ((b : Int) - 3))) μ4) = .ok (zpD (p.map .int) (q.map .int)) (Sr n w m fs c4 (.val (.int (r : Nat))) (.val (Ri xs)) (.val (Ri p)) (.val (Ri q)) (.val (.int ((a : Int) - 3))) (.val (.int ((b : Int) - 3))) μ4) := by
    have : dCons (dVar 7) (dCons (dVar 8) dNil) (Sr n w m fs c4 (.val (.int (r : Nat))) (.val (Ri xs)) (.val (Ri p)) (.val (Ri q)) (.val (.int ((a : Int) - 3))) (.val (.int ((b : Int) - 3))) μ4) = .ok [Ri p, Ri q] (Sr n w m fs c4 (.val (.int (r : Nat))) (.val (Ri xs)) (.val (Ri p)) (.val (Ri q)) (.val (.int ((a : Int) - 3))) (.val (.int ((b : Int) - 3))) μ4) := cons_ok (var_ok rfl) (cons_ok (var_ok rfl) rfl)
    rw [ap_IterZp, this]
    rfl
  exact asg_ok (i := 6) (tup_lc (lc_ok (vs := [12, 13]) k2 (by rw [zp_len]; omega) rfl cc) (tup_ints _ _)) rfl
end K11

namespace K11
open PySem PySem.Spec PyProof.Rows L2 DL
def combB : FS := (dSeq (dPar 7 8 (dCons (dLend 3 (dCall F_L_pick (dCons (dVar 0) (dCons (dVar 3) dNil)))) (dCons (dLend 3 (dCall F_L_pick (dCons (dVar 0) (dCons (dVar 3) dNil)))) dNil)))
    (dSeq (dAsgG (dTup (dCons (dOp gSub (dCall F_L_roll (dCons (dVar 0) (dCons (dC (.int (7))) dNil))) (dC (.int (3)))) (dCons (dOp gSub (dCall F_L_roll (dCons (dVar 0) (dCons (dC (.int (7))) dNil))) (dC (.int (3)))) dNil))) (gT (gC (gNm 9) (gC (gNm 10) gN))))
    (dAsg 6 (dB gTuple (dCons (dFrz (dLc [12, 13] (dIterZp (dCons (dVar 7) (dCons (dVar 8) dNil))) (gT (gC (gNm 12) (gC (gNm 13) gN))) dYes (dOp gAdd (dOp gMul (dVar 9) (dVar 12)) (dOp gMul (dVar 10) (dVar 13))))) dNil)))))
def ifW : FS := (dIfS (dCmpT eqS (dVar 5) (dC (.int (0)))) (dAsg 6 (dOp gMul (dTup (dCons (dC (.int (0))) dNil)) (dVar 1))) (dIfS (dAndT (dCmpT gLt (dVar 5) (dC (.int (3)))) (dCmpT neS (dVar 3) (dFrz (dLst dNil)))) combB dSkip))
theorem dr3 {n w m k j0 : Nat} {fs : List (List Int)} {c4 c7 c8 c9 c10 : DL.Slot} {xs : List Int} {r : Nat} {μ : List Cell} (D0 : Dr w j0 fs) (hj0 : j0 ≤ 7) (h : Dc k n μ) (hw : w ≤ 6) (hk : k ≤ 90000) (hx : xs.length = w) (hb : Bd 41 xs) (n4 : nLl c4 = true) (n7 : nLl c7 = true) (n8 : nLl c8 = true) (n9 : nLl c9 = true) (n10 : nLl c10 = true) : ∃ (ys : List Int) (d7 d8 d9 d10 : DL.Slot) (μ' : List Cell), ys.length = w ∧ Bd (41 + 3 * j0) ys ∧ Dc (k + 4) n μ' ∧ nLl d7 = true ∧ nLl d8 = true ∧ nLl d9 = true ∧ nLl d10 = true ∧
    ifW (Sr n w m fs c4 (.val (.int (r : Nat))) (.val (Ri xs)) c7 c8 c9 c10 μ) = .nx (Sr n w m fs c4 (.val (.int (r : Nat))) (.val (Ri ys)) d7 d8 d9 d10 μ') := by
  unfold ifW
  by_cases hr : r = 0
  · subst hr
    refine ⟨List.replicate w 0, c7, c8, c9, c10, μ, by simp, fun z hz => by rw [List.eq_of_mem_replicate hz]; exact Nat.two_pow_pos _, h.mono (by omega), n7, n8, n9, n10, ?_⟩
    have e9 : (dCmpT eqS (dVar 5) (dC (.int (0)))) (Sr n w m fs c4 (.val (.int ((0 : Nat) : Int))) (.val (Ri xs)) c7 c8 c9 c10 μ) = .ok true (Sr n w m fs c4 (.val (.int ((0 : Nat) : Int))) (.val (Ri xs)) c7 c8 c9 c10 μ) := by simp
    have e0 : ∀ s : S, dTup (dCons (dC (.int 0)) dNil) s = .ok (.tup [.int 0]) s := fun s => tup_ok (cons_ok c_ok rfl) rfl (by simp)
    rw [ap_IfS, e9]
    exact asg_ok (i := 6) (op_ok (e0 _) (var_ok rfl) (mulz _ w (by omega))) rfl
  · have e9 : (dCmpT eqS (dVar 5) (dC (.int (0)))) (Sr n w m fs c4 (.val (.int (r : Nat))) (.val (Ri xs)) c7 c8 c9 c10 μ) = .ok false (Sr n w m fs c4 (.val (.int (r : Nat))) (.val (Ri xs)) c7 c8 c9 c10 μ) := by
      have : ((r : Int) == 0) = false := by simp; omega
      simp [this]
    rw [ap_IfS, e9]
    simp only []
    have en : neS (Sr n w m fs c4 (.val (.int (r : Nat))) (.val (Ri xs)) c7 c8 c9 c10 μ) (.own 3) (.lst []) = some (.bl (!fs.isEmpty)) := ne_own rfl
    have ev : dVar 3 (Sr n w m fs c4 (.val (.int (r : Nat))) (.val (Ri xs)) c7 c8 c9 c10 μ) = .ok (.own 3) (Sr n w m fs c4 (.val (.int (r : Nat))) (.val (Ri xs)) c7 c8 c9 c10 μ) := var_own (V := fs.map Ri) rfl
    have el : dFrz (dLst dNil) (Sr n w m fs c4 (.val (.int (r : Nat))) (.val (Ri xs)) c7 c8 c9 c10 μ) = .ok (.lst []) (Sr n w m fs c4 (.val (.int (r : Nat))) (.val (Ri xs)) c7 c8 c9 c10 μ) := frzE_ok (lst_ok rfl rfl (by simp))
    have e2 : (dCmpT neS (dVar 3) (dFrz (dLst dNil))) (Sr n w m fs c4 (.val (.int (r : Nat))) (.val (Ri xs)) c7 c8 c9 c10 μ) = .ok (!fs.isEmpty) (Sr n w m fs c4 (.val (.int (r : Nat))) (.val (Ri xs)) c7 c8 c9 c10 μ) := by
      rw [ap_CmpT, ev, bind_ok, el, bind_ok, en]
    have e1 : (dCmpT gLt (dVar 5) (dC (.int (3)))) (Sr n w m fs c4 (.val (.int (r : Nat))) (.val (Ri xs)) c7 c8 c9 c10 μ) = .ok (decide ((r : Int) < 3)) (Sr n w m fs c4 (.val (.int (r : Nat))) (.val (Ri xs)) c7 c8 c9 c10 μ) := by simp
    by_cases hc : r < 3 ∧ fs.isEmpty = false
    · have h3 : decide ((r : Int) < 3) = true := decide_eq_true (by omega)
      have hne : 1 ≤ fs.length := by
        cases fs with
        | nil => simp at hc
        | cons _ _ => simp
      obtain ⟨ys, d7, d8, d9, d10, μ', a1, a2, a3, a4, a5, a6, a7, a8⟩ := dr3c (m := m) (c7 := c7) (c8 := c8) (c9 := c9) (c10 := c10) (xs := xs) (r := r) D0 hj0 hne h hw hk n4 n7 n8 n9 n10
      refine ⟨ys, d7, d8, d9, d10, μ', a1, a2, a3, a4, a5, a6, a7, ?_⟩
      rw [ap_IfS, ap_AndT, e1, bind_ok, h3]
      simp only [if_true]
      rw [e2, hc.2]
      exact a8
    · refine ⟨xs, c7, c8, c9, c10, μ, hx, hb.mono (by omega), h.mono (by omega), n7, n8, n9, n10, ?_⟩
      rw [ap_IfS, ap_AndT, e1, bind_ok]
      by_cases h3 : r < 3
      · have h5 : fs.isEmpty = true := by
          cases he : fs.isEmpty with
          | true => rfl
          | false => exact absurd ⟨h3, he⟩ hc
        rw [decide_eq_true (show (r : Int) < 3 by omega)]
        simp only [if_true]
        rw [e2, h5]
        rfl
      · rw [decide_eq_false (show ¬ (r : Int) < 3 by omega)]
        rfl
def drB : FS := (dSeq (dAsg 5 (dCall F_L_roll (dCons (dVar 0) (dCons (dC (.int (5))) dNil))))
    (dSeq (dAsg 6 (dB gTuple (dCons (dFrz (dLc [11] (dRng1 (dCons (dVar 1) dNil)) (gNm 11) dYes (dCall F_L_pick (dCons (dVar 0) (dCons (dFrz pickL) dNil))))) dNil)))
    (dSeq ifW (dDrop (dM "list" gAppend (dVar 3) (dCons (dVar 6) dNil))))))
theorem dr_split : b_L_rw_drawn = (dSeq (dAsgO 3 (dLst dNil)) (dSeq (dForI (dRng1 (dCons (dVar 2) dNil)) (gNm 4) drB) (dRetF (dTake 3)))) := rfl
theorem dr_body {T : Int} (hT : T.natAbs < 2 ^ 40) (hp : ∀ s : S, gPow s (.int 10) (.int 12) = some (.int T)) {n w m k j0 : Nat} {fs : List (List Int)} {c4 c5 c6 c7 c8 c9 c10 : DL.Slot} {μ : List Cell} (D0 : Dr w j0 fs) (hj0 : j0 ≤ 7) (h : Dc k n μ) (hw : w ≤ 6) (hk : k ≤ 80000) (n4 : nLl c4 = true) (n7 : nLl c7 = true) (n8 : nLl c8 = true) (n9 : nLl c9 = true) (n10 : nLl c10 = true) : ∃ (ys : List Int) (d5 d6 d7 d8 d9 d10 : DL.Slot) (μ' : List Cell), Dr w (j0 + 1) (fs ++ [ys]) ∧ Dc (k + 11) n μ' ∧ nLl d7 = true ∧ nLl d8 = true ∧ nLl d9 = true ∧ nLl d10 = true ∧
    drB (Sr n w m fs c4 c5 c6 c7 c8 c9 c10 μ) = .nx (Sr n w m (fs ++ [ys]) c4 d5 d6 d7 d8 d9 d10 μ') := by
  obtain ⟨r, μ1, hr, d1, e1⟩ := dr1 (w := w) (m := m) (fs := fs) (c4 := c4) (c5 := c5) (c6 := c6) (c7 := c7) (c8 := c8) (c9 := c9) (c10 := c10) h (by omega)
  obtain ⟨xs, μ2, x1, x2, d2, e2⟩ := dr2 hT hp (m := m) (fs := fs) (c4 := c4) (c5 := .val (.int (r : Nat))) (c6 := c6) (c7 := c7) (c8 := c8) (c9 := c9) (c10 := c10) d1 hw (by omega)
  obtain ⟨ys, d7, d8, d9, d10, μ3, y1, y2, d3, a4, a5, a6, a7, e3⟩ := dr3 (m := m) (c4 := c4) (r := r) (c7 := c7) (c8 := c8) (c9 := c9) (c10 := c10) D0 hj0 d2 hw (by omega) x1 x2 n4 n7 n8 n9 n10
  refine ⟨ys, .val (.int (r : Nat)), .val (Ri ys), d7, d8, d9, d10, μ3, D0.add y1 y2, d3.mono (by omega), a4, a5, a6, a7, ?_⟩
  have e4 : (dDrop (dM "list" gAppend (dVar 3) (dCons (dVar 6) dNil))) (Sr n w m fs c4 (.val (.int (r : Nat))) (.val (Ri ys)) d7 d8 d9 d10 μ3) = .nx (Sr n w m (fs ++ [ys]) c4 (.val (.int (r : Nat))) (.val (Ri ys)) d7 d8 d9 d10 μ3) := by
    have := apd_ok (i := 3) (fe := dVar 6) (s := Sr n w m fs c4 (.val (.int (r : Nat))) (.val (Ri ys)) d7 d8 d9 d10 μ3) (s1 := Sr n w m fs c4 (.val (.int (r : Nat))) (.val (Ri ys)) d7 d8 d9 d10 μ3) (V := fs.map Ri) (d := Ri ys) rfl (var_ok rfl) rfl (by rw [List.length_map, D0.len]; omega) rfl
    rw [this]
    simp
  unfold drB
  exact (seq_nx e1).trans ((seq_nx e2).trans ((seq_nx e3).trans e4))
theorem dr_loop {T : Int} (hT : T.natAbs < 2 ^ 40) (hp : ∀ s : S, gPow s (.int 10) (.int 12) = some (.int T)) {n w m : Nat} (hw : w ≤ 6) : ∀ (t k j0 : Nat) (i : Int) (fs : List (List Int)) (c4 c5 c6 c7 c8 c9 c10 : DL.Slot) (μ : List Cell), Dr w j0 fs → j0 + t ≤ 7 → Dc k n μ → k + 11 * t ≤ 80000 → nLl c7 = true → nLl c8 = true → nLl c9 = true → nLl c10 = true →
    ∃ (fs' : List (List Int)) (s' : S), Dr w (j0 + t) fs' ∧ Dc (k + 11 * t) n s'.μ ∧ s'.δ[3]? = some (.own (.lst (fs'.map Ri))) ∧ dFor (gNm 4) drB (rngD i t) (Sr n w m fs c4 c5 c6 c7 c8 c9 c10 μ) = .nx s'
  | 0, k, j0, i, fs, c4, c5, c6, c7, c8, c9, c10, μ, D0, _, h, _, _, _, _, _ => ⟨fs, _, D0, h, rfl, rfl⟩
  | t + 1, k, j0, i, fs, c4, c5, c6, c7, c8, c9, c10, μ, D0, hj, h, hk, n7, n8, n9, n10 => by
    obtain ⟨ys, d5, d6, d7, d8, d9, d10, μ1, D1, h1, a7, a8, a9, a10, e1⟩ := dr_body hT hp (m := m) (c4 := .val (.int i)) (c5 := c5) (c6 := c6) (c7 := c7) (c8 := c8) (c9 := c9) (c10 := c10) D0 (by omega) h hw (by omega) rfl n7 n8 n9 n10
    obtain ⟨fs', s', D2, h2, g2, e2⟩ := dr_loop hT hp hw t (k + 11) (j0 + 1) (i + 1) (fs ++ [ys]) (.val (.int i)) d5 d6 d7 d8 d9 d10 μ1 D1 (by omega) h1 (by omega) a7 a8 a9 a10
    refine ⟨fs', s', by rw [show j0 + (t + 1) = j0 + 1 + t by omega]; exact D2, h2.mono (by omega), g2, ?_⟩
    rw [rngD_succ, dFor]
    simp only [ap_gNm, List.set_cons_succ, List.set_cons_zero]
    rw [e1]
    exact e2
theorem pow_ok' {i j : Int} (h : powOk i j = true) (s : S) : gPow s (.int i) (.int j) = some (.int (i ^ j.toNat)) := by
  show (if powOk i j = true then _ else _) = _
  rw [if_pos h]
theorem pow12 (s : S) : gPow s (.int 10) (.int 12) = some (.int (10 ^ 12)) := pow_ok' (by decide) s
theorem Dr.nil (w : Nat) : Dr w 0 [] := ⟨rfl, by simp⟩
theorem rw_drawn_ok {n w m k : Nat} {μ : List Cell} (hw : w ≤ 6) (hm : m ≤ 7) (h : Dc k n μ) (hk : k ≤ 50000) : ∃ (fs : List (List Int)) (μ' : List Cell), F_L_rw_drawn [.ref n, .int (w : Nat), .int (m : Nat)] μ = .okc (.lst (fs.map Ri)) μ' ∧ fs.length = m ∧ (∀ o ∈ fs, o.length = w ∧ Bd 60 o) ∧ Dc (k + 77) n μ' := by
  obtain ⟨fs, s', D1, h1, g1, e1⟩ := dr_loop (T := 10 ^ 12) (by decide) pow12 (n := n) (m := m) hw m k 0 0 [] .no .no .no .no .no .no .no μ (Dr.nil w) (by omega) h (by omega) rfl rfl rfl rfl
  rw [Nat.zero_add] at D1
  refine ⟨fs, s'.μ, ?_, D1.len, fun o ho => ⟨(D1.ro o ho).1, (D1.ro o ho).2.mono (by omega)⟩, h1.mono (by omega)⟩
  have t : b_L_rw_drawn ⟨[.val (.ref n), .val (.int (w : Nat)), .val (.int (m : Nat)), .no, .no, .no, .no, .no, .no, .no, .no, .no, .no, .no], μ⟩ = .rtc (.lst (fs.map Ri)) { s' with δ := s'.δ.set 3 .no } := by
    rw [dr_split]
    have e0 : (dAsgO 3 (dLst dNil)) ⟨[.val (.ref n), .val (.int (w : Nat)), .val (.int (m : Nat)), .no, .no, .no, .no, .no, .no, .no, .no, .no, .no, .no], μ⟩ = .nx (Sr n w m [] .no .no .no .no .no .no .no μ) := asgO_ok (lst_ok rfl rfl (by simp))
    refine (seq_nx e0).trans ((seq_nx (s1 := s') ?_).trans ?_)
    · rw [forRng (w := m) (by simp) (by omega)]
      exact e1
    · rw [ap_RetF]
      unfold dTake
      rw [g1]
  have := runF_rtc (n := 14) (ds := [.ref n, .int (w : Nat), .int (m : Nat)]) t
  exact this
end K11

namespace K11
open PySem PySem.Spec PyProof.Rows L2 DL
/-! ### rows mixed: the same span -/
theorem same_set {rows : List (List Int)} {i j : Nat} (hi : i < rows.length) (hj : j < rows.length) (ne : i ≠ j) {r : List Int} {by' : Int} (h : ∀ x, dt x r = dt x rows[i] + by' * dt x rows[j]) : Same (rows.set i r) rows := fun x => by
  have hjm : rows[j] ∈ rows.set i r := by
    have : (rows.set i r)[j]'(by simpa using hj) = rows[j] := by rw [List.getElem_set_ne ne]
    rw [← this]; exact List.getElem_mem _
  have him : r ∈ rows.set i r := List.mem_set hi r
  constructor
  · intro hp o ho
    obtain ⟨k, hk, rfl⟩ := List.getElem_of_mem ho
    by_cases e : k = i
    · subst e
      have h1 := hp r him
      rw [h x, hp _ hjm] at h1
      simpa using h1
    · have : (rows.set i r)[k]'(by simpa using hk) = rows[k] := by rw [List.getElem_set_ne (Ne.symm e)]
      rw [← this]
      exact hp _ (List.getElem_mem _)
  · intro hp o ho
    rcases List.mem_or_eq_of_mem_set ho with h1 | rfl
    · exact hp o h1
    · rw [h x, hp _ (List.getElem_mem hi), hp _ (List.getElem_mem hj)]; simp
theorem same_cons {a b : List Int} {A B : List (List Int)} (h : ∀ x, dt x a = 0 ↔ dt x b = 0) (k : Same A B) : Same (a :: A) (b :: B) := fun x => by
  constructor
  · intro hp o ho
    rcases List.mem_cons.mp ho with rfl | ho
    · exact (h x).mp (hp a (by simp))
    · exact (k x).mp (fun r hr => hp r (by simp [hr])) o ho
  · intro hp o ho
    rcases List.mem_cons.mp ho with rfl | ho
    · exact (h x).mpr (hp b (by simp))
    · exact (k x).mpr (fun r hr => hp r (by simp [hr])) o ho
theorem dt_smul (x : List Int) (c : Int) (r : List Int) : dt x (r.map fun a => c * a) = c * dt x r := by
  rw [dt_comm, dt_map, dt_comm]
theorem dt_mix {x p q : List Int} {c : Int} (h : p.length = q.length) : dt x (zw (fun a b => a + c * b) p q) = dt x p + c * dt x q := by
  have := dt_lin 1 (-c) (x := x) (z := zw (fun a b => a + c * b) p q) (r := p) (o := q) (by rw [zw_len h]) h.symm (fun j => by rw [zw_at (by simp) h, Int.neg_mul]; omega)
  rw [this, Int.neg_mul]; omega
theorem mix_bd {c : Int} {n : Nat} (hc : c.natAbs ≤ 5) : ∀ p q : List Int, Bd n p → Bd n q → Bd (n + 3) (zw (fun a b => a + c * b) p q)
  | [], ys, _, _ => by intro z hz; simp [zw] at hz
  | x :: xs, [], _, _ => by intro z hz; simp [zw] at hz
  | x :: xs, y :: ys, h1, h2 => by
    have ih := mix_bd hc xs ys (fun z hz => h1 z (by simp [hz])) (fun z hz => h2 z (by simp [hz]))
    intro z hz
    unfold zw at hz ih
    rw [List.zipWith_cons_cons] at hz
    rcases List.mem_cons.mp hz with rfl | hz
    · have a1 := h1 x (by simp)
      have a2 := h2 y (by simp)
      have b2 : (c * y).natAbs ≤ 5 * y.natAbs := by rw [Int.natAbs_mul]; exact Nat.mul_le_mul_right _ hc
      have := Int.natAbs_add_le x (c * y)
      rw [Nat.pow_add]
      omega
    · exact ih z hz
/-- two different places, shuffled out of so many -/
theorem two_of_perm {m : Nat} {ys : List D} (h : ys.Perm (rngD 0 m)) (hm : 2 ≤ m) : ∃ (i j : Nat) (zs : List D), ys = .int i :: .int j :: zs ∧ i < m ∧ j < m ∧ i ≠ j := by
  have hl : ys.length = m := by rw [h.length_eq, rng_len]
  obtain ⟨zs', hz, pz⟩ := perm_map (fun (i : Nat) => D.int (i : Nat)) (fun d => match d with | .int i => i.toNat | _ => 0) (fun i => by simp) (m := List.range m) (L := ys) (by
    have e : rngD 0 m = (List.range m).map fun (i : Nat) => D.int (i : Nat) := by
      unfold rngD
      apply List.map_congr_left
      intro i _
      simp
    rw [← e]; exact h)
  have hzl : zs'.length = m := by rw [pz.length_eq, List.length_range]
  match zs', hzl, hz, pz with
  | [], hzl, _, _ => simp at hzl; omega
  | [a], hzl, _, _ => simp at hzl; omega
  | a :: b :: zs, hzl, hz, pz =>
    have nd : (a :: b :: zs).Nodup := pz.nodup_iff.mpr List.nodup_range
    have h1 := List.nodup_cons.mp nd
    refine ⟨a, b, zs.map fun (i : Nat) => D.int (i : Nat), by rw [hz]; rfl, List.mem_range.mp (pz.mem_iff.mp (by simp)), List.mem_range.mp (pz.mem_iff.mp (by simp)), fun e => h1.1 (by simp [e])⟩
theorem data_rng (m : Nat) : DataL (rngD 0 m) := by
  refine ⟨fun x hx => ?_, fun x hx => ?_, (List.range m).map fun (i : Nat) => PyData.int (i : Nat), ?_, ?_, ?_⟩
  · unfold rngD at hx; obtain ⟨i, _, rfl⟩ := List.mem_map.mp hx; rfl
  · unfold rngD at hx; obtain ⟨i, _, rfl⟩ := List.mem_map.mp hx; simp
  · have e : rngD 0 m = ((List.range m).map fun (i : Nat) => (i : Int)).map .int := by
      unfold rngD
      rw [List.map_map]
      apply List.map_congr_left
      intro i _
      simp
    rw [e, py_ints, List.map_map]; rfl
  · have := can_ints ((List.range m).map fun (i : Nat) => (i : Int))
    rw [List.map_map] at this; exact this
  · have := depth_ints ((List.range m).map fun (i : Nat) => (i : Int))
    rw [List.map_map] at this
    show PyData.depthAll (List.map (PyData.int ∘ fun (i : Nat) => (i : Int)) (List.range m)) ≤ 3
    rw [this]; omega
theorem data_rows (fs : List (List Int)) : DataL (fs.map Ri) := by
  refine ⟨fun x hx => ?_, fun x hx => ?_, fs.map fun r => .tuple (r.map .int), py_rows fs, ?_, ?_⟩
  · obtain ⟨i, _, rfl⟩ := List.mem_map.mp hx; rfl
  · obtain ⟨i, _, rfl⟩ := List.mem_map.mp hx; simp
  · induction fs with
    | nil => simp [PyData.canLayAll0]
    | cons r fs ih => simp only [List.map_cons, PyData.canLayAll0, PyData.canLay0, can_ints, ih, Bool.and_self]
  · induction fs with
    | nil => simp [PyData.depthAll]
    | cons r fs ih => simp only [List.map_cons, PyData.depthAll, PyData.depth, depth_ints]; omega
end K11

namespace K11
open PySem PySem.Spec PyProof.Rows L2 DL
theorem nil_ok {s : S} : dNil s = .ok [] s := rfl
theorem asSeq_own {s : S} {i : Nat} {V : List D} (h : s.δ[i]? = some (.own (.lst V))) : asSeq s (.own i) = some V := by
  show asL s (.own i) = some V
  exact asl_own h
theorem len_own {s : S} {i : Nat} {V : List D} (h : s.δ[i]? = some (.own (.lst V))) : gLen s [.own i] = some (.int (V.length : Nat)) := by
  simp only [gLen, asSeq_own h, Option.map_some]
theorem lrg_ok {fa : FE} {s : S} {j : Int} (h : fa s = .ok (.int j) s) (hs : smallI j = true) (hj : decide (j ≤ 1000000) = true) : dLRg fa s = .ok (.lst (rngD 0 j.toNat)) s := by
  unfold dLRg
  rw [h, bind_ok]
  simp only [hs, hj, Bool.and_self, if_true]
theorem lrg_nat {fa : FE} {s : S} {j : Nat} (h : fa s = .ok (.int (j : Nat)) s) (hj : j ≤ 70) : dLRg fa s = .ok (.lst (rngD 0 j)) s := by
  have := lrg_ok h (small_w (w := j) hj) (decide_eq_true (by omega))
  rw [Int.toNat_natCast] at this
  exact this
theorem sl_lst {fa : FE} {fl fh : FO} {s s1 s2 s3 : S} {xs : List D} {l h : Option Int} (h1 : fa s = .ok (.lst xs) s1) (h2 : fl s1 = .ok l s2) (h3 : fh s2 = .ok h s3) : dSl fa fl fh s = .ok (.lst (DL.cutD xs l h)) s3 := by
  unfold dSl
  rw [h1, bind_ok, h2, bind_ok, h3, bind_ok]
  rfl
theorem len_ok {fa : FE} {s s1 : S} {d : D} {n : Nat} (h : fa s = .ok d s1) (e : gLen s1 [d] = some (.int (n : Nat))) : dB gLen (dCons fa dNil) s = .ok (.int (n : Nat)) s1 := b_ok (cons_ok h nil_ok) e
theorem set_list {s : S} {i : Nat} {V : List D} {k : Nat} (h : s.δ[i]? = some (.own (.lst V))) (hk : k < V.length) (d : D) : gSetI s (.own i) (.int (k : Nat)) d = some { s with δ := s.δ.set i (.own (.lst (V.set k d))) } := by
  have e : ixN V.length (k : Int) = some k := by simp [L2.ixN, hk]
  simp only [gSetI, mutAt, h, e, Option.map_some, setAt]
theorem setI_ok {fe fo fi : FE} {s s1 s2 s3 s4 : S} {d o i : D} (h1 : fe s = .ok d s1) (n1 : noOwn d = true) (h2 : fo s1 = .ok o s2) (h3 : fi s2 = .ok i s3) (h4 : gSetI s3 o i d = some s4) : dSetI gSetI fe fo fi s = .nx s4 := by
  unfold dSetI
  rw [h1]
  simp only [n1, if_true, h2, bind_ok, h3, h4]
theorem ix_own {s : S} {i : Nat} {V : List D} {k : Nat} {d : D} (h : s.δ[i]? = some (.own (.lst V))) (hk : V[k]? = some d) : gIx s (.own i) (.int (k : Nat)) = some d := by
  obtain ⟨hl, rfl⟩ := List.getElem?_eq_some_iff.mp hk
  have e : L2.atI V (k : Int) = some V[k] := by simp [L2.atI, L2.ixN, hl]
  show (asL s (.own i)).bind _ = _
  rw [asl_own h]
  exact e
theorem asgG_ok {fa : FE} {g : FG} {s s1 s2 : S} {d : D} (h : fa s = .ok d s1) (hn : noOwn d = true) (hg : g d s1 = some s2) : dAsgG fa g s = .nx s2 := by
  unfold dAsgG
  rw [h]
  simp only [hn, if_true, hg]
abbrev Sm (n : Nat) (R : D) (fs : List (List Int)) (c3 c4 c5 c6 c7 c8 : DL.Slot) (μ : List Cell) : S := ⟨[.val (.ref n), .val R, .own (.lst (fs.map Ri)), c3, c4, c5, c6, c7, c8, .no, .no, .no], μ⟩
def mx1 : FS := (dAsgG (dSl (dFrz (dCallF F_L_shuffled (dCons (dVar 0) (dCons (dFrz (dLRg (dB gLen (dCons (dVar 2) dNil)))) dNil)))) dNo (dPart (dC (.int (2))))) (gL (gC (gNm 4) (gC (gNm 5) gN))))
theorem mx1_ok {n k : Nat} {R : D} {fs : List (List Int)} {c3 c4 c5 c6 c7 c8 : DL.Slot} {μ : List Cell} (h : Dc k n μ) (hk : k ≤ 40000) (hl : 2 ≤ fs.length) (hl2 : fs.length ≤ 60) : ∃ (i j : Nat) (μ' : List Cell), i < fs.length ∧ j < fs.length ∧ i ≠ j ∧ Dc (k + 60) n μ' ∧ mx1 (Sm n R fs c3 c4 c5 c6 c7 c8 μ) = .nx (Sm n R fs c3 (.val (.int (i : Nat))) (.val (.int (j : Nat))) c6 c7 c8 μ') := by
  obtain ⟨ys, μ', e, p, d⟩ := shuffled_ok (n := n) (xs := rngD 0 fs.length) (dd := .lst (rngD 0 fs.length)) (.inl rfl) h (by omega) (by rw [rng_len]; omega) (data_rng _)
  obtain ⟨i, j, zs, hys, hi, hj, hij⟩ := two_of_perm p hl
  subst hys
  rw [rng_len] at d
  refine ⟨i, j, μ', hi, hj, hij, d.mono (by omega), ?_⟩
  have e1 : dB gLen (dCons (dVar 2) dNil) (Sm n R fs c3 c4 c5 c6 c7 c8 μ) = .ok (.int (fs.length : Nat)) (Sm n R fs c3 c4 c5 c6 c7 c8 μ) := by
    have := len_ok (fa := dVar 2) (s := Sm n R fs c3 c4 c5 c6 c7 c8 μ) (var_own (V := fs.map Ri) rfl) (len_own rfl)
    rw [List.length_map] at this
    exact this
  have e3 : dFrz (dCallF F_L_shuffled (dCons (dVar 0) (dCons (dFrz (dLRg (dB gLen (dCons (dVar 2) dNil)))) dNil))) (Sm n R fs c3 c4 c5 c6 c7 c8 μ) = .ok (.lst (.int (i : Nat) :: .int (j : Nat) :: zs)) (Sm n R fs c3 c4 c5 c6 c7 c8 μ') :=
    frzE_ok (callF_ok (s1 := Sm n R fs c3 c4 c5 c6 c7 c8 μ) (ds := [.ref n, .lst (rngD 0 fs.length)]) (cons_ok (var_ok rfl) (cons_ok (frzE_ok (lrg_nat e1 (by omega))) nil_ok)) rfl e)
  have hc := cut_to (xs := (.int (i : Nat) : D) :: .int (j : Nat) :: zs) (w := 2) (by simp)
  have e4 : dSl (dFrz (dCallF F_L_shuffled (dCons (dVar 0) (dCons (dFrz (dLRg (dB gLen (dCons (dVar 2) dNil)))) dNil)))) dNo (dPart (dC (.int (2)))) (Sm n R fs c3 c4 c5 c6 c7 c8 μ) = .ok (.lst [.int (i : Nat), .int (j : Nat)]) (Sm n R fs c3 c4 c5 c6 c7 c8 μ') :=
    (sl_lst e3 no_ok (part_ok (s := Sm n R fs c3 c4 c5 c6 c7 c8 μ') (i := ((2 : Nat) : Int)) c_ok)).trans (by rw [hc]; rfl)
  unfold mx1
  exact asgG_ok e4 rfl rfl
def mx2 : FS := (dAsg 6 (dCall F_L_pick (dCons (dVar 0) (dCons (dFrz (dLst (dCons (dC (.int (1))) (dCons (dNeg (dC (.int (1)))) (dCons (dC (.int (2))) (dCons (dNeg (dC (.int (5)))) dNil)))))) dNil))))
theorem neg_ok {fa : FE} {s s1 : S} {i : Int} (h : fa s = .ok (.int i) s1) : dNeg fa s = .ok (.int (-i)) s1 := by
  unfold dNeg
  rw [h]
  rfl
theorem mx2_ok {n k : Nat} {R : D} {fs : List (List Int)} {c3 c4 c5 c6 c7 c8 : DL.Slot} {μ : List Cell} (h : Dc k n μ) (hk : k ≤ 80000) : ∃ (c : Int) (μ' : List Cell), c.natAbs ≤ 5 ∧ Dc (k + 1) n μ' ∧ mx2 (Sm n R fs c3 c4 c5 c6 c7 c8 μ) = .nx (Sm n R fs c3 c4 c5 (.val (.int c)) c7 c8 μ') := by
  obtain ⟨x, hx, μ', e, d⟩ := pick_okD (xs := [.int 1, .int (-1), .int 2, .int (-5)]) h (by omega) (by simp) (by simp) (by simp)
  have : ∃ t : Int, x = .int t ∧ t.natAbs ≤ 5 := by
    simp only [List.mem_cons, List.not_mem_nil, or_false] at hx
    rcases hx with rfl | rfl | rfl | rfl <;> exact ⟨_, rfl, by decide⟩
  obtain ⟨t, rfl, ht⟩ := this
  exact ⟨t, μ', ht, d, asg_okμ (i := 6) (s1 := Sm n R fs c3 c4 c5 c6 c7 c8 μ') (call_okμ (s1 := Sm n R fs c3 c4 c5 c6 c7 c8 μ) (ds := [.ref n, .lst [.int 1, .int (-1), .int 2, .int (-5)]]) (cons_ok (var_ok rfl) (cons_ok (frzE_ok (lst_ok (cons_ok c_ok (cons_ok (neg_ok c_ok) (cons_ok c_ok (cons_ok (neg_ok c_ok) nil_ok)))) rfl (by simp))) nil_ok)) rfl e) rfl⟩
theorem mix_comp (a0 a1 a2 a3 a4 a5 a7 a8 : DL.Slot) (μ : List Cell) {c : Int} {n : Nat} (hn : 0 < n) (hn2 : n ≤ 40000) (hc : c.natAbs < 2 ^ 3) : ∀ xs ys : List Int, Bd n xs → Bd n ys →
    dLcGo [9, 10] (gT (gC (gNm 9) (gC (gNm 10) gN))) dYes (dOp gAdd (dVar 9) (dOp gMul (dVar 6) (dVar 10))) (zpD (xs.map .int) (ys.map .int)) ⟨[a0, a1, a2, a3, a4, a5, .val (.int c), a7, a8, .no, .no, .no], μ⟩ = .ok ((zw (fun a b => a + c * b) xs ys).map .int) ⟨[a0, a1, a2, a3, a4, a5, .val (.int c), a7, a8, .no, .no, .no], μ⟩
  | [], ys, _, _ => by simp [zpD, dLcGo, zw]
  | x :: xs, [], _, _ => by simp [zpD, dLcGo, zw]
  | x :: xs, y :: ys, h1, h2 => by
    have ih := mix_comp a0 a1 a2 a3 a4 a5 a7 a8 μ hn hn2 hc xs ys (fun z hz => h1 z (by simp [hz])) (fun z hz => h2 z (by simp [hz]))
    have m2 := mulOk_of hc (h2 y (by simp)) (by decide) hn (by omega)
    unfold zw at ih ⊢
    simp [zpD, dLcGo, wipeD, backD, mul_ii m2, ih]
def mx3 : FS := (dSetI gSetI (dB gTuple (dCons (dFrz (dLc [9, 10] (dIterZp (dCons (dOp gIx (dVar 2) (dVar 4)) (dCons (dOp gIx (dVar 2) (dVar 5)) dNil))) (gT (gC (gNm 9) (gC (gNm 10) gN))) dYes (dOp gAdd (dVar 9) (dOp gMul (dVar 6) (dVar 10))))) dNil)) (dVar 2) (dVar 4))
theorem iterZp_ok {fa : FA} {s s1 : S} {d e : D} {xs ys : List D} (h : fa s = .ok [d, e] s1) (h1 : fixSeq d = some xs) (h2 : fixSeq e = some ys) : dIterZp fa s = .ok (zpD xs ys) s1 := by
  rw [ap_IterZp, h, bind_ok]
  simp only [h1, h2]
theorem mx3_ok {n : Nat} {R : D} {fs : List (List Int)} {c3 c7 c8 : DL.Slot} {μ : List Cell} {i j : Nat} {c : Int} {b : Nat} (hi : i < fs.length) (hj : j < fs.length) (hc : c.natAbs ≤ 5) (hb0 : 0 < b) (hb : b ≤ 40000) (h1 : Bd b fs[i]) (h2 : Bd b fs[j]) (hl : fs[i].length ≤ 60) : mx3 (Sm n R fs c3 (.val (.int (i : Nat))) (.val (.int (j : Nat))) (.val (.int c)) c7 c8 μ) = .nx (Sm n R (fs.set i (zw (fun a b => a + c * b) fs[i] fs[j])) c3 (.val (.int (i : Nat))) (.val (.int (j : Nat))) (.val (.int c)) c7 c8 μ) := by
  have cc := mix_comp (.val (.ref n)) (.val R) (.own (.lst (fs.map Ri))) c3 (.val (.int (i : Nat))) (.val (.int (j : Nat))) c7 c8 μ (c := c) hb0 hb (by omega) fs[i] fs[j] h1 h2
  have gi : dOp gIx (dVar 2) (dVar 4) (Sm n R fs c3 (.val (.int (i : Nat))) (.val (.int (j : Nat))) (.val (.int c)) c7 c8 μ) = .ok (Ri fs[i]) (Sm n R fs c3 (.val (.int (i : Nat))) (.val (.int (j : Nat))) (.val (.int c)) c7 c8 μ) :=
    op_ok (var_own (V := fs.map Ri) rfl) (var_ok rfl) (ix_own (V := fs.map Ri) rfl (by rw [List.getElem?_map, List.getElem?_eq_getElem hi]; rfl))
  have gj : dOp gIx (dVar 2) (dVar 5) (Sm n R fs c3 (.val (.int (i : Nat))) (.val (.int (j : Nat))) (.val (.int c)) c7 c8 μ) = .ok (Ri fs[j]) (Sm n R fs c3 (.val (.int (i : Nat))) (.val (.int (j : Nat))) (.val (.int c)) c7 c8 μ) :=
    op_ok (var_own (V := fs.map Ri) rfl) (var_ok rfl) (ix_own (V := fs.map Ri) rfl (by rw [List.getElem?_map, List.getElem?_eq_getElem hj]; rfl))
  have k2 : dIterZp (dCons (dOp gIx (dVar 2) (dVar 4)) (dCons (dOp gIx (dVar 2) (dVar 5)) dNil)) (Sm n R fs c3 (.val (.int (i : Nat))) (.val (.int (j : Nat))) (.val (.int c)) c7 c8 μ) = .ok (zpD (fs[i].map .int) (fs[j].map .int)) (Sm n R fs c3 (.val (.int (i : Nat))) (.val (.int (j : Nat))) (.val (.int c)) c7 c8 μ) :=
    iterZp_ok (cons_ok gi (cons_ok gj nil_ok)) rfl rfl
  have hz : (zpD (fs[i].map D.int) (fs[j].map D.int)).length ≤ 16777216 := by rw [zp_len]; omega
  have k3 := tup_lc (lc_ok (vs := [9, 10]) k2 hz rfl cc) (tup_ints _ _)
  have k4 := setI_ok (fo := dVar 2) (fi := dVar 4) k3 rfl (var_own (V := fs.map Ri) rfl) (var_ok rfl) (set_list (V := fs.map Ri) rfl (by simpa using hi) _)
  unfold mx3
  rw [k4]
  simp only [← List.map_set]
  rfl
end K11

namespace K11
open PySem PySem.Spec PyProof.Rows L2 DL
def mxB : FS := dSeq mx1 (dSeq mx2 mx3)
theorem for_nx {g : FG} {f : FS} {d : D} {ds : List D} {s s1 s2 : S} {r : SR} (hg : g d s = some s1) (hf : f s1 = .nx s2) (hr : dFor g f ds s2 = r) : dFor g f (d :: ds) s = r := by
  unfold dFor
  simp only [hg, hf]
  exact hr
theorem for_nil {g : FG} {f : FS} {s : S} : dFor g f [] s = .nx s := by unfold dFor; rfl
theorem mxB_ok {n k w b : Nat} {R : D} {fs : List (List Int)} {c3 c4 c5 c6 c7 c8 : DL.Slot} {μ : List Cell} (hw : w ≤ 60) (h : ∀ o ∈ fs, o.length = w ∧ Bd b o) (h2 : 2 ≤ fs.length) (h60 : fs.length ≤ 60) (d : Dc k n μ) (hk : k ≤ 30000) (hb0 : 0 < b) (hb : b ≤ 1000) :
    ∃ (fs' : List (List Int)) (d4 d5 d6 : DL.Slot) (μ' : List Cell), fs'.length = fs.length ∧ (∀ o ∈ fs', o.length = w ∧ Bd (b + 3) o) ∧ Same fs' fs ∧ Dc (k + 61) n μ' ∧ mxB (Sm n R fs c3 c4 c5 c6 c7 c8 μ) = .nx (Sm n R fs' c3 d4 d5 d6 c7 c8 μ') := by
  obtain ⟨i, j, μ1, hi, hj, ne, d1, e1⟩ := mx1_ok (R := R) (fs := fs) (c3 := c3) (c4 := c4) (c5 := c5) (c6 := c6) (c7 := c7) (c8 := c8) d (by omega) h2 h60
  obtain ⟨c, μ2, hc, d2, e2⟩ := mx2_ok (R := R) (fs := fs) (c3 := c3) (c4 := .val (.int (i : Nat))) (c5 := .val (.int (j : Nat))) (c6 := c6) (c7 := c7) (c8 := c8) d1 (by omega)
  obtain ⟨i1, i2⟩ := h _ (List.getElem_mem hi)
  obtain ⟨j1, j2⟩ := h _ (List.getElem_mem hj)
  have e3 := mx3_ok (n := n) (R := R) (fs := fs) (c3 := c3) (c7 := c7) (c8 := c8) (μ := μ2) hi hj hc hb0 (by omega) i2 j2 (by omega)
  have hs := same_set hi hj ne (r := zw (fun a b => a + c * b) fs[i] fs[j]) (by' := c) (fun x => dt_mix (by omega))
  have hall : ∀ o ∈ fs.set i (zw (fun a b => a + c * b) fs[i] fs[j]), o.length = w ∧ Bd (b + 3) o := fun o ho => by
    rcases List.mem_or_eq_of_mem_set ho with h1 | rfl
    · exact ⟨(h o h1).1, (h o h1).2.mono (by omega)⟩
    · exact ⟨by rw [zw_len (by omega)]; exact i1, mix_bd hc _ _ i2 j2⟩
  refine ⟨_, .val (.int (i : Nat)), .val (.int (j : Nat)), .val (.int c), μ2, by simp, hall, hs, d2.mono (by omega), ?_⟩
  unfold mxB
  exact (seq_nx e1).trans ((seq_nx e2).trans e3)
theorem mx_loop {n w : Nat} {R : D} (hw : w ≤ 60) : ∀ (t k b : Nat) (i0 : Int) (fs : List (List Int)) (c3 c4 c5 c6 c7 c8 : DL.Slot) (μ : List Cell), (∀ o ∈ fs, o.length = w ∧ Bd b o) → 2 ≤ fs.length → fs.length ≤ 60 → Dc k n μ → k + 61 * t ≤ 30000 → 0 < b → b + 3 * t ≤ 1000 →
    ∃ (fs' : List (List Int)) (d3 d4 d5 d6 : DL.Slot) (μ' : List Cell), fs'.length = fs.length ∧ (∀ o ∈ fs', o.length = w ∧ Bd (b + 3 * t) o) ∧ Same fs' fs ∧ Dc (k + 61 * t) n μ' ∧ dFor (gNm 3) mxB (rngD i0 t) (Sm n R fs c3 c4 c5 c6 c7 c8 μ) = .nx (Sm n R fs' d3 d4 d5 d6 c7 c8 μ')
  | 0, k, b, i0, fs, c3, c4, c5, c6, c7, c8, μ, h, _, _, d, _, _, _ => ⟨fs, c3, c4, c5, c6, μ, rfl, h, fun x => Iff.rfl, d, rfl⟩
  | t + 1, k, b, i0, fs, c3, c4, c5, c6, c7, c8, μ, h, h2, h60, d, hk, hb0, hb => by
    obtain ⟨f1, d4, d5, d6, μ1, l1, hall, hs, d2, e1⟩ := mxB_ok (R := R) (c3 := .val (.int i0)) (c4 := c4) (c5 := c5) (c6 := c6) (c7 := c7) (c8 := c8) hw h h2 h60 d (by omega) hb0 (by omega)
    obtain ⟨fs', d3, d4', d5', d6', μ', l, a, sm, dd, e⟩ := mx_loop hw (R := R) t (k + 61) (b + 3) (i0 + 1) f1 (.val (.int i0)) d4 d5 d6 c7 c8 μ1 hall (by omega) (by omega) d2 (by omega) (by omega) (by omega)
    refine ⟨fs', d3, d4', d5', d6', μ', by omega, fun o ho => ⟨(a o ho).1, (a o ho).2.mono (by omega)⟩, sm.trans hs, dd.mono (by omega), ?_⟩
    rw [rngD_succ]
    exact for_nx rfl e1 e
/-! told: each row so many times -/
abbrev St (n : Nat) (R F : D) (ts : List (List Int)) (c3 c4 c5 c6 c8 : DL.Slot) (μ : List Cell) : S := ⟨[.val (.ref n), .val R, .val F, c3, c4, c5, c6, .own (.lst (ts.map Ri)), c8, .no, .no, .no], μ⟩
def tdP : FS := (dAsg 6 (dCall F_L_pick (dCons (dVar 0) (dCons (dFrz (dLst (dCons (dC (.int (1))) (dCons (dNeg (dC (.int (2)))) (dCons (dC (.int (3))) dNil))))) dNil))))
def tdA : FS := (dDrop (dM "list" gAppend (dVar 7) (dCons (dB gTuple (dCons (dFrz (dLc [11] (dIter (dVar 8)) (gNm 11) dYes (dOp gMul (dVar 6) (dVar 11)))) dNil)) dNil)))
theorem td_step {n k w b : Nat} {R F : D} {ts : List (List Int)} {c3 c4 c5 c6 : DL.Slot} {r : List Int} {μ : List Cell} (h : Dc k n μ) (hk : k ≤ 80000) (hr : r.length = w) (hw : w ≤ 60) (hb0 : 0 < b) (hb : b ≤ 40000) (hbr : Bd b r) (hts : ts.length ≤ 1000) : ∃ (c : Int) (μ' : List Cell), c ≠ 0 ∧ c.natAbs ≤ 3 ∧ Dc (k + 1) n μ' ∧
    dSeq tdP tdA (St n R F ts c3 c4 c5 c6 (.val (Ri r)) μ) = .nx (St n R F (ts ++ [r.map fun a => c * a]) c3 c4 c5 (.val (.int c)) (.val (Ri r)) μ') := by
  obtain ⟨x, hx, μ', e, d⟩ := pick_okD (xs := [.int 1, .int (-2), .int 3]) h (by omega) (by simp) (by simp) (by simp)
  have : ∃ t : Int, x = .int t ∧ t ≠ 0 ∧ t.natAbs ≤ 3 := by
    simp only [List.mem_cons, List.not_mem_nil, or_false] at hx
    rcases hx with rfl | rfl | rfl <;> exact ⟨_, rfl, by decide, by decide⟩
  obtain ⟨t, rfl, ht0, ht⟩ := this
  refine ⟨t, μ', ht0, ht, d, ?_⟩
  have e1 : tdP (St n R F ts c3 c4 c5 c6 (.val (Ri r)) μ) = .nx (St n R F ts c3 c4 c5 (.val (.int t)) (.val (Ri r)) μ') :=
    asg_okμ (i := 6) (s1 := St n R F ts c3 c4 c5 c6 (.val (Ri r)) μ') (call_okμ (s1 := St n R F ts c3 c4 c5 c6 (.val (Ri r)) μ) (ds := [.ref n, .lst [.int 1, .int (-2), .int 3]]) (cons_ok (var_ok rfl) (cons_ok (frzE_ok (lst_ok (cons_ok c_ok (cons_ok (neg_ok c_ok) (cons_ok c_ok nil_ok))) rfl (by simp))) nil_ok)) rfl e) rfl
  have e2 := tmul (v := 11) (fe := dVar 6) (fi := dVar 8) (t := t) (s := St n R F ts c3 c4 c5 (.val (.int t)) (.val (Ri r)) μ') (n := 2) (m := b) (xs := r) (d := Ri r) (var_ok rfl) rfl (by simp) rfl (fun x => var_ok rfl) (by decide) hb0 (by omega) (by omega) hbr (by omega)
  have e3 := apd_ok (i := 7) (s := St n R F ts c3 c4 c5 (.val (.int t)) (.val (Ri r)) μ') (V := ts.map Ri) rfl e2 rfl (by rw [List.length_map]; omega) rfl
  refine (seq_nx e1).trans ?_
  unfold tdA
  rw [e3]
  have em : (ts ++ [r.map fun a => t * a]).map Ri = ts.map Ri ++ [Ri (r.map fun a => t * a)] := List.map_append ..
  dsimp only [St]
  rw [em]
  rfl
theorem td_loop {n w b : Nat} {R F : D} {c3 c4 c5 : DL.Slot} (hw : w ≤ 60) (hb0 : 0 < b) (hb : b ≤ 40000) : ∀ (rs : List (List Int)) (k : Nat) (ts : List (List Int)) (c6 c8 : DL.Slot) (μ : List Cell), (∀ o ∈ rs, o.length = w ∧ Bd b o) → ts.length + rs.length ≤ 100 → Dc k n μ → k + rs.length ≤ 40000 →
    ∃ (us : List (List Int)) (d6 d8 : DL.Slot) (μ' : List Cell), us.length = rs.length ∧ (∀ o ∈ us, o.length = w ∧ Bd (b + 2) o) ∧ Same us rs ∧ Dc (k + rs.length) n μ' ∧ dFor (gNm 8) (dSeq tdP tdA) (rs.map Ri) (St n R F ts c3 c4 c5 c6 c8 μ) = .nx (St n R F (ts ++ us) c3 c4 c5 d6 d8 μ')
  | [], k, ts, c6, c8, μ, _, _, d, _ => ⟨[], c6, c8, μ, rfl, by simp, fun x => Iff.rfl, d, by rw [List.append_nil]; rfl⟩
  | r :: rs, k, ts, c6, c8, μ, h, hl, d, hk => by
    rw [List.length_cons] at hl hk
    obtain ⟨r1, r2⟩ := h r (by simp)
    obtain ⟨c, μ1, hc0, hc, d1, e1⟩ := td_step (R := R) (F := F) (ts := ts) (c3 := c3) (c4 := c4) (c5 := c5) (c6 := c6) d (by omega) r1 hw hb0 hb r2 (by omega)
    obtain ⟨us, d6, d8, μ', l, a, sm, dd, e⟩ := td_loop hw hb0 hb (R := R) (F := F) (c3 := c3) (c4 := c4) (c5 := c5) rs (k + 1) (ts ++ [r.map fun a => c * a]) (.val (.int c)) (.val (Ri r)) μ1 (fun o ho => h o (by simp [ho])) (by simp; omega) d1 (by omega)
    refine ⟨(r.map fun a => c * a) :: us, d6, d8, μ', by simp [l], fun o ho => ?_, ?_, by rw [List.length_cons]; exact dd.mono (by omega), ?_⟩
    · rcases List.mem_cons.mp ho with rfl | ho
      · refine ⟨by simpa using r1, fun z hz => ?_⟩
        obtain ⟨y, hy, rfl⟩ := List.mem_map.mp hz
        have := r2 y hy
        rw [Int.natAbs_mul, Nat.pow_add]
        calc c.natAbs * y.natAbs ≤ 3 * y.natAbs := Nat.mul_le_mul_right _ hc
          _ < 2 ^ b * 2 ^ 2 := by omega
      · exact a o ho
    · refine same_cons (fun x => ?_) sm
      rw [dt_smul]
      exact ⟨fun z => (Int.mul_eq_zero.mp z).resolve_left hc0, fun z => by rw [z]; simp⟩
    · rw [List.map_cons]
      rw [List.append_assoc] at e
      exact for_nx rfl e1 e
theorem frzS_own {i : Nat} {f : FS} {s s1 : S} {xs : List D} (h : f s = .nx s1) (h1 : s1.δ[i]? = some (.own (.lst xs))) : dFrzS i f s = .nx { s1 with δ := s1.δ.set i (.val (.lst xs)) } := by
  unfold dFrzS
  simp only [h, frzAt, h1, Cell.toD]
theorem if_ok {t : FT} {fa fb : FE} {s s1 s2 : S} {b : Bool} {d : D} (h : t s = .ok b s1) (h1 : (if b then fa else fb) s1 = .ok d s2) : dIf t fa fb s = .ok d s2 := by
  unfold dIf
  rw [h]
  cases b <;> exact h1
theorem cmp_ok {g : S → D → D → Option D} {fa fb : FE} {s s1 s2 : S} {x y : D} {b : Bool} (h1 : fa s = .ok x s1) (h2 : fb s1 = .ok y s2) (h3 : g s2 x y = some (.bl b)) : dCmpT g fa fb s = .ok b s2 := by
  rw [ap_CmpT, h1, bind_ok, h2, bind_ok, h3]
theorem retF_ok {fc : FC} {s s1 : S} {c : Cell} (h : fc s = .ok c s1) : dRetF fc s = .rtc c s1 := by
  rw [ap_RetF, h]
theorem for_it {fi : FA} {g : FG} {f : FS} {s s1 : S} {ds : List D} {r : SR} (h : fi s = .ok ds s1) (h1 : dFor g f ds s1 = r) : dForI fi g f s = r := by
  unfold dForI
  rw [h]
  exact h1
def tail1 : FS := (dSeq (dAsgO 7 (dLst dNil)) (dSeq (dFrzS 7 (dForI (dIter (dVar 2)) (gNm 8) (dSeq tdP tdA))) (dRetF (dCallF F_L_shuffled (dCons (dVar 0) (dCons (dVar 7) dNil))))))
def cnt1 : FE := (dIf (dCmpT gGt (dB gLen (dCons (dVar 1) dNil)) (dC (.int (1)))) (dC (.int (6))) (dC (.int (0))))
theorem mixed_split : b_L_rw_mixed = (dSeq (dAsgO 2 (dBF gList (dCons (dVar 1) dNil))) (dSeq (dFrzS 2 (dForI (dRng1 (dCons cnt1 dNil)) (gNm 3) mxB)) tail1)) := rfl
theorem cnt1_ok {s : S} {rs : List D} (h : s.δ[1]? = some (.val (.lst rs))) : ∃ t : Nat, t ≤ 6 ∧ (t ≠ 0 → 2 ≤ rs.length) ∧ cnt1 s = .ok (.int (t : Nat)) s := by
  have e1 : dB gLen (dCons (dVar 1) dNil) s = .ok (.int (rs.length : Nat)) s := len_ok (var_ok h) rfl
  have e2 : dCmpT gGt (dB gLen (dCons (dVar 1) dNil)) (dC (.int (1))) s = .ok (decide ((rs.length : Int) > 1)) s := cmp_ok e1 c_ok rfl
  by_cases hr : 2 ≤ rs.length
  · refine ⟨6, by omega, fun _ => hr, if_ok e2 ?_⟩
    rw [decide_eq_true (by omega)]
    rfl
  · refine ⟨0, by omega, fun z => absurd rfl z, if_ok e2 ?_⟩
    rw [decide_eq_false (by omega)]
    rfl
theorem perm_rows {ys : List D} {us : List (List Int)} (p : ys.Perm (us.map Ri)) : ∃ vs : List (List Int), ys = vs.map Ri ∧ vs.Perm us :=
  let ⟨m, h1, h2⟩ := perm_map Ri unRi unRi_ri p
  ⟨m, h1, h2⟩
theorem rw_mixed_ok {n w k : Nat} {rs : List (List Int)} {μ : List Cell} (hw : w ≤ 60) (h : ∀ o ∈ rs, o.length = w ∧ Bd 60 o) (hl : rs.length ≤ 60) (d : Dc k n μ) (hk : k ≤ 20000) : ∃ (vs : List (List Int)) (μ' : List Cell), F_L_rw_mixed [.ref n, .lst (rs.map Ri)] μ = .okc (.lst (vs.map Ri)) μ' ∧ vs.length = rs.length ∧ (∀ o ∈ vs, o.length = w ∧ Bd 80 o) ∧ Same vs rs ∧ Dc (k + 500) n μ' := by
  obtain ⟨t, ht, ht2, ec⟩ := cnt1_ok (s := Sm n (.lst (rs.map Ri)) rs .no .no .no .no .no .no μ) (rs := rs.map Ri) rfl
  have er : dRng1 (dCons cnt1 dNil) (Sm n (.lst (rs.map Ri)) rs .no .no .no .no .no .no μ) = .ok (rngD 0 t) (Sm n (.lst (rs.map Ri)) rs .no .no .no .no .no .no μ) := by
    have := rng_gen (cons_ok ec nil_ok) (small_w (w := t) (by omega))
    rw [Int.toNat_natCast] at this
    exact this
  have lp : ∃ (fs' : List (List Int)) (d3 d4 d5 d6 : DL.Slot) (μ' : List Cell), fs'.length = rs.length ∧ (∀ o ∈ fs', o.length = w ∧ Bd 78 o) ∧ Same fs' rs ∧ Dc (k + 366) n μ' ∧ dFor (gNm 3) mxB (rngD 0 t) (Sm n (.lst (rs.map Ri)) rs .no .no .no .no .no .no μ) = .nx (Sm n (.lst (rs.map Ri)) fs' d3 d4 d5 d6 .no .no μ') := by
    by_cases h0 : t = 0
    · subst h0
      exact ⟨rs, .no, .no, .no, .no, μ, rfl, fun o ho => ⟨(h o ho).1, (h o ho).2.mono (by omega)⟩, fun x => Iff.rfl, d.mono (by omega), rfl⟩
    · have := ht2 h0
      rw [List.length_map] at this
      obtain ⟨fs', d3, d4, d5, d6, μ', a1, a2, a3, a4, a5⟩ := mx_loop hw (n := n) (R := .lst (rs.map Ri)) t k 60 0 rs .no .no .no .no .no .no μ h this hl d (by omega) (by omega) (by omega)
      exact ⟨fs', d3, d4, d5, d6, μ', a1, fun o ho => ⟨(a2 o ho).1, (a2 o ho).2.mono (by omega)⟩, a3, a4.mono (by omega), a5⟩
  obtain ⟨fs, d3, d4, d5, d6, μ1, l1, a1, s1, dd1, e1⟩ := lp
  obtain ⟨us, d6', d8, μ2, l2, a2, s2, dd2, e2⟩ := td_loop (n := n) (R := .lst (rs.map Ri)) (F := .lst (fs.map Ri)) (c3 := d3) (c4 := d4) (c5 := d5) hw (b := 78) (by omega) (by omega) fs (k + 366) [] d6 .no μ1 a1 (by simp; omega) dd1 (by omega)
  rw [List.nil_append] at e2
  obtain ⟨ys, μ3, e3, p3, dd3⟩ := shuffled_ok (n := n) (xs := us.map Ri) (dd := .lst (us.map Ri)) (.inl rfl) dd2 (by omega) (by simp; omega) (data_rows us)
  obtain ⟨vs, rfl, pv⟩ := perm_rows p3
  refine ⟨vs, μ3, ?_, by rw [pv.length_eq]; omega, fun o ho => ⟨(a2 o (pv.mem_iff.mp ho)).1, (a2 o (pv.mem_iff.mp ho)).2⟩, ((Same.perm pv).trans s2).trans s1, dd3.mono (by rw [List.length_map]; omega)⟩
  have g1 : dAsgO 2 (dBF gList (dCons (dVar 1) dNil)) ⟨[.val (.ref n), .val (.lst (rs.map Ri)), .no, .no, .no, .no, .no, .no, .no, .no, .no, .no], μ⟩ = .nx (Sm n (.lst (rs.map Ri)) rs .no .no .no .no .no .no μ) := by
    have : dBF gList (dCons (dVar 1) dNil) ⟨[.val (.ref n), .val (.lst (rs.map Ri)), .no, .no, .no, .no, .no, .no, .no, .no, .no, .no], μ⟩ = .ok (.lst (rs.map Ri)) ⟨[.val (.ref n), .val (.lst (rs.map Ri)), .no, .no, .no, .no, .no, .no, .no, .no, .no, .no], μ⟩ := by
      have e : dCons (dVar 1) dNil ⟨[.val (.ref n), .val (.lst (rs.map Ri)), .no, .no, .no, .no, .no, .no, .no, .no, .no, .no], μ⟩ = .ok [.lst (rs.map Ri)] ⟨[.val (.ref n), .val (.lst (rs.map Ri)), .no, .no, .no, .no, .no, .no, .no, .no, .no, .no], μ⟩ := cons_ok (var_ok rfl) nil_ok
      rw [ap_BF, e, bind_ok]; rfl
    exact asgO_ok this
  have g2 := frzS_own (i := 2) (xs := fs.map Ri) (for_it er e1) rfl
  have g3 : dAsgO 7 (dLst dNil) ⟨[.val (.ref n), .val (.lst (rs.map Ri)), .val (.lst (fs.map Ri)), d3, d4, d5, d6, .no, .no, .no, .no, .no], μ1⟩ = .nx (St n (.lst (rs.map Ri)) (.lst (fs.map Ri)) [] d3 d4 d5 d6 .no μ1) := asgO_ok (lst_ok nil_ok rfl (by simp))
  have g4 := frzS_own (i := 7) (xs := us.map Ri) (for_it (iter_ok (fa := dVar 2) (s := St n (.lst (rs.map Ri)) (.lst (fs.map Ri)) [] d3 d4 d5 d6 .no μ1) (var_ok rfl) rfl) e2) rfl
  have g5 : dRetF (dCallF F_L_shuffled (dCons (dVar 0) (dCons (dVar 7) dNil))) ⟨[.val (.ref n), .val (.lst (rs.map Ri)), .val (.lst (fs.map Ri)), d3, d4, d5, d6', .val (.lst (us.map Ri)), d8, .no, .no, .no], μ2⟩ = .rtc (.lst (vs.map Ri)) ⟨[.val (.ref n), .val (.lst (rs.map Ri)), .val (.lst (fs.map Ri)), d3, d4, d5, d6', .val (.lst (us.map Ri)), d8, .no, .no, .no], μ3⟩ :=
    retF_ok (callF_ok (s1 := ⟨[.val (.ref n), .val (.lst (rs.map Ri)), .val (.lst (fs.map Ri)), d3, d4, d5, d6', .val (.lst (us.map Ri)), d8, .no, .no, .no], μ2⟩) (ds := [.ref n, .lst (us.map Ri)]) (cons_ok (var_ok rfl) (cons_ok (var_ok rfl) nil_ok)) rfl e3)
  have t : b_L_rw_mixed ⟨[.val (.ref n), .val (.lst (rs.map Ri)), .no, .no, .no, .no, .no, .no, .no, .no, .no, .no], μ⟩ = .rtc (.lst (vs.map Ri)) ⟨[.val (.ref n), .val (.lst (rs.map Ri)), .val (.lst (fs.map Ri)), d3, d4, d5, d6', .val (.lst (us.map Ri)), d8, .no, .no, .no], μ3⟩ := by
    rw [mixed_split]
    unfold tail1
    exact (seq_nx g1).trans ((seq_nx g2).trans ((seq_nx g3).trans ((seq_nx g4).trans g5)))
  exact runF_rtc (n := 12) (ds := [.ref n, .lst (rs.map Ri)]) t
end K11

namespace K11
open PySem PySem.Spec PyProof.Rows L2 DL
/-! ### steps of the law's body -/
theorem ne_str (s : S) (x : Str) : neS s (.str x) (.str x) = some (.bl false) := by
  simp [neS, twoStr]
theorem can_rows (m : List (List Int)) : PyData.canLayAll0 (m.map fun r => .tuple (r.map .int)) = true := by
  induction m with
  | nil => simp [PyData.canLayAll0]
  | cons r fs ih => simp only [List.map_cons, PyData.canLayAll0, PyData.canLay0, can_ints, ih, Bool.and_self]
theorem sh_tup {xs : List PyData} (h : SeqAt.shaped (.list xs) = true) : SeqAt.shaped (.tuple xs) = true := by
  unfold SeqAt.shaped at h ⊢
  rw [Bool.and_eq_true] at h ⊢
  obtain ⟨h1, h2⟩ := h
  have h2 := of_decide_eq_true h2
  rw [PyData.canLay0] at h1
  rw [PyData.depth] at h2
  refine ⟨by rw [PyData.canLay0]; exact h1, decide_eq_true ?_⟩
  rw [PyData.depth]; exact h2
theorem sh_rowsT (m : List (List Int)) : SeqAt.shaped (.tuple (m.map fun r => .tuple (r.map .int))) = true := sh_tup (sh_rows m)
theorem ne_lot (s : S) (m : List (List Int)) : neS s (.tup (m.map Ri)) (.tup (m.map Ri)) = some (.bl false) := by
  have p : toPyS s (.tup (m.map Ri)) = some (.tuple (m.map fun r => .tuple (r.map .int))) := by rw [pys_tup, py_rows]; rfl
  have e : PyData.eqv (.tuple (m.map fun r => .tuple (r.map .int))) (.tuple (m.map fun r => .tuple (r.map .int))) = true := SeqAt.eqv_refl _ (by rw [PyData.canLay0]; exact can_rows m)
  have t : twoStr (.tup (m.map Ri)) (.tup (m.map Ri)) = none := rfl
  unfold neS
  rw [t]
  simp only [gDat, p, neG, sh_rowsT, Bool.and_self, if_true, e, Option.map_some, Bool.not_true]
theorem ne_int (s : S) (i j : Int) (h : i = j) : neS s (.int i) (.int j) = some (.bl false) := by
  subst h
  have e : PyData.eqv (.int i) (.int i) = true := SeqAt.eqv_refl _ rfl
  have hs : SeqAt.shaped (.int i) = true := rfl
  show (neG (.int i) (.int i)).map D.bl = _
  simp only [neG, hs, Bool.and_self, if_true, e, Bool.not_true, Option.map_some]
theorem ifS_no {t : FT} {f : FS} {s s1 : S} (h : t s = .ok false s1) : dIfS t f dSkip s = .nx s1 := by
  rw [ap_IfS, h]; rfl
theorem or_no {t u : FT} {s s1 s2 : S} (h : t s = .ok false s1) (h2 : u s1 = .ok false s2) : dOrT t u s = .ok false s2 := by
  rw [ap_OrT, h, bind_ok]; exact h2
theorem rev_ok {fa : FE} {s s1 : S} {xs : List D} (h : fa s = .ok (.tup xs) s1) : dRev fa s = .ok (.tup xs.reverse) s1 := by
  unfold dRev
  rw [h]; rfl
theorem par_ok {i j : Nat} {fa : FA} {s s1 : S} {a b : D} (h : fa s = .ok [a, b] s1) (na : noOwn a = true) (nb : noOwn b = true) : dPar i j fa s = .nx { s1 with δ := (s1.δ.set i (.val a)).set j (.val b) } := by
  unfold dPar
  rw [h]
  simp only [na, nb, Bool.and_self, if_true]
theorem tuple_lst (s : S) (xs : List D) : gTuple s [.lst xs] = some (.tup xs) := rfl
theorem Good.mono {w b c : Nat} {lot : List (List Int)} (g : Good w b lot) (h : b ≤ c) : Good w c lot :=
  let ⟨B, b1, b2, b3⟩ := g.bas
  ⟨g.red, B, b1, fun o ho => ⟨(b2 o ho).1, (b2 o ho).2.mono h⟩, b3⟩
/-- the rows apart of a lot, as a lot of greater rows -/
theorem apart_good {w : Nat} (hw : w ≤ 6) {lot m : List (List Int)} (g : Good w 60 lot) (R : ApRes3 w 60 3 lot m) : Good w 326 m := by
  have hl := apart_len g (s := 3) (by omega) R
  rcases Nat.lt_or_ge lot.length w with h | h
  · exact R.good.mono (sz_lt _ (by omega)).2.2
  · have : m = [] := List.eq_nil_of_length_eq_zero (by omega)
    subst this
    exact Good.nil w 326
theorem apart_back {w : Nat} (hw : w ≤ 6) {lot m k : List (List Int)} (g : Good w 60 lot) (R : ApRes3 w 60 3 lot m) (R2 : ApRes3 w 326 3 m k) : k = lot :=
  red_unique R2.good.red g.red fun x hx => by
    rw [apart_perp (apart_good hw g R) (s := 3) (by omega) R2 hx, apart_held g (s := 3) (by omega) R hx]
theorem L_met_ok {w : Nat} {U V : List (List Int)} (h1 : 1 ≤ w) (hw : w ≤ 6) (gU : Good w 60 U) (gV : Good w 60 V) (μ : List Cell) :
    ∃ A B L2 M, F_L_met [.int (w : Nat), .tup (U.map Ri), .tup (V.map Ri)] μ = .ok (.tup (M.map Ri)) μ ∧ ApRes3 w 60 3 U A ∧ ApRes3 w 60 3 V B ∧ Good w 326 L2 ∧ Same L2 (A ++ B) ∧ ApRes3 w 326 3 L2 M := by
  obtain ⟨A, e1, RA⟩ := L_apart3 (A60 hw gU) μ
  obtain ⟨B, e2, RB⟩ := L_apart3 (A60 hw gV) μ
  have hrow : ∀ o ∈ A ++ B, o.length = w ∧ Bd 326 o := fun o ho => (List.mem_append.mp ho).elim (apart_rows hw gU RA o) (apart_rows hw gV RB o)
  obtain ⟨L2, e3, g, l, p⟩ := L_lot2 (S326 hw (A ++ B).length) hrow (d := .lst ((A ++ B).map Ri)) (.inr rfl) μ
  obtain ⟨M, e4, RM⟩ := L_apart3 (A326 hw g) μ
  refine ⟨A, B, L2, M, ?_, RA, RB, g, p, RM⟩
  have q1 := RA.good.le
  have q2 := RB.good.le
  have ea : ∀ s : S, gAdd s (.lst (A.map Ri)) (.lst (B.map Ri)) = some (.lst ((A ++ B).map Ri)) := fun s => by
    rw [add_ll2 _ _ _ (by simp; omega), List.map_append]
  simp [F_L_met, b_L_met, runF, gList, e1, e2, e3, e4, ea, -List.map_map, -List.map_append]
theorem met_both {w : Nat} {U V : List (List Int)} (h1 : 1 ≤ w) (hw : w ≤ 6) (gU : Good w 60 U) (gV : Good w 60 V) (μ : List Cell) :
    ∃ A B L2 M, F_met_lots [.int (w : Nat), .tup (U.map Ri), .tup (V.map Ri)] μ = .ok (.tup (M.map Ri)) μ ∧ F_L_met [.int (w : Nat), .tup (U.map Ri), .tup (V.map Ri)] μ = .ok (.tup (M.map Ri)) μ ∧ ApRes3 w 60 3 U A ∧ ApRes3 w 60 3 V B ∧ Good w 326 L2 ∧ Same L2 (A ++ B) ∧ ApRes3 w 326 3 L2 M := by
  obtain ⟨A, B, L2, M, e, RA, RB, g, p, RM⟩ := L_met_ok h1 hw gU gV μ
  obtain ⟨A', B', L2', M', e', RA', RB', g', p', RM'⟩ := met_ok h1 (A60 hw gU) (A60 hw gV) (c := 326) (fun A B RA RB => ⟨S326 hw _, fun o ho => (List.mem_append.mp ho).elim (apart_rows hw gU RA o) (apart_rows hw gV RB o)⟩) (fun L2 g => A326 hw g) μ
  obtain rfl := apart_unique RA RA'
  obtain rfl := apart_unique RB RB'
  obtain rfl := good_unique g g' (p.trans p'.symm)
  obtain rfl := apart_unique RM RM'
  exact ⟨A, B, L2, M, e', e, RA, RB, g, p, RM⟩
/-! what is shown of lots -/
theorem sz_1900 : ∀ l < 6, sz 326 3 l ≤ 1900 ∧ sz 60 3 l ≤ 1900 := by decide
theorem lot_repr {w : Nat} (hw : w ≤ 6) {lot : List (List Int)} (g : Good w 60 lot) : ∃ x, ∀ s : S, gRepr s [.tup (lot.map Ri)] = some (.str x) :=
  repr_lot (by have := g.le; omega) fun o ho => ⟨((lot_rows hw g) o ho).2.mono (by omega), by have := ((lot_rows hw g) o ho).1; omega⟩
theorem apart_repr {w b : Nat} (hb : b = 60 ∨ b = 326) (hw : w ≤ 6) {lot m : List (List Int)} (g : Good w b lot) (R : ApRes3 w b 3 lot m) : ∃ x, ∀ s : S, gRepr s [.tup (m.map Ri)] = some (.str x) := by
  have hl := apart_len g (s := 3) (by omega) R
  refine repr_lot (by omega) fun o ho => ?_
  have L := apart_small g (s := 3) (by omega) R
  have := List.length_pos_of_mem ho
  have z := sz_1900 lot.length (by omega)
  refine ⟨(L.bd o ho).mono ?_, by have := L.len o ho; omega⟩
  rcases hb with rfl | rfl
  · exact z.2
  · exact z.1
end K11

namespace K11
open PySem PySem.Spec PyProof.Rows L2 DL
/-! ### the law's body, step by step -/
abbrev Rt (n w : Nat) (c2 c3 c4 c5 c6 c7 c8 c9 c10 : DL.Slot) (μ : List Cell) : S := ⟨[.val (.ref n), .val (.int (w : Nat)), c2, c3, c4, c5, c6, c7, c8, c9, c10], μ⟩
def RowsOk (w b : Nat) (rows : List (List Int)) : Prop := ∀ o ∈ rows, o.length = w ∧ Bd b o
def rr1 : FS := dAsg 2 (dFrz (dCallF F_L_rw_drawn (dCons (dVar 0) (dCons (dVar 1) (dCons (dCall F_L_roll (dCons (dVar 0) (dCons (dOp gAdd (dVar 1) (dC (.int (2)))) dNil))) dNil)))))
theorem rr1_ok {n w k : Nat} {c2 c3 c4 c5 c6 c7 c8 c9 c10 : DL.Slot} {μ : List Cell} (hw : w ≤ 6) (h : Dc k n μ) (hk : k ≤ 40000) : ∃ (rows : List (List Int)) (μ' : List Cell), RowsOk w 60 rows ∧ rows.length ≤ 7 ∧ Dc (k + 78) n μ' ∧ rr1 (Rt n w c2 c3 c4 c5 c6 c7 c8 c9 c10 μ) = .nx (Rt n w (.val (.lst (rows.map Ri))) c3 c4 c5 c6 c7 c8 c9 c10 μ') := by
  obtain ⟨r, μ1, e1, hr, d1⟩ := roll_ok (t := (w : Int) + 2) h (by omega) (by omega) (by omega)
  obtain ⟨fs, μ2, e2, hl, hf, d2⟩ := rw_drawn_ok (w := w) (m := r) hw (by omega) d1 (by omega)
  refine ⟨fs, μ2, hf, by omega, d2.mono (by omega), ?_⟩
  have q1 : dCall F_L_roll (dCons (dVar 0) (dCons (dOp gAdd (dVar 1) (dC (.int (2)))) dNil)) (Rt n w c2 c3 c4 c5 c6 c7 c8 c9 c10 μ) = .ok (.int (r : Nat)) (Rt n w c2 c3 c4 c5 c6 c7 c8 c9 c10 μ1) :=
    call_okμ (s1 := Rt n w c2 c3 c4 c5 c6 c7 c8 c9 c10 μ) (cons_ok (var_ok rfl) (cons_ok (op_ok (var_ok rfl) c_ok (add_ii _ _ _)) nil_ok)) rfl e1
  have q2 := callF_ok (s := Rt n w c2 c3 c4 c5 c6 c7 c8 c9 c10 μ) (s1 := Rt n w c2 c3 c4 c5 c6 c7 c8 c9 c10 μ1) (cons_ok (fa := dVar 0) (var_ok rfl) (cons_ok (fa := dVar 1) (var_ok rfl) (cons_ok q1 nil_ok))) rfl e2
  exact asg_okμ (i := 2) (frzE_ok q2) rfl
def rr2 : FS := dPar 3 4 (dCons (dCall F_L_lot (dCons (dVar 2) dNil)) (dCons (dFrz (dCallF F_L_rw_drawn (dCons (dVar 0) (dCons (dVar 1) (dCons (dOp gAdd (dC (.int (1))) (dCall F_L_roll (dCons (dVar 0) (dCons (dVar 1) dNil)))) dNil))))) dNil))
theorem rr2_ok {n w k : Nat} {c3 c4 c5 c6 c7 c8 c9 c10 : DL.Slot} {rows : List (List Int)} {μ : List Cell} (hw1 : 1 ≤ w) (hw : w ≤ 6) (h : Dc k n μ) (hk : k ≤ 40000) (hR : RowsOk w 60 rows) (hRl : rows.length ≤ 7) : ∃ (lot more : List (List Int)) (μ' : List Cell), Good w 60 lot ∧ Same lot rows ∧ RowsOk w 60 more ∧ more.length ≤ 7 ∧ Dc (k + 78) n μ' ∧ rr2 (Rt n w (.val (.lst (rows.map Ri))) c3 c4 c5 c6 c7 c8 c9 c10 μ) = .nx (Rt n w (.val (.lst (rows.map Ri))) (.val (.tup (lot.map Ri))) (.val (.lst (more.map Ri))) c5 c6 c7 c8 c9 c10 μ') := by
  obtain ⟨lot, e0, g, _, sm⟩ := L_lot2 (S60 hw rows.length) hR (d := .lst (rows.map Ri)) (.inr rfl) μ
  obtain ⟨r, μ1, e1, hr, d1⟩ := roll_ok (t := (w : Int)) h (by omega) (by omega) (by omega)
  obtain ⟨fs, μ2, e2, hl, hf, d2⟩ := rw_drawn_ok (w := w) (m := 1 + r) hw (by omega) d1 (by omega)
  refine ⟨lot, fs, μ2, g, sm, hf, by omega, d2.mono (by omega), ?_⟩
  have q0 : dCall F_L_lot (dCons (dVar 2) dNil) (Rt n w (.val (.lst (rows.map Ri))) c3 c4 c5 c6 c7 c8 c9 c10 μ) = .ok (.tup (lot.map Ri)) (Rt n w (.val (.lst (rows.map Ri))) c3 c4 c5 c6 c7 c8 c9 c10 μ) := call_ok (cons_ok (var_ok rfl) nil_ok) rfl e0
  have q1 : dOp gAdd (dC (.int (1))) (dCall F_L_roll (dCons (dVar 0) (dCons (dVar 1) dNil))) (Rt n w (.val (.lst (rows.map Ri))) c3 c4 c5 c6 c7 c8 c9 c10 μ) = .ok (.int ((1 + r : Nat) : Int)) (Rt n w (.val (.lst (rows.map Ri))) c3 c4 c5 c6 c7 c8 c9 c10 μ1) :=
    op_ok c_ok (call_okμ (s1 := Rt n w (.val (.lst (rows.map Ri))) c3 c4 c5 c6 c7 c8 c9 c10 μ) (cons_ok (var_ok rfl) (cons_ok (var_ok rfl) nil_ok)) rfl e1) (by rw [add_ii]; congr 2)
  have q2 := callF_ok (s := Rt n w (.val (.lst (rows.map Ri))) c3 c4 c5 c6 c7 c8 c9 c10 μ) (s1 := Rt n w (.val (.lst (rows.map Ri))) c3 c4 c5 c6 c7 c8 c9 c10 μ1) (cons_ok (fa := dVar 0) (var_ok rfl) (cons_ok (fa := dVar 1) (var_ok rfl) (cons_ok q1 nil_ok))) rfl e2
  exact par_ok (cons_ok q0 (cons_ok (frzE_ok q2) nil_ok)) rfl rfl
def rr3 : FS := (dIfS (dOrT (dCmpT neS (dB gRepr (dCons (dCall F_lot_of (dCons (dVar 1) (dCons (dB gTuple (dCons (dVar 2) dNil)) dNil))) dNil)) (dB gRepr (dCons (dVar 3) dNil))) (dCmpT neS (dCall F_lot_of (dCons (dVar 1) (dCons (dB gTuple (dCons (dFrz (dCallF F_L_rw_mixed (dCons (dVar 0) (dCons (dVar 2) dNil)))) dNil)) dNil))) (dVar 3))) (dRet (dC (.bl false))) dSkip)
theorem rr3_ok {n w k : Nat} {c4 c5 c6 c7 c8 c9 c10 : DL.Slot} {rows lot : List (List Int)} {μ : List Cell} (hw1 : 1 ≤ w) (hw : w ≤ 6) (h : Dc k n μ) (hk : k ≤ 20000) (hR : RowsOk w 60 rows) (hRl : rows.length ≤ 7) (g : Good w 60 lot) (sm : Same lot rows) : ∃ (μ' : List Cell), Dc (k + 500) n μ' ∧ rr3 (Rt n w (.val (.lst (rows.map Ri))) (.val (.tup (lot.map Ri))) c4 c5 c6 c7 c8 c9 c10 μ) = .nx (Rt n w (.val (.lst (rows.map Ri))) (.val (.tup (lot.map Ri))) c4 c5 c6 c7 c8 c9 c10 μ') := by
  obtain ⟨m, e0, gm, _, sm0⟩ := lot_of2 hw1 (S60 hw rows.length) hR (by omega) μ
  obtain rfl := good_unique gm g (sm0.trans sm.symm)
  obtain ⟨x, hx⟩ := lot_repr hw g
  obtain ⟨vs, μ1, e1, l1, a1, s1, d1⟩ := rw_mixed_ok (by omega) hR (by omega) h hk
  obtain ⟨m', e2, gm', _, sm2⟩ := lot_of2 hw1 (S80 hw vs.length) a1 (by omega) μ1
  obtain rfl := good_unique gm' g ((sm2.trans s1).trans sm.symm)
  refine ⟨μ1, d1, ?_⟩
  have q0 := call_ok (F := F_lot_of) (s := Rt n w (.val (.lst (rows.map Ri))) (.val (.tup (m'.map Ri))) c4 c5 c6 c7 c8 c9 c10 μ) (cons_ok (fa := dVar 1) (var_ok rfl) (cons_ok (b_ok (fa := dCons (dVar 2) dNil) (cons_ok (var_ok rfl) nil_ok) (tuple_lst _ (rows.map Ri))) nil_ok)) rfl e0
  have q1 : (dCmpT neS (dB gRepr (dCons (dCall F_lot_of (dCons (dVar 1) (dCons (dB gTuple (dCons (dVar 2) dNil)) dNil))) dNil)) (dB gRepr (dCons (dVar 3) dNil))) (Rt n w (.val (.lst (rows.map Ri))) (.val (.tup (m'.map Ri))) c4 c5 c6 c7 c8 c9 c10 μ) = .ok false (Rt n w (.val (.lst (rows.map Ri))) (.val (.tup (m'.map Ri))) c4 c5 c6 c7 c8 c9 c10 μ) :=
    cmp_ok (b_ok (cons_ok q0 nil_ok) (hx _)) (b_ok (cons_ok (var_ok rfl) nil_ok) (hx _)) (ne_str _ _)
  have q2 := callF_ok (F := F_L_rw_mixed) (s := Rt n w (.val (.lst (rows.map Ri))) (.val (.tup (m'.map Ri))) c4 c5 c6 c7 c8 c9 c10 μ) (s1 := Rt n w (.val (.lst (rows.map Ri))) (.val (.tup (m'.map Ri))) c4 c5 c6 c7 c8 c9 c10 μ) (cons_ok (fa := dVar 0) (var_ok rfl) (cons_ok (fa := dVar 2) (var_ok rfl) nil_ok)) rfl e1
  have q3 := call_ok (F := F_lot_of) (s := Rt n w (.val (.lst (rows.map Ri))) (.val (.tup (m'.map Ri))) c4 c5 c6 c7 c8 c9 c10 μ1) (cons_ok (fa := dC (.int (w : Nat))) c_ok (cons_ok (fa := dC (.tup (vs.map Ri))) c_ok nil_ok)) rfl e2
  have q4 : dCall F_lot_of (dCons (dVar 1) (dCons (dB gTuple (dCons (dFrz (dCallF F_L_rw_mixed (dCons (dVar 0) (dCons (dVar 2) dNil)))) dNil)) dNil)) (Rt n w (.val (.lst (rows.map Ri))) (.val (.tup (m'.map Ri))) c4 c5 c6 c7 c8 c9 c10 μ) = .ok (.tup (m'.map Ri)) (Rt n w (.val (.lst (rows.map Ri))) (.val (.tup (m'.map Ri))) c4 c5 c6 c7 c8 c9 c10 μ1) :=
    call_okμ (s1 := Rt n w (.val (.lst (rows.map Ri))) (.val (.tup (m'.map Ri))) c4 c5 c6 c7 c8 c9 c10 μ1) (cons_ok (var_ok rfl) (cons_ok (b_ok (cons_ok (frzE_ok q2) nil_ok) (tuple_lst _ (vs.map Ri))) nil_ok)) rfl e2
  exact ifS_no (or_no q1 (cmp_ok q4 (var_ok rfl) (ne_lot _ _)))
def rr4 : FS := (dIfS (dOrT (dCmpT neS (dCall F_lot_of (dCons (dVar 1) (dCons (dVar 3) dNil))) (dVar 3)) (dCmpT neS (dCall F_lot_of (dCons (dVar 1) (dCons (dRev (dVar 3)) dNil))) (dVar 3))) (dRet (dC (.bl false))) dSkip)
theorem rr4_ok {n w : Nat} {c2 c4 c5 c6 c7 c8 c9 c10 : DL.Slot} {lot : List (List Int)} {μ : List Cell} (hw1 : 1 ≤ w) (hw : w ≤ 6) (g : Good w 60 lot) : rr4 (Rt n w c2 (.val (.tup (lot.map Ri))) c4 c5 c6 c7 c8 c9 c10 μ) = .nx (Rt n w c2 (.val (.tup (lot.map Ri))) c4 c5 c6 c7 c8 c9 c10 μ) := by
  have hl := g.le
  obtain ⟨m, e0, gm, _, sm0⟩ := lot_of2 hw1 (S326 hw lot.length) (lot_rows hw g) (by omega) μ
  obtain rfl := good_unique gm g sm0
  obtain ⟨m', e1, gm', _, sm1⟩ := lot_of2 hw1 (S326 hw m.reverse.length) (fun o ho => lot_rows hw g o (List.mem_reverse.mp ho)) (by simp; omega) μ
  obtain rfl := good_unique gm' g (sm1.trans (Same.perm (List.reverse_perm m)))
  rw [List.map_reverse] at e1
  have q0 := call_ok (F := F_lot_of) (s := Rt n w c2 (.val (.tup (m'.map Ri))) c4 c5 c6 c7 c8 c9 c10 μ) (cons_ok (fa := dVar 1) (var_ok rfl) (cons_ok (fa := dVar 3) (var_ok rfl) nil_ok)) rfl e0
  have q1 := call_ok (F := F_lot_of) (s := Rt n w c2 (.val (.tup (m'.map Ri))) c4 c5 c6 c7 c8 c9 c10 μ) (cons_ok (fa := dVar 1) (var_ok rfl) (cons_ok (fa := dRev (dVar 3)) (rev_ok (var_ok rfl)) nil_ok)) rfl e1
  exact ifS_no (or_no (cmp_ok q0 (var_ok rfl) (ne_lot _ _)) (cmp_ok q1 (var_ok rfl) (ne_lot _ _)))
end K11

namespace K11
open PySem PySem.Spec PyProof.Rows L2 DL
def hB : FS := (dIfS (dCmpT neS (dB gRepr (dCons (dCall F_holds (dCons (dVar 1) (dCons (dVar 3) (dCons (dVar 5) dNil)))) dNil)) (dB gRepr (dCons (dCall F_L_holds (dCons (dVar 3) (dCons (dVar 5) dNil))) dNil))) (dRet (dC (.bl false))) dSkip)
theorem hB_ok {n w : Nat} {c2 c4 c6 c7 c8 c9 c10 : DL.Slot} {lot : List (List Int)} {r : List Int} {μ : List Cell} (hw1 : 1 ≤ w) (hw : w ≤ 6) (g : Good w 60 lot) (hr : r.length = w ∧ Bd 60 r) : hB (Rt n w c2 (.val (.tup (lot.map Ri))) c4 (.val (Ri r)) c6 c7 c8 c9 c10 μ) = .nx (Rt n w c2 (.val (.tup (lot.map Ri))) c4 (.val (Ri r)) c6 c7 c8 c9 c10 μ) := by
  have hl := g.le
  have z := (zz lot.length (by omega)).2.2.1
  have z2 := (sz_le lot.length (by omega)).1
  have e1 := holds_ok hw1 (by omega) (s := 3) (by omega) (by decide) g z2 hr.1 hr.2 z μ
  have e2 := L_holds_ok (w := w) (by omega) (Nat.succ_pos _) (by decide) (g.sz (s := 3) (by omega)) hr.1 hr.2 z μ
  obtain ⟨x, hx⟩ := repr_bl (decide (lead (rest lot r) = none))
  have q1 := call_ok (F := F_holds) (s := Rt n w c2 (.val (.tup (lot.map Ri))) c4 (.val (Ri r)) c6 c7 c8 c9 c10 μ) (cons_ok (fa := dVar 1) (var_ok rfl) (cons_ok (fa := dVar 3) (var_ok rfl) (cons_ok (fa := dVar 5) (var_ok rfl) nil_ok))) rfl e1
  have q2 := call_ok (F := F_L_holds) (s := Rt n w c2 (.val (.tup (lot.map Ri))) c4 (.val (Ri r)) c6 c7 c8 c9 c10 μ) (cons_ok (fa := dVar 3) (var_ok rfl) (cons_ok (fa := dVar 5) (var_ok rfl) nil_ok)) rfl e2
  exact ifS_no (cmp_ok (b_ok (cons_ok q1 nil_ok) (hx _)) (b_ok (cons_ok q2 nil_ok) (hx _)) (ne_str _ _))
theorem h_loop {n w : Nat} {c2 c4 c6 c7 c8 c9 c10 : DL.Slot} {lot : List (List Int)} {μ : List Cell} (hw1 : 1 ≤ w) (hw : w ≤ 6) (g : Good w 60 lot) : ∀ (rs : List (List Int)) (c5 : DL.Slot), RowsOk w 60 rs → (c5 = .no ∨ ∃ d, c5 = .val d) → ∃ d5 : DL.Slot, (d5 = .no ∨ ∃ d, d5 = .val d) ∧ dFor (gNm 5) hB (rs.map Ri) (Rt n w c2 (.val (.tup (lot.map Ri))) c4 c5 c6 c7 c8 c9 c10 μ) = .nx (Rt n w c2 (.val (.tup (lot.map Ri))) c4 d5 c6 c7 c8 c9 c10 μ)
  | [], c5, _, h => ⟨c5, h, for_nil⟩
  | r :: rs, c5, h, _ => by
    obtain ⟨d5, h5, e⟩ := h_loop hw1 hw g rs (.val (Ri r)) (fun o ho => h o (by simp [ho])) (.inr ⟨_, rfl⟩)
    refine ⟨d5, h5, ?_⟩
    rw [List.map_cons]
    exact for_nx rfl (hB_ok hw1 hw g (h r (by simp))) e
def rr5 : FS := (dForI (dIter (dOp gAdd (dOp gAdd (dVar 4) (dVar 2)) (dFrz (dLst (dCons (dOp gMul (dTup (dCons (dC (.int (0))) dNil)) (dVar 1)) dNil))))) (gNm 5) hB)
theorem rr5_ok {n w : Nat} {c6 c7 c8 c9 c10 : DL.Slot} {rows more lot : List (List Int)} {μ : List Cell} (hw1 : 1 ≤ w) (hw : w ≤ 6) (hR : RowsOk w 60 rows) (hM : RowsOk w 60 more) (hRl : rows.length ≤ 7) (hMl : more.length ≤ 7) (g : Good w 60 lot) : ∃ d5 : DL.Slot, (d5 = .no ∨ ∃ d, d5 = .val d) ∧ rr5 (Rt n w (.val (.lst (rows.map Ri))) (.val (.tup (lot.map Ri))) (.val (.lst (more.map Ri))) .no c6 c7 c8 c9 c10 μ) = .nx (Rt n w (.val (.lst (rows.map Ri))) (.val (.tup (lot.map Ri))) (.val (.lst (more.map Ri))) d5 c6 c7 c8 c9 c10 μ) := by
  have hall : RowsOk w 60 (more ++ rows ++ [List.replicate w 0]) := fun o ho => by
    rcases List.mem_append.mp ho with ho | ho
    · exact (List.mem_append.mp ho).elim (hM o) (hR o)
    · rw [List.mem_singleton.mp ho]
      exact ⟨by simp, fun z hz => by rw [List.eq_of_mem_replicate hz]; exact Nat.two_pow_pos _⟩
  obtain ⟨d5, h5, e⟩ := h_loop (n := n) (c2 := .val (.lst (rows.map Ri))) (c4 := .val (.lst (more.map Ri))) (c6 := c6) (c7 := c7) (c8 := c8) (c9 := c9) (c10 := c10) (μ := μ) hw1 hw g _ .no hall (.inl rfl)
  refine ⟨d5, h5, ?_⟩
  have e0 : ∀ s : S, dTup (dCons (dC (.int 0)) dNil) s = .ok (.tup [.int 0]) s := fun s => tup_ok (cons_ok c_ok nil_ok) rfl (by simp)
  have q1 : dOp gMul (dTup (dCons (dC (.int (0))) dNil)) (dVar 1) (Rt n w (.val (.lst (rows.map Ri))) (.val (.tup (lot.map Ri))) (.val (.lst (more.map Ri))) .no c6 c7 c8 c9 c10 μ) = .ok (Ri (List.replicate w 0)) (Rt n w (.val (.lst (rows.map Ri))) (.val (.tup (lot.map Ri))) (.val (.lst (more.map Ri))) .no c6 c7 c8 c9 c10 μ) := op_ok (e0 _) (var_ok rfl) (mulz _ w (by omega))
  have q2 : (dOp gAdd (dOp gAdd (dVar 4) (dVar 2)) (dFrz (dLst (dCons (dOp gMul (dTup (dCons (dC (.int (0))) dNil)) (dVar 1)) dNil)))) (Rt n w (.val (.lst (rows.map Ri))) (.val (.tup (lot.map Ri))) (.val (.lst (more.map Ri))) .no c6 c7 c8 c9 c10 μ) = .ok (.lst ((more ++ rows ++ [List.replicate w 0]).map Ri)) (Rt n w (.val (.lst (rows.map Ri))) (.val (.tup (lot.map Ri))) (.val (.lst (more.map Ri))) .no c6 c7 c8 c9 c10 μ) := by
    have := op_ok (g := gAdd) (op_ok (fa := dVar 4) (fb := dVar 2) (s := Rt n w (.val (.lst (rows.map Ri))) (.val (.tup (lot.map Ri))) (.val (.lst (more.map Ri))) .no c6 c7 c8 c9 c10 μ) (var_ok rfl) (var_ok rfl) (add_ll2 _ _ _ (by simp; omega))) (frzE_ok (lst_ok (cons_ok q1 nil_ok) rfl (by simp))) (add_ll2 _ _ _ (by simp; omega))
    rw [this, List.map_append, List.map_append]
    rfl
  exact for_it (iter_ok q2 rfl) e
def rr6 : FS := (dAsg 6 (dCall F_L_lot (dCons (dVar 4) dNil)))
theorem rr6_ok {n w : Nat} {c2 c3 c5 c6 c7 c8 c9 c10 : DL.Slot} {more : List (List Int)} {μ : List Cell} (hw : w ≤ 6) (hM : RowsOk w 60 more) : ∃ other : List (List Int), Good w 60 other ∧ Same other more ∧ rr6 (Rt n w c2 c3 (.val (.lst (more.map Ri))) c5 c6 c7 c8 c9 c10 μ) = .nx (Rt n w c2 c3 (.val (.lst (more.map Ri))) c5 (.val (.tup (other.map Ri))) c7 c8 c9 c10 μ) := by
  obtain ⟨lot, e0, g, _, sm⟩ := L_lot2 (S60 hw more.length) hM (d := .lst (more.map Ri)) (.inr rfl) μ
  exact ⟨lot, g, sm, asg_ok (i := 6) (call_ok (cons_ok (var_ok rfl) nil_ok) rfl e0) rfl⟩
theorem joined_good {w : Nat} {A B : List (List Int)} (hw1 : 1 ≤ w) (hw : w ≤ 6) (gA : Good w 60 A) (gB : Good w 60 B) (μ : List Cell) : ∃ m, F_joined_lots [.int (w : Nat), .tup (A.map Ri), .tup (B.map Ri)] μ = .ok (.tup (m.map Ri)) μ ∧ Good w 326 m ∧ Same m (A ++ B) := by
  have h1 := gA.le
  have h2 := gB.le
  exact joined_ok hw1 (sz_le A.length (by omega)).1 (sz_le B.length (by omega)).1 (gA.sz (s := 3) (by omega)) gA.red (gB.sz (s := 3) (by omega)) gB.red (S326 hw _) (fun o ho => (List.mem_append.mp ho).elim (lot_rows hw gA o) (lot_rows hw gB o)) μ
def rr7 : FS := (dPar 7 8 (dCons (dCall F_joined_lots (dCons (dVar 1) (dCons (dVar 3) (dCons (dVar 6) dNil)))) (dCons (dCall F_met_lots (dCons (dVar 1) (dCons (dVar 3) (dCons (dVar 6) dNil)))) dNil)))
def rr8 : FS := (dIfS (dOrT (dCmpT neS (dB gRepr (dCons (dVar 7) dNil)) (dB gRepr (dCons (dCall F_L_lot (dCons (dOp gAdd (dVar 2) (dVar 4)) dNil)) dNil))) (dCmpT neS (dB gRepr (dCons (dVar 8) dNil)) (dB gRepr (dCons (dCall F_L_met (dCons (dVar 1) (dCons (dVar 3) (dCons (dVar 6) dNil)))) dNil)))) (dRet (dC (.bl false))) dSkip)
def rr9 : FS := (dIfS (dOrT (dCmpT neS (dOp gAdd (dB gLen (dCons (dVar 7) dNil)) (dB gLen (dCons (dVar 8) dNil))) (dOp gAdd (dB gLen (dCons (dVar 3) dNil)) (dB gLen (dCons (dVar 6) dNil)))) (dCmpT neS (dCall F_joined_lots (dCons (dVar 1) (dCons (dVar 6) (dCons (dVar 3) dNil)))) (dVar 7))) (dRet (dC (.bl false))) dSkip)
theorem rr789_ok {n w : Nat} {c5 c9 c10 : DL.Slot} {rows more lot other : List (List Int)} {μ : List Cell} (hw1 : 1 ≤ w) (hw : w ≤ 6) (hR : RowsOk w 60 rows) (hM : RowsOk w 60 more) (hRl : rows.length ≤ 7) (hMl : more.length ≤ 7) (g : Good w 60 lot) (sm : Same lot rows) (go : Good w 60 other) (so : Same other more) :
    ∃ d7 d8 : DL.Slot, dSeq rr7 (dSeq rr8 rr9) (Rt n w (.val (.lst (rows.map Ri))) (.val (.tup (lot.map Ri))) (.val (.lst (more.map Ri))) c5 (.val (.tup (other.map Ri))) .no .no c9 c10 μ) = .nx (Rt n w (.val (.lst (rows.map Ri))) (.val (.tup (lot.map Ri))) (.val (.lst (more.map Ri))) c5 (.val (.tup (other.map Ri))) d7 d8 c9 c10 μ) := by
  obtain ⟨both, e1, gb, sb⟩ := joined_good hw1 hw g go μ
  obtain ⟨A, B, L2, M, e2, e3, RA, RB, gL, sL, RM⟩ := met_both hw1 hw g go μ
  obtain ⟨P, e4, gP, _, sP⟩ := L_lot2 (S60 hw (rows ++ more).length) (fun o ho => (List.mem_append.mp ho).elim (hR o) (hM o)) (d := .lst ((rows ++ more).map Ri)) (.inr rfl) μ
  have sPl : Same P (lot ++ other) := sP.trans (sm.symm.app so.symm)
  obtain rfl := good_unique gP gb (sPl.trans sb.symm)
  obtain ⟨x, hx⟩ := lot_repr hw gP
  obtain ⟨y, hy⟩ := apart_repr (.inr rfl) hw gL RM
  obtain ⟨T, _, RT⟩ := apart_in3 (A60 hw gP) μ
  have hd := dims (s := 3) (by omega) g go gP sPl RA RB RT gL sL RM
  obtain ⟨both', e5, gb', sb'⟩ := joined_good hw1 hw go g μ
  obtain rfl := good_unique gb' gP ((sb'.trans (Same.perm List.perm_append_comm)).trans sPl.symm)
  refine ⟨.val (.tup (both'.map Ri)), .val (.tup (M.map Ri)), ?_⟩
  have q1 := call_ok (F := F_joined_lots) (s := Rt n w (.val (.lst (rows.map Ri))) (.val (.tup (lot.map Ri))) (.val (.lst (more.map Ri))) c5 (.val (.tup (other.map Ri))) .no .no c9 c10 μ) (cons_ok (fa := dVar 1) (var_ok rfl) (cons_ok (fa := dVar 3) (var_ok rfl) (cons_ok (fa := dVar 6) (var_ok rfl) nil_ok))) rfl e1
  have q2 := call_ok (F := F_met_lots) (s := Rt n w (.val (.lst (rows.map Ri))) (.val (.tup (lot.map Ri))) (.val (.lst (more.map Ri))) c5 (.val (.tup (other.map Ri))) .no .no c9 c10 μ) (cons_ok (fa := dVar 1) (var_ok rfl) (cons_ok (fa := dVar 3) (var_ok rfl) (cons_ok (fa := dVar 6) (var_ok rfl) nil_ok))) rfl e2
  have s7 : rr7 (Rt n w (.val (.lst (rows.map Ri))) (.val (.tup (lot.map Ri))) (.val (.lst (more.map Ri))) c5 (.val (.tup (other.map Ri))) .no .no c9 c10 μ) = .nx (Rt n w (.val (.lst (rows.map Ri))) (.val (.tup (lot.map Ri))) (.val (.lst (more.map Ri))) c5 (.val (.tup (other.map Ri))) (.val (.tup (both'.map Ri))) (.val (.tup (M.map Ri))) c9 c10 μ) := par_ok (cons_ok q1 (cons_ok q2 nil_ok)) rfl rfl
  have ea : ∀ s : S, gAdd s (.lst (rows.map Ri)) (.lst (more.map Ri)) = some (.lst ((rows ++ more).map Ri)) := fun s => by
    rw [add_ll2 _ _ _ (by simp; omega), List.map_append]
  have q3 := call_ok (F := F_L_lot) (s := Rt n w (.val (.lst (rows.map Ri))) (.val (.tup (lot.map Ri))) (.val (.lst (more.map Ri))) c5 (.val (.tup (other.map Ri))) (.val (.tup (both'.map Ri))) (.val (.tup (M.map Ri))) c9 c10 μ) (cons_ok (op_ok (fa := dVar 2) (fb := dVar 4) (var_ok rfl) (var_ok rfl) (ea _)) nil_ok) rfl e4
  have q4 := call_ok (F := F_L_met) (s := Rt n w (.val (.lst (rows.map Ri))) (.val (.tup (lot.map Ri))) (.val (.lst (more.map Ri))) c5 (.val (.tup (other.map Ri))) (.val (.tup (both'.map Ri))) (.val (.tup (M.map Ri))) c9 c10 μ) (cons_ok (fa := dVar 1) (var_ok rfl) (cons_ok (fa := dVar 3) (var_ok rfl) (cons_ok (fa := dVar 6) (var_ok rfl) nil_ok))) rfl e3
  have s8 := ifS_no (f := dRet (dC (.bl false))) (or_no (cmp_ok (b_ok (cons_ok (fa := dVar 7) (var_ok rfl) nil_ok) (hx _)) (b_ok (cons_ok q3 nil_ok) (hx _)) (ne_str _ _)) (cmp_ok (b_ok (cons_ok (fa := dVar 8) (var_ok rfl) nil_ok) (hy _)) (b_ok (cons_ok q4 nil_ok) (hy _)) (ne_str _ _)))
  have q5 := call_ok (F := F_joined_lots) (s := Rt n w (.val (.lst (rows.map Ri))) (.val (.tup (lot.map Ri))) (.val (.lst (more.map Ri))) c5 (.val (.tup (other.map Ri))) (.val (.tup (both'.map Ri))) (.val (.tup (M.map Ri))) c9 c10 μ) (cons_ok (fa := dVar 1) (var_ok rfl) (cons_ok (fa := dVar 6) (var_ok rfl) (cons_ok (fa := dVar 3) (var_ok rfl) nil_ok))) rfl e5
  have lt : ∀ (i : Nat) (m : List (List Int)) (s : S), s.δ[i]? = some (.val (.tup (m.map Ri))) → dB gLen (dCons (dVar i) dNil) s = .ok (.int (m.length : Nat)) s := fun i m s h => len_ok (var_ok h) (by rw [len_tup, List.length_map])
  have s9 := ifS_no (f := dRet (dC (.bl false))) (or_no (cmp_ok (g := neS) (op_ok (lt 7 both' (Rt n w (.val (.lst (rows.map Ri))) (.val (.tup (lot.map Ri))) (.val (.lst (more.map Ri))) c5 (.val (.tup (other.map Ri))) (.val (.tup (both'.map Ri))) (.val (.tup (M.map Ri))) c9 c10 μ) rfl) (lt 8 M _ rfl) (add_ii _ _ _)) (op_ok (lt 3 lot _ rfl) (lt 6 other _ rfl) (add_ii _ _ _)) (ne_int _ _ _ (by omega))) (cmp_ok (fb := dVar 7) q5 (var_ok rfl) (ne_lot _ _)))
  exact (seq_nx s7).trans ((seq_nx s8).trans s9)
end K11

namespace K11
open PySem PySem.Spec PyProof.Rows L2 DL
def rr10 : FS := (dAsg 9 (dCall F_rows_apart (dCons (dVar 1) (dCons (dVar 3) dNil))))
def rr11 : FS := (dIfS (dOrT (dCmpT neS (dB gRepr (dCons (dVar 9) dNil)) (dB gRepr (dCons (dCall F_L_apart (dCons (dVar 3) (dCons (dVar 1) dNil))) dNil))) (dOrT (dCmpT neS (dOp gAdd (dB gLen (dCons (dVar 9) dNil)) (dB gLen (dCons (dVar 3) dNil))) (dVar 1)) (dCmpT neS (dCall F_rows_apart (dCons (dVar 1) (dCons (dVar 9) dNil))) (dVar 3)))) (dRet (dC (.bl false))) dSkip)
theorem lenT {s : S} (i : Nat) (m : List (List Int)) (h : s.δ[i]? = some (.val (.tup (m.map Ri)))) : dB gLen (dCons (dVar i) dNil) s = .ok (.int (m.length : Nat)) s := len_ok (var_ok h) (by rw [len_tup, List.length_map])
theorem rr10_ok {n w : Nat} {c2 c4 c5 c6 c7 c8 c10 : DL.Slot} {lot : List (List Int)} {μ : List Cell} (hw1 : 1 ≤ w) (hw : w ≤ 6) (g : Good w 60 lot) : ∃ m, ApRes3 w 60 3 lot m ∧ dSeq rr10 rr11 (Rt n w c2 (.val (.tup (lot.map Ri))) c4 c5 c6 c7 c8 .no c10 μ) = .nx (Rt n w c2 (.val (.tup (lot.map Ri))) c4 c5 c6 c7 c8 (.val (.tup (m.map Ri))) c10 μ) := by
  obtain ⟨m, e1, R⟩ := rows_apart_ok hw1 (A60 hw g) μ
  obtain ⟨m', e2, R'⟩ := L_apart3 (A60 hw g) μ
  obtain rfl := apart_unique R R'
  obtain ⟨k, e3, Rk⟩ := rows_apart_ok hw1 (A326 hw (apart_good hw g R)) μ
  obtain rfl := apart_back hw g R Rk
  obtain ⟨x, hx⟩ := apart_repr (.inl rfl) hw g R
  have hl := apart_len g (s := 3) (by omega) R
  refine ⟨m, R, ?_⟩
  have s10 : rr10 (Rt n w c2 (.val (.tup (k.map Ri))) c4 c5 c6 c7 c8 .no c10 μ) = .nx (Rt n w c2 (.val (.tup (k.map Ri))) c4 c5 c6 c7 c8 (.val (.tup (m.map Ri))) c10 μ) := asg_ok (i := 9) (call_ok (cons_ok (var_ok rfl) (cons_ok (var_ok rfl) nil_ok)) rfl e1) rfl
  have q1 := call_ok (F := F_L_apart) (s := Rt n w c2 (.val (.tup (k.map Ri))) c4 c5 c6 c7 c8 (.val (.tup (m.map Ri))) c10 μ) (cons_ok (fa := dVar 3) (var_ok rfl) (cons_ok (fa := dVar 1) (var_ok rfl) nil_ok)) rfl e2
  have q2 := call_ok (F := F_rows_apart) (s := Rt n w c2 (.val (.tup (k.map Ri))) c4 c5 c6 c7 c8 (.val (.tup (m.map Ri))) c10 μ) (cons_ok (fa := dVar 1) (var_ok rfl) (cons_ok (fa := dVar 9) (var_ok rfl) nil_ok)) rfl e3
  have q3 := op_ok (g := gAdd) (lenT 9 m (s := Rt n w c2 (.val (.tup (k.map Ri))) c4 c5 c6 c7 c8 (.val (.tup (m.map Ri))) c10 μ) rfl) (lenT 3 k rfl) (add_ii _ _ _)
  have s11 := ifS_no (f := dRet (dC (.bl false))) (or_no (cmp_ok (b_ok (cons_ok (fa := dVar 9) (var_ok rfl) nil_ok) (hx _)) (b_ok (cons_ok q1 nil_ok) (hx _)) (ne_str _ _)) (or_no (cmp_ok (g := neS) (fb := dVar 1) q3 (var_ok rfl) (ne_int _ _ _ (by omega))) (cmp_ok (fb := dVar 3) q2 (var_ok rfl) (ne_lot _ _))))
  exact (seq_nx s10).trans s11
theorem lc_none {v : Nat} {ft : FT} {fe : FE} : ∀ (ds : List D) (s : S), v < s.δ.length → (∀ d ∈ ds, ft ⟨s.δ.set v (.val d), s.μ⟩ = .ok false ⟨s.δ.set v (.val d), s.μ⟩) → (∀ d ∈ ds, noOwn d = true) → dLcGo [v] (gNm v) ft fe ds s = .ok [] s
  | [], s, _, _, _ => rfl
  | d :: ds, s, hl, h, hn => by
    have ih := lc_none (fe := fe) ds s hl (fun x hx => h x (by simp [hx])) (fun x hx => hn x (by simp [hx]))
    have gv : s.δ[v]? = some (s.δ[v]'hl) := List.getElem?_eq_getElem hl
    have h1 := h d (by simp)
    simp only [dLcGo, wipeD, backD, ap_gNm, List.set_set, h1, gv, List.set_getElem_self]
    exact ih
theorem eq_nil (s : S) : eqS s (.lst []) (.lst []) = some (.bl true) := rfl
theorem ne_nil (s : S) : neS s (.lst []) (.lst []) = some (.bl false) := rfl
def inC : FC := (dLc [10] (dIter (dVar 2)) (gNm 10) (dCmpT neS (dCall F_L_dot (dCons (dVar 5) (dCons (dVar 10) dNil))) (dC (.int (0)))) (dC (.int (1))))
def rr12 : FS := (dRet (dOp eqS (dFrz (dLc [5] (dIter (dVar 9)) (gNm 5) (dCmpT neS (dFrz inC) (dFrz (dLst dNil))) (dC (.int (1))))) (dFrz (dLst dNil))))
theorem ri_no (xs : List Int) : noOwn (Ri xs) = true := rfl
theorem in_ok {n w : Nat} {c3 c4 c6 c7 c8 c9 : DL.Slot} {rows : List (List Int)} {r : List Int} {μ : List Cell} (hw : w ≤ 6) (hR : RowsOk w 60 rows) (hRl : rows.length ≤ 7) (hr : r.length = w) (hb : Bd 326 r) (h0 : ∀ o ∈ rows, dt r o = 0) : dFrz inC (Rt n w (.val (.lst (rows.map Ri))) c3 c4 (.val (Ri r)) c6 c7 c8 c9 .no μ) = .ok (.lst []) (Rt n w (.val (.lst (rows.map Ri))) c3 c4 (.val (Ri r)) c6 c7 c8 c9 .no μ) := by
  refine frzE_ok (lc_ok (iter_ok (var_ok rfl) rfl) (by simp; omega) rfl (lc_none _ _ (by simp) (fun d hd => ?_) (fun d hd => ?_)))
  · obtain ⟨o, ho, rfl⟩ := List.mem_map.mp hd
    have e := L_dot_ok (n := 326) (m := 60) (by decide) (by decide) (by decide) hb (hR o ho).2 (by omega) μ
    rw [dt_eq, h0 o ho] at e
    exact cmp_ok (call_ok (cons_ok (var_ok rfl) (cons_ok (var_ok rfl) nil_ok)) rfl e) c_ok (ne_int _ _ _ rfl)
  · obtain ⟨o, ho, rfl⟩ := List.mem_map.mp hd
    rfl
theorem rr12_ok {n w : Nat} {c3 c4 c5 c6 c7 c8 : DL.Slot} {rows m : List (List Int)} {μ : List Cell} (hw : w ≤ 6) (h5 : c5 = .no ∨ ∃ d, c5 = .val d) (hR : RowsOk w 60 rows) (hRl : rows.length ≤ 7) (hm : RowsOk w 326 m) (hml : m.length ≤ 60) (h0 : ∀ r ∈ m, ∀ o ∈ rows, dt r o = 0) : rr12 (Rt n w (.val (.lst (rows.map Ri))) c3 c4 c5 c6 c7 c8 (.val (.tup (m.map Ri))) .no μ) = .rt (.bl true) (Rt n w (.val (.lst (rows.map Ri))) c3 c4 c5 c6 c7 c8 (.val (.tup (m.map Ri))) .no μ) := by
  have ho : ([5] : List Nat).all (fun v => !isOwn (Rt n w (.val (.lst (rows.map Ri))) c3 c4 c5 c6 c7 c8 (.val (.tup (m.map Ri))) .no μ).δ v) = true := by
    rcases h5 with rfl | ⟨d, rfl⟩ <;> rfl
  have q := frzE_ok (lc_ok (fi := dIter (dVar 9)) (g := gNm 5) (fe := dC (.int 1)) (iter_ok (var_ok rfl) rfl) (by simp; omega) ho (lc_none (ft := dCmpT neS (dFrz inC) (dFrz (dLst dNil))) (m.map Ri) _ (by simp) (fun d hd => ?_) (fun d hd => ?_)))
  · exact ret_eq q (frzE_ok (lst_ok nil_ok rfl (by simp))) (eq_nil _)
  · obtain ⟨o, ho, rfl⟩ := List.mem_map.mp hd
    exact cmp_ok (in_ok hw hR hRl (hm o ho).1 (hm o ho).2 (h0 o ho)) (frzE_ok (lst_ok nil_ok rfl (by simp))) (ne_nil _)
  · obtain ⟨o, ho, rfl⟩ := List.mem_map.mp hd
    rfl
theorem right_split : b_L_right = dSeq rr1 (dSeq rr2 (dSeq rr3 (dSeq rr4 (dSeq rr5 (dSeq rr6 (dSeq rr7 (dSeq rr8 (dSeq rr9 (dSeq rr10 (dSeq rr11 rr12)))))))))) := rfl
theorem seq_split {f g h : FS} {s s1 : S} (e : dSeq f g s = .nx s1) : dSeq f (dSeq g h) s = h s1 := by
  rw [ap_Seq] at e ⊢
  cases ef : f s <;> rw [ef] at e <;> simp only [reduceCtorEq] at e
  rename_i s2
  simp only [ap_Seq, e]
theorem seq_split3 {f g k h : FS} {s s1 : S} (e : dSeq f (dSeq g k) s = .nx s1) : dSeq f (dSeq g (dSeq k h)) s = h s1 := by
  rw [ap_Seq] at e ⊢
  cases ef : f s <;> rw [ef] at e <;> simp only [reduceCtorEq] at e
  exact seq_split e
theorem L_right_ok {n w k : Nat} {μ : List Cell} (hw1 : 1 ≤ w) (hw : w ≤ 6) (h : Dc k n μ) (hk : k ≤ 19000) : ∃ μ', F_L_right [.ref n, .int (w : Nat)] μ = .ok (.bl true) μ' ∧ Dc (k + 700) n μ' := by
  obtain ⟨rows, μ1, hR, hRl, d1, e1⟩ := rr1_ok (c2 := .no) (c3 := .no) (c4 := .no) (c5 := .no) (c6 := .no) (c7 := .no) (c8 := .no) (c9 := .no) (c10 := .no) hw h (by omega)
  obtain ⟨lot, more, μ2, g, sm, hM, hMl, d2, e2⟩ := rr2_ok (c3 := .no) (c4 := .no) (c5 := .no) (c6 := .no) (c7 := .no) (c8 := .no) (c9 := .no) (c10 := .no) hw1 hw d1 (by omega) hR hRl
  obtain ⟨μ3, d3, e3⟩ := rr3_ok (c4 := .val (.lst (more.map Ri))) (c5 := .no) (c6 := .no) (c7 := .no) (c8 := .no) (c9 := .no) (c10 := .no) hw1 hw d2 (by omega) hR hRl g sm
  have e4 := rr4_ok (n := n) (c2 := .val (.lst (rows.map Ri))) (c4 := .val (.lst (more.map Ri))) (c5 := .no) (c6 := .no) (c7 := .no) (c8 := .no) (c9 := .no) (c10 := .no) (μ := μ3) hw1 hw g
  obtain ⟨d5, h5, e5⟩ := rr5_ok (n := n) (c6 := .no) (c7 := .no) (c8 := .no) (c9 := .no) (c10 := .no) (μ := μ3) hw1 hw hR hM hRl hMl g
  obtain ⟨other, go, so, e6⟩ := rr6_ok (n := n) (c2 := .val (.lst (rows.map Ri))) (c3 := .val (.tup (lot.map Ri))) (c5 := d5) (c6 := .no) (c7 := .no) (c8 := .no) (c9 := .no) (c10 := .no) (μ := μ3) hw hM
  obtain ⟨d7, d8, e7⟩ := rr789_ok (n := n) (c5 := d5) (c9 := .no) (c10 := .no) (μ := μ3) hw1 hw hR hM hRl hMl g sm go so
  obtain ⟨m, Rm, e10⟩ := rr10_ok (n := n) (c2 := .val (.lst (rows.map Ri))) (c4 := .val (.lst (more.map Ri))) (c5 := d5) (c6 := .val (.tup (other.map Ri))) (c7 := d7) (c8 := d8) (c10 := .no) (μ := μ3) hw1 hw g
  have hml := apart_len g (s := 3) (by omega) Rm
  have e12 := rr12_ok (n := n) (c3 := .val (.tup (lot.map Ri))) (c4 := .val (.lst (more.map Ri))) (c5 := d5) (c6 := .val (.tup (other.map Ri))) (c7 := d7) (c8 := d8) (μ := μ3) hw h5 hR hRl (apart_rows hw g Rm) (by omega) (fun r hr o ho => by
    have hp : Perp o m := (apart_perp g (s := 3) (by omega) Rm (hR o ho).1).mpr fun x hx hp => (sm x).mp hp o ho
    rw [dt_comm]; exact hp r hr)
  refine ⟨μ3, ?_, d3.mono (by omega)⟩
  have t : b_L_right ⟨[.val (.ref n), .val (.int (w : Nat)), .no, .no, .no, .no, .no, .no, .no, .no, .no], μ⟩ = .rt (.bl true) (Rt n w (.val (.lst (rows.map Ri))) (.val (.tup (lot.map Ri))) (.val (.lst (more.map Ri))) d5 (.val (.tup (other.map Ri))) d7 d8 (.val (.tup (m.map Ri))) .no μ3) := by
    rw [right_split]
    exact (seq_nx e1).trans ((seq_nx e2).trans ((seq_nx e3).trans ((seq_nx e4).trans ((seq_nx e5).trans ((seq_nx e6).trans ((seq_split3 e7).trans ((seq_split e10).trans e12)))))))
  exact runF_rt (n := 11) (ds := [.ref n, .int (w : Nat)]) t
end K11

namespace K11
open PySem PySem.Spec PyProof.Rows L2 DL
/-! ### the rows of width 60 -/
def dblR (w i k : Nat) (a b : Int) : List Int := zw (fun x y => a * x - b * y) (unitR w i) (unitR w k)
theorem unit_len (w i : Nat) : (unitR w i).length = w := by simp [unitR]
theorem dbl_len (w i k : Nat) (a b : Int) : (dblR w i k a b).length = w := by
  unfold dblR
  rw [zw_len (by rw [unit_len, unit_len]), unit_len]
theorem dbl_dt {w i k : Nat} {a b : Int} (hi : i < w) (hk : k < w) (x : List Int) : dt x (dblR w i k a b) = a * at0 x i - b * at0 x k := by
  have := dt_lin a b (x := x) (z := dblR w i k a b) (r := unitR w i) (o := unitR w k) (by rw [dbl_len, unit_len]) (by rw [unit_len, unit_len]) (fun j => by
    unfold dblR
    rw [zw_at (by simp) (by rw [unit_len, unit_len])])
  rw [this, dt_comm x, unit_dt hi, dt_comm x, unit_dt hk]
def rows60 : List (List Int) := (List.range 20).map fun i => dblR 60 i (i + 1) 2 3
def lot60 : List (List Int) := (List.range 20).map fun i => dblR 60 i 20 (2 ^ (20 - i)) (3 ^ (20 - i))
theorem chain_fw {f : Nat → Int} (h : ∀ i ≤ 20, 2 ^ (20 - i) * f i = 3 ^ (20 - i) * f 20) : ∀ i < 20, 2 * f i - 3 * f (i + 1) = 0 := fun i hi => by
  have h1 := h i (by omega)
  have h2 := h (i + 1) (by omega)
  have e : 20 - i = (20 - (i + 1)) + 1 := by omega
  rw [e, Int.pow_succ, Int.pow_succ] at h1
  have p : (2 : Int) ^ (20 - (i + 1)) ≠ 0 := Int.pow_ne_zero (by decide)
  refine (Int.mul_eq_zero.mp (?_ : (2 : Int) ^ (20 - (i + 1)) * (2 * f i - 3 * f (i + 1)) = 0)).resolve_left p
  generalize (2 : Int) ^ (20 - (i + 1)) = P at *
  generalize (3 : Int) ^ (20 - (i + 1)) = Q at *
  have a1 : P * (2 * f i - 3 * f (i + 1)) = P * 2 * f i - 3 * (P * f (i + 1)) := by rw [Int.mul_sub, ← Int.mul_assoc, ← Int.mul_assoc, ← Int.mul_assoc, Int.mul_comm P 3]
  rw [a1, h1, h2, Int.mul_comm Q 3, Int.mul_assoc]
  omega
theorem chain_bw {f : Nat → Int} (h : ∀ i < 20, 2 * f i - 3 * f (i + 1) = 0) : ∀ k ≤ 20, 2 ^ k * f (20 - k) = 3 ^ k * f 20
  | 0, _ => by simp
  | k + 1, hk => by
    have ih := chain_bw h k (by omega)
    have h1 := h (20 - (k + 1)) (by omega)
    have e : 20 - (k + 1) + 1 = 20 - k := by omega
    rw [e] at h1
    have h2 : 2 * f (20 - (k + 1)) = 3 * f (20 - k) := by omega
    rw [Int.pow_succ, Int.pow_succ, Int.mul_assoc, h2]
    generalize (2 : Int) ^ k = P at *
    generalize (3 : Int) ^ k = Q at *
    rw [← Int.mul_assoc, Int.mul_comm P 3, Int.mul_assoc, ih, ← Int.mul_assoc, Int.mul_comm 3 Q]
theorem same60 : Same lot60 rows60 := fun x => by
  have hr : Perp x rows60 ↔ ∀ i < 20, 2 * at0 x i - 3 * at0 x (i + 1) = 0 := by
    unfold Perp rows60
    simp only [List.forall_mem_map, List.mem_range]
    exact ⟨fun h i hi => by rw [← dbl_dt (w := 60) (by omega) (by omega)]; exact h i hi, fun h i hi => by rw [dbl_dt (w := 60) (by omega) (by omega)]; exact h i hi⟩
  have hl : Perp x lot60 ↔ ∀ i < 20, 2 ^ (20 - i) * at0 x i - 3 ^ (20 - i) * at0 x 20 = 0 := by
    unfold Perp lot60
    simp only [List.forall_mem_map, List.mem_range]
    exact ⟨fun h i hi => by rw [← dbl_dt (w := 60) (by omega) (by omega)]; exact h i hi, fun h i hi => by rw [dbl_dt (w := 60) (by omega) (by omega)]; exact h i hi⟩
  rw [hr, hl]
  constructor
  · intro h
    refine chain_fw (f := at0 x) fun i hi => ?_
    rcases Nat.lt_or_ge i 20 with z | z
    · have := h i z; omega
    · obtain rfl : i = 20 := by omega
      simp
  · intro h i hi
    have := chain_bw (f := at0 x) h (20 - i) (by omega)
    rw [show 20 - (20 - i) = i by omega] at this
    omega
theorem leads60 : ∀ i < 20, lead (dblR 60 i 20 (2 ^ (20 - i)) (3 ^ (20 - i))) = some i := by decide +kernel
theorem at60 : ∀ i < 20, ∀ k < 20, i ≠ k → at0 (dblR 60 k 20 (2 ^ (20 - k)) (3 ^ (20 - k))) i = 0 := by decide +kernel
theorem bd60 : ∀ i < 20, ∀ x ∈ dblR 60 i 20 (2 ^ (20 - i)) (3 ^ (20 - i)), x.natAbs < 2 ^ 40 := by decide +kernel
theorem gcd60 : ∀ i < 20, gcdL (dblR 60 i 20 (2 ^ (20 - i)) (3 ^ (20 - i))) = 1 := by decide +kernel
theorem pos60 : ∀ i < 20, 0 < at0 (dblR 60 i 20 (2 ^ (20 - i)) (3 ^ (20 - i))) i := by decide +kernel
theorem off60 : ∀ i < 20, ∀ j < 60, 21 ≤ j → at0 (dblR 60 i 20 (2 ^ (20 - i)) (3 ^ (20 - i))) j = 0 := by decide +kernel
theorem mem60 {o : List Int} (h : o ∈ lot60) : ∃ i < 20, o = dblR 60 i 20 (2 ^ (20 - i)) (3 ^ (20 - i)) := by
  obtain ⟨i, hi, rfl⟩ := List.mem_map.mp h
  exact ⟨i, List.mem_range.mp hi, rfl⟩
theorem lt60 : Lt 60 40 lot60 := by
  refine ⟨fun o ho => ?_, fun o ho => ?_, fun o ho => ?_, ?_⟩
  · obtain ⟨i, hi, rfl⟩ := mem60 ho; exact dbl_len ..
  · obtain ⟨i, hi, rfl⟩ := mem60 ho; exact bd60 i hi
  · obtain ⟨i, hi, rfl⟩ := mem60 ho; rw [leads60 i hi]; exact fun z => nomatch z
  · unfold lot60
    rw [List.pairwise_map]
    refine (List.pairwise_lt_range (n := 20)).imp_of_mem fun {i k} hi hk h => ?_
    have hi := List.mem_range.mp hi
    have hk := List.mem_range.mp hk
    exact ⟨fun j hj => by rw [leads60 i hi] at hj; cases hj; exact at60 i hi k hk (by omega), fun j hj => by rw [leads60 k hk] at hj; cases hj; exact at60 k hk i hi (by omega)⟩
theorem leadsL60 : leads lot60 = List.range 20 := by decide +kernel
theorem red60 : Red 60 lot60 := ⟨⟨_, lt60⟩, fun o ho => by obtain ⟨i, hi, rfl⟩ := mem60 ho; exact gcd60 i hi, fun o ho j hj => by
  obtain ⟨i, hi, rfl⟩ := mem60 ho
  rw [leads60 i hi] at hj; cases hj; exact pos60 _ hi, by rw [leadsL60]; exact List.pairwise_lt_range⟩
theorem rows60_ok : RowsOk 60 2 rows60 := fun o ho => by
  obtain ⟨i, hi, rfl⟩ := List.mem_map.mp ho
  have h : ∀ i < 20, ∀ x ∈ dblR 60 i (i + 1) 2 3, x.natAbs < 2 ^ 2 := by decide +kernel
  exact ⟨dbl_len .., h i (List.mem_range.mp hi)⟩
theorem good60 : Good 60 2 lot60 := ⟨red60, rows60, by simp [rows60, lot60], rows60_ok, same60⟩
end K11

namespace K11
open PySem PySem.Spec PyProof.Rows L2 DL
/-! ### the rows apart, at width 60 -/
theorem with_row4 {w n n' r : Nat} {lot : List (List Int)} {row : List Int} (hw : w ≤ 60) (hn : 0 < n) (hn' : 0 < n') (L : Lt w n lot) (hr : row.length = w) (hr0 : 0 < r) (hbr : Bd r row) {j : Nat} (er : lead (rest lot row) = some j) (hg : gcdL (rest lot row) < 2 ^ 8900) (LM : Lt w n' (newM lot row)) (hc : n + n' + 1 ≤ 8900) (hz2 : r + (lot.length + 1) * (n + 1) ≤ 40000) (μ : List Cell) :
    ∃ m : List (List Int), F_with_row [.tup (lot.map Ri), Ri row] μ = .ok (.tup (m.map Ri)) μ ∧ m.Perm (newM lot row) := by
  have hk := L.le
  have e1 := rest_by_ok (w := w) (n := n) (r := r) (by omega) hn (lot := lot) (row := row) (fun o ho => ⟨L.len o ho, L.bd o ho, L.ld o ho⟩) hr hbr hr0 hz2 μ
  have rl := rest_len (lot := lot) (row := row) L.len hr
  have e2 := lowest_row_okg hg (by omega) μ
  have lb : Bd n' (low (rest lot row)) := LM.bd _ (by simp [newM])
  have ej : lead (low (rest lot row)) = some j := by rw [lead_low, er]
  have ll : (low (rest lot row)).length = w := by rw [low_len]; exact rl
  have e3 := with_comp2 μ (.val (.tup (lot.map Ri))) (.val (Ri row)) .no (w := w) (n := n) (r := n') (by omega) hn hn' hc ll lb ej lot fun o ho => ⟨L.len o ho, L.bd o ho⟩
  have k1 := keys_eq μ (newM lot row) LM.ld
  obtain ⟨m, m1, m2, m3⟩ := sort_key (newM lot row)
  refine ⟨m, ?_, m2⟩
  have ea : ∀ s : S, gAdd s (.lst ((lot.map fun o => low (less o (low (rest lot row)))).map Ri)) (.lst [Ri (low (rest lot row))]) = some (.lst ((newM lot row).map Ri)) := fun s => by
    rw [add_ll _ _ _ (by simp; omega)]; simp [newM]
  have hk2 : lot.length ≤ 16777216 := by omega
  have hml : (newM lot row).length ≤ 16777216 := by simp [newM]; omega
  have sk := sortKey_ap (F := F_lead_in) (fa := dVar 3) (s := ⟨[.val (.tup (lot.map Ri)), .val (Ri row), .val (Ri (low (rest lot row))), .val (.lst ((newM lot row).map Ri)), .no], μ⟩) rfl (by simpa using hml) k1
  rw [m1] at sk
  generalize newM lot row = M at *
  simp [F_with_row, b_with_row, runF, e1, e2, lead_in_ok, ej, optD, isN, e3, ea, -List.map_map, hk2, sk, gTuple]
theorem rest_same : ∀ {lot : List (List Int)} {row : List Int}, (∀ o ∈ lot, ∀ i, lead o = some i → at0 row i = 0) → rest lot row = row
  | [], row, _ => rfl
  | o :: lot, row, h => by
    have e : less row o = row := by
      unfold less
      cases hi : lead o with
      | none => rfl
      | some i => simp only [h o (by simp) i hi, if_true]
    show rest lot (less row o) = row
    rw [e]
    exact rest_same fun p hp => h p (by simp [hp])
theorem less_same {o l : List Int} {j : Nat} (hl : lead l = some j) (h : at0 o j = 0) : less o l = o := by
  unfold less
  rw [hl]
  simp only [h, if_true]
structure Iv (c : Nat) (m : List (List Int)) : Prop where
  lt : Lt 60 201 m
  prim : ∀ o ∈ m, gcdL o = 1
  pos : ∀ o ∈ m, ∀ i, lead o = some i → 0 < at0 o i
  off : ∀ o ∈ m, ∀ j, 21 ≤ j → c ≤ j → at0 o j = 0
  len : m.length + 20 = c
theorem Iv.perm {c : Nat} {m m' : List (List Int)} (v : Iv c m) (p : m'.Perm m) : Iv c m' :=
  ⟨v.lt.perm p, fun o ho => v.prim o (p.mem_iff.mp ho), fun o ho => v.pos o (p.mem_iff.mp ho), fun o ho => v.off o (p.mem_iff.mp ho), by rw [p.length_eq]; exact v.len⟩
def ln (j : Nat) : List Int := lineOf 60 lot60 j
theorem notlead {j : Nat} (h : 20 ≤ j) : (leads lot60).contains j = false := by
  rw [leadsL60]
  cases e : (List.range 20).contains j with
  | false => rfl
  | true =>
    have := List.mem_range.mp (List.contains_iff_mem.mp e)
    omega
theorem ln_small {j : Nat} (h : 20 ≤ j) (hj : j < 60) : Bd 201 (low (ln j)) ∧ lead (ln j) ≠ none := line_small good60 (s := 6) (by decide) hj (notlead h)
theorem ln_gcd {j : Nat} (h : 20 ≤ j) (hj : j < 60) : gcdL (ln j) < 2 ^ 8900 := by
  have hs := shF_bd lot60 1 1 lt60.bd (by decide)
  have hsh := shF_ne lot60 1 lt60.ld (by decide)
  have hself : at0 (ln j) j = shF 1 lot60 := line_self lt60 hj (notlead h)
  have hd : (gcdL (ln j) : Int) ∣ at0 (ln j) j := at0_dvd (gcdF_dvd _ 0).2 j
  rw [hself] at hd
  have := Nat.le_of_dvd (by omega) (Int.ofNat_dvd_left.mp hd)
  exact Nat.lt_of_le_of_lt this (Nat.lt_of_lt_of_le hs (Nat.pow_le_pow_right (by decide) (by simp [lot60])))
theorem ln_out {j i : Nat} (h : 20 ≤ j) (hj : j < 60) (hi : 20 ≤ i) (ne : i ≠ j) : at0 (ln j) i = 0 := line_out lt60 hj ne (fun z => by
  rw [leadsL60] at z
  have := List.mem_range.mp z
  omega)
theorem ln_in {j i : Nat} (h : 21 ≤ j) (hj : j < 60) (ne : i ≠ j) : at0 (ln j) i = 0 := by
  rcases Nat.lt_or_ge i 20 with z | z
  · have ho : dblR 60 i 20 (2 ^ (20 - i)) (3 ^ (20 - i)) ∈ lot60 := List.mem_map.mpr ⟨i, List.mem_range.mpr z, rfl⟩
    have e := two_places lt60 (x := ln j) (j := j) (notlead (by omega)) (fun k hk hk2 => line_out lt60 hj hk hk2) (line_perp lt60 hj (notlead (by omega))) ho (leads60 i z)
    rw [off60 i z j hj h, Int.mul_zero, Int.add_zero] at e
    exact (Int.mul_eq_zero.mp e).resolve_right (by have := pos60 i z; omega)
  · exact ln_out (by omega) hj z ne
theorem low_at0 {xs : List Int} {j : Nat} (h : at0 xs j = 0) : at0 (low xs) j = 0 := by
  obtain ⟨c, hc, e⟩ := low_lin xs
  have := e j
  rw [h] at this
  exact (Int.mul_eq_zero.mp this.symm).resolve_left hc
theorem ln_len (j : Nat) : (ln j).length = 60 := line_len ..
theorem ln_bd (j : Nat) : Bd 900 (ln j) := (line_bd lt60 j).mono (by simp [lot60])
theorem iv_new {c : Nat} {m : List (List Int)} {l : List Int} (v : Iv c m) (ll : l.length = 60) (s1 : Bd 201 (low l)) (s2 : lead l ≠ none) (hrest : rest m l = l) (hin : m ≠ [] → ∀ i, i ≠ c → at0 l i = 0) (hout : ∀ k, 21 ≤ k → c + 1 ≤ k → at0 l k = 0) : newM m l = m ++ [low l] ∧ Iv (c + 1) (m ++ [low l]) := by
  cases hi : lead l with
  | none => exact absurd hi s2
  | some i =>
    have hli : lead (low l) = some i := by rw [lead_low, hi]
    have hne : ∀ o ∈ m, m ≠ [] := fun o ho z => by rw [z] at ho; simp at ho
    have hic : m ≠ [] → i = c := fun h => Classical.byContradiction fun z => (lead_iff.mp hi).1 (hin h i z)
    have hc21 : m ≠ [] → 21 ≤ c := fun h => by
      have := v.len
      have := List.length_pos_iff.mpr h
      omega
    have hof : ∀ o ∈ m, at0 o i = 0 := fun o ho => by
      rw [hic (hne o ho)]
      exact v.off o ho c (hc21 (hne o ho)) (Nat.le_refl _)
    have hz : ∀ o ∈ m, ∀ k, lead o = some k → at0 (low l) k = 0 := fun o ho k hk => by
      refine low_at0 (hin (hne o ho) k fun z => ?_)
      subst z
      have := hof o ho
      rw [hic (hne o ho)] at this
      exact (lead_iff.mp hk).1 this
    have em : m.map (fun o => low (less o (low l))) = m := by
      conv => rhs; rw [← List.map_id m]
      refine List.map_congr_left fun o ho => ?_
      rw [less_same hli (hof o ho)]
      cases ho2 : lead o with
      | none => exact absurd ho2 (v.lt.ld o ho)
      | some k => exact low_self (v.prim o ho) ho2 (v.pos o ho k ho2)
    have en : newM m l = m ++ [low l] := by
      unfold newM
      rw [hrest, em]
    refine ⟨en, ⟨fun o ho => ?_, fun o ho => ?_, fun o ho => ?_, ?_⟩, fun o ho => ?_, fun o ho => ?_, fun o ho => ?_, ?_⟩
    · rcases List.mem_append.mp ho with ho | ho
      · exact v.lt.len o ho
      · rw [List.mem_singleton.mp ho, low_len]; exact ll
    · rcases List.mem_append.mp ho with ho | ho
      · exact v.lt.bd o ho
      · rw [List.mem_singleton.mp ho]; exact s1
    · rcases List.mem_append.mp ho with ho | ho
      · exact v.lt.ld o ho
      · rw [List.mem_singleton.mp ho, hli]; exact fun z => nomatch z
    · rw [List.pairwise_append]
      refine ⟨v.lt.ap, List.pairwise_singleton _ _, fun o ho q hq => ?_⟩
      rw [List.mem_singleton.mp hq]
      exact ⟨fun k hk => hz o ho k hk, fun k hk => by rw [hli] at hk; cases hk; exact hof o ho⟩
    · rcases List.mem_append.mp ho with ho | ho
      · exact v.prim o ho
      · rw [List.mem_singleton.mp ho]; exact low_prim s2
    · rcases List.mem_append.mp ho with ho | ho
      · exact v.pos o ho
      · rw [List.mem_singleton.mp ho]
        intro k hk
        rw [hli] at hk; cases hk
        exact low_pos hi
    · intro k hk hk2
      rcases List.mem_append.mp ho with ho | ho
      · exact v.off o ho k hk (by omega)
      · rw [List.mem_singleton.mp ho]; exact low_at0 (hout k hk hk2)
    · rw [List.length_append, List.length_singleton]; have := v.len; omega
theorem row_gen {c : Nat} {m : List (List Int)} {l : List Int} (v : Iv c m) (v2 : Iv (c + 1) (m ++ [low l])) (en : newM m l = m ++ [low l]) (hc : c < 60) (ll : l.length = 60) (hb : Bd 900 l) (s2 : lead l ≠ none) (hg : gcdL l < 2 ^ 8900) (hrest : rest m l = l) (μ : List Cell) : ∃ m' : List (List Int), F_with_row [.tup (m.map Ri), Ri l] μ = .ok (.tup (m'.map Ri)) μ ∧ Iv (c + 1) m' := by
  have hv := v.len
  cases hi : lead l with
  | none => exact absurd hi s2
  | some i =>
    obtain ⟨m', e, p⟩ := with_row4 (w := 60) (n := 201) (n' := 201) (r := 900) (lot := m) (row := l) (by decide) (by decide) (by decide) v.lt ll (by decide) hb (by rw [hrest]; exact hi) (by rw [hrest]; exact hg) (by rw [en]; exact v2.lt) (by decide) (by
      have : (m.length + 1) * (201 + 1) ≤ 61 * 202 := Nat.mul_le_mul (by omega) (Nat.le_refl _)
      omega) μ
    rw [en] at p
    exact ⟨m', e, v2.perm p⟩
theorem iv_step {c : Nat} {m : List (List Int)} (v : Iv c m) (hc : c < 60) (μ : List Cell) : ∃ m' : List (List Int), F_with_row [.tup (m.map Ri), Ri (ln c)] μ = .ok (.tup (m'.map Ri)) μ ∧ Iv (c + 1) m' := by
  have h20 : 20 ≤ c := by have := v.len; omega
  have hg := ln_gcd h20 hc
  have hb := ln_bd c
  have hll := ln_len c
  have ho : ∀ i, 20 ≤ i → i ≠ c → at0 (ln c) i = 0 := fun i hi ne => ln_out h20 hc hi ne
  have hi2 : 21 ≤ c → ∀ i, i ≠ c → at0 (ln c) i = 0 := fun h i ne => ln_in h hc ne
  obtain ⟨s1, s2⟩ := ln_small h20 hc
  generalize ln c = l at *
  have hv := v.len
  have hz : ∀ o ∈ m, ∀ k, lead o = some k → at0 l k = 0 := fun o ho k hk => by
    have := List.length_pos_of_mem ho
    have h0 := v.off o ho c (by omega) (Nat.le_refl _)
    refine hi2 (by omega) k fun z => ?_
    subst z
    exact (lead_iff.mp hk).1 h0
  have hrest := rest_same hz
  obtain ⟨en, v2⟩ := iv_new v hll s1 s2 hrest (fun hne => hi2 (by have := List.length_pos_iff.mpr hne; omega)) (fun k hk hk2 => ho k (by omega) (by omega))
  exact row_gen v v2 en hc hll hb s2 hg hrest μ
theorem iv_loop {d : D} {μ : List Cell} : ∀ (k c : Nat) (m : List (List Int)) (c2 : DL.Slot), Iv c m → c + k = 60 → ∃ (m' : List (List Int)) (d2 : DL.Slot), Iv 60 m' ∧ dFor (gNm 2) (dAsg 1 (dCall F_with_row (dCons (dVar 1) (dCons (dVar 2) dNil)))) (((List.range' c k).map ln).map Ri) ⟨[.val d, .val (.tup (m.map Ri)), c2], μ⟩ = .nx ⟨[.val d, .val (.tup (m'.map Ri)), d2], μ⟩
  | 0, c, m, c2, v, h => ⟨m, c2, by rw [show (60 : Nat) = c by omega]; exact v, for_nil⟩
  | k + 1, c, m, c2, v, h => by
    obtain ⟨m1, e1, v1⟩ := iv_step v (by omega) μ
    obtain ⟨m', d2, v2, e2⟩ := iv_loop k (c + 1) m1 (.val (Ri (ln c))) v1 (by omega)
    refine ⟨m', d2, v2, ?_⟩
    rw [List.range'_succ, List.map_cons, List.map_cons]
    exact for_nx rfl (asg_ok (i := 1) (call_ok (cons_ok (var_ok rfl) (cons_ok (var_ok rfl) nil_ok)) rfl e1) rfl) e2
theorem aparts60 : aparts 60 lot60 = (List.range' 20 40).map ln := by
  have : ((List.range 60).filter fun j => !(leads lot60).contains j) = List.range' 20 40 := by
    rw [leadsL60]
    decide +kernel
  unfold aparts
  rw [this]
  rfl
theorem lot_in_gen {xs m : List (List Int)} {d2 : DL.Slot} {μ : List Cell} (e : dFor (gNm 2) (dAsg 1 (dCall F_with_row (dCons (dVar 1) (dCons (dVar 2) dNil)))) (xs.map Ri) ⟨[.val (.lst (xs.map Ri)), .val (.tup []), .no], μ⟩ = .nx ⟨[.val (.lst (xs.map Ri)), .val (.tup (m.map Ri)), d2], μ⟩) : F_lot_in [.lst (xs.map Ri)] μ = .ok (.tup (m.map Ri)) μ := by
  have t : b_lot_in ⟨[.val (.lst (xs.map Ri)), .no, .no], μ⟩ = .rt (.tup (m.map Ri)) ⟨[.val (.lst (xs.map Ri)), .val (.tup (m.map Ri)), d2], μ⟩ := by
    unfold b_lot_in
    refine (seq_nx (asg_ok (i := 1) (tup_ok nil_ok rfl (by simp)) rfl)).trans ((seq_nx (for_it (iter_ok (var_ok rfl) rfl) e)).trans ?_)
    rw [ap_Ret, var_ok (d := .tup (m.map Ri)) rfl]
    rfl
  exact runF_rt (n := 3) (ds := [.lst (xs.map Ri)]) t
theorem lot_in60 (μ : List Cell) : ∃ m : List (List Int), F_lot_in [.lst ((aparts 60 lot60).map Ri)] μ = .ok (.tup (m.map Ri)) μ ∧ m.length = 40 := by
  rw [aparts60]
  obtain ⟨m, d2, v, e⟩ := iv_loop (d := .lst (((List.range' 20 40).map ln).map Ri)) (μ := μ) 40 20 [] .no ⟨⟨by simp, by simp, by simp, .nil⟩, by simp, by simp, by simp, rfl⟩ rfl
  have hm := v.len
  generalize (List.range' 20 40).map ln = xs at *
  exact ⟨m, lot_in_gen e, by omega⟩
theorem apart_gen {w n : Nat} {lot m' : List (List Int)} {μ : List Cell} (hw : w ≤ 60) (L : Lt w n lot) (hn : 0 < n) (hn2 : n ≤ 8900) (hz : n + (1 + lot.length * n) ≤ 40000) (e1 : F_lot_in [.lst ((aparts w lot).map Ri)] μ = .ok (.tup (m'.map Ri)) μ) : F_apart_in [.int (w : Nat), .tup (lot.map Ri)] μ = .ok (.tup (m'.map Ri)) μ := by
  have hle := L.le
  obtain ⟨c2, c6, e2⟩ := ap_share (.val (.int (w : Nat))) (.val (.tup (lot.map Ri))) (.val (.lst ((ldI lot).map .int))) (.own (.lst [])) .no .no μ hn lot 1 1 .no .no (fun o ho => ⟨L.bd o ho, L.ld o ho⟩) (by decide) (by decide) (by rw [Nat.add_mul]; omega)
  obtain ⟨c2', c6', c7', c8', e3⟩ := ap_out (μ := μ) hw L hn hn2 (by omega) w 0 [] c2 c6 .no .no (by omega) (by simp)
  rw [aparts_from, List.nil_append] at e3
  have t : b_apart_in ⟨[.val (.int (w : Nat)), .val (.tup (lot.map Ri)), .no, .no, .no, .no, .no, .no, .no], μ⟩ = .rt (.tup (m'.map Ri)) ⟨[.val (.int (w : Nat)), .val (.tup (lot.map Ri)), c2', .val (.lst ((ldI lot).map .int)), .val (.int (shF 1 lot)), .val (.lst ((aparts w lot).map Ri)), c6', c7', c8'], μ⟩ := by
    unfold b_apart_in
    rw [seq_nx (ap_par (by omega) L.ld)]
    rw [seq_nx (by
      rw [forZp (d := .lst ((ldI lot).map .int)) (e := .tup (lot.map Ri)) (xs := (ldI lot).map .int) (ys := lot.map Ri) (by simp) rfl rfl]
      exact e2)]
    rw [seq_nx (frz5 (by
      rw [forRng (w := w) (by simp) hw]
      exact e3))]
    exact ret_call (ds := [.lst ((aparts w lot).map Ri)]) (by simp) rfl e1 rfl
  exact runF_rt (n := 9) (ds := [.int (w : Nat), .tup (lot.map Ri)]) t
theorem rows_apart_gen {w n : Nat} {lot m : List (List Int)} {μ : List Cell} (h1 : 1 ≤ w) (hw : w ≤ 60) (L : Lt w n lot) (R : Red w lot) (hn2 : n ≤ 8900) (e : F_apart_in [.int (w : Nat), .tup (lot.map Ri)] μ = .ok (.tup (m.map Ri)) μ) : F_rows_apart [.int (w : Nat), .tup (lot.map Ri)] μ = .ok (.tup (m.map Ri)) μ := by
  simp [F_rows_apart, b_rows_apart, runF, require_width_ok h1 hw, require_lot_ok hw hn2 L R, e, -List.map_map]
theorem rows_apart60 (μ : List Cell) : ∃ m : List (List Int), F_rows_apart [.int (60 : Nat), .tup (lot60.map Ri)] μ = .ok (.tup (m.map Ri)) μ ∧ m.length = 40 := by
  obtain ⟨m, e, hm⟩ := lot_in60 μ
  have hl60 : lot60.length = 20 := by simp [lot60]
  exact ⟨m, rows_apart_gen (by decide) (by decide) lt60 red60 (by decide) (apart_gen (by decide) lt60 (by decide) (by decide) (by rw [hl60]; decide) e), hm⟩
end K11

namespace K11
open PySem PySem.Spec PyProof.Rows L2 DL
/-! ### the body of the law: units, rows, what is told -/
theorem one_comp (a0 : DL.Slot) (μ : List Cell) (i : Int) : ∀ js : List Int, dLcGo [2] (gNm 2) dYes (dB gInt (dCons (dOp eqS (dVar 2) (dVar 1)) dNil)) (js.map .int) ⟨[a0, .val (.int i), .no], μ⟩ = .ok ((js.map fun j => if j = i then (1 : Int) else 0).map .int) ⟨[a0, .val (.int i), .no], μ⟩
  | [] => rfl
  | j :: js => by
    have ih := one_comp a0 μ i js
    by_cases h : j = i
    · subst h
      simp [dLcGo, wipeD, backD, gInt, ih, -List.map_map]
    · have hb : (j == i) = false := by simpa using h
      simp [dLcGo, wipeD, backD, gInt, ih, h, hb, -List.map_map]
theorem rng_ints (n : Nat) : rngD 0 n = ((List.range n).map fun (i : Nat) => (i : Int)).map .int := by
  unfold rngD
  rw [List.map_map]
  apply List.map_congr_left
  intro i _
  simp
theorem unit_eq (i : Nat) (hi : i < 60) : ((List.range 60).map fun (j : Nat) => (j : Int)).map (fun j => if j = (i : Int) then (1 : Int) else 0) = unitR 60 i := by
  refine ext_at0 (by simp [unitR]) fun j hj => ?_
  have hj : j < 60 := by simpa using hj
  rw [unit_at hi, List.map_map]
  unfold at0
  rw [List.getD_eq_getElem?_getD, List.getElem?_map, List.getElem?_range hj]
  simp only [Option.map_some, Option.getD_some, Function.comp]
  by_cases h : j = i
  · simp [h]
  · have h2 : ¬ ((j : Int) = i) := by omega
    simp [h, h2]
theorem two_comp (μ : List Cell) (a1 : DL.Slot) (ha : ∀ c, a1 ≠ .own c) : ∀ is : List Nat, (∀ i ∈ is, i < 60) → dLcGo [1] (gNm 1) dYes (dB gTuple (dCons (dFrz (dLc [2] (dRng1 (dCons (dVar 0) dNil)) (gNm 2) dYes (dB gInt (dCons (dOp eqS (dVar 2) (dVar 1)) dNil)))) dNil)) (is.map fun (i : Nat) => D.int i) ⟨[.val (.int (60 : Nat)), a1, .no], μ⟩ = .ok ((is.map (unitR 60)).map Ri) ⟨[.val (.int (60 : Nat)), a1, .no], μ⟩
  | [], _ => rfl
  | i :: is, h => by
    have ih := two_comp μ a1 ha is fun j hj => h j (by simp [hj])
    have e1 := one_comp (.val (.int (60 : Nat))) μ i ((List.range 60).map fun (j : Nat) => (j : Int))
    rw [unit_eq i (h i (by simp)), ← rng_ints] at e1
    have er : dRng1 (dCons (dVar 0) dNil) ⟨[.val (.int (60 : Nat)), .val (.int (i : Nat)), .no], μ⟩ = .ok (rngD 0 60) ⟨[.val (.int (60 : Nat)), .val (.int (i : Nat)), .no], μ⟩ := by
      have := rng_gen (fa := dCons (dVar 0) dNil) (s := ⟨[.val (.int (60 : Nat)), .val (.int (i : Nat)), .no], μ⟩) (cons_ok (var_ok rfl) nil_ok) (small_w (w := 60) (by decide))
      rw [Int.toNat_natCast] at this
      exact this
    have e2 := tup_lc (lc_ok (vs := [2]) (g := gNm 2) (ft := dYes) er (by rw [rng_len]; decide) rfl e1) (tup_ints _ _)
    generalize dB gTuple (dCons (dFrz (dLc [2] (dRng1 (dCons (dVar 0) dNil)) (gNm 2) dYes (dB gInt (dCons (dOp eqS (dVar 2) (dVar 1)) dNil)))) dNil) = fe at e2 ih ⊢
    simp only [List.map_cons, dLcGo, wipeD, backD, ap_gNm, ap_Yes, List.set_cons_succ, List.set_cons_zero, e2, ri_no, if_true, List.getElem?_cons_succ, List.getElem?_cons_zero, ih, bind_ok]
theorem units_ok (μ : List Cell) : F_L_units [.int (60 : Nat)] μ = .okc (.lst ((unitsR 60).map Ri)) μ := by
  have er : dRng1 (dCons (dVar 0) dNil) ⟨[.val (.int (60 : Nat)), .no, .no], μ⟩ = .ok (rngD 0 60) ⟨[.val (.int (60 : Nat)), .no, .no], μ⟩ := by
    have := rng_gen (fa := dCons (dVar 0) dNil) (s := ⟨[.val (.int (60 : Nat)), .no, .no], μ⟩) (cons_ok (var_ok rfl) nil_ok) (small_w (w := 60) (by decide))
    rw [Int.toNat_natCast] at this
    exact this
  have e1 := two_comp μ .no (fun _ z => nomatch z) (List.range 60) (fun i hi => List.mem_range.mp hi)
  have e2 : (List.range 60).map (fun (i : Nat) => D.int i) = rngD 0 60 := by
    rw [rng_ints, List.map_map]; rfl
  rw [e2] at e1
  have t : b_L_units ⟨[.val (.int (60 : Nat)), .no, .no], μ⟩ = .rtc (.lst ((unitsR 60).map Ri)) ⟨[.val (.int (60 : Nat)), .no, .no], μ⟩ := by
    unfold b_L_units
    exact retF_ok (lc_ok (vs := [1]) er (by rw [rng_len]; decide) rfl e1)
  exact runF_rtc (n := 3) (ds := [.int (60 : Nat)]) t
/-! the rows of width 60 -/
theorem dbl_comp (a0 a1 a2 a3 a4 a5 a6 a7 a8 : DL.Slot) (μ : List Cell) : ∀ xs ys : List Int, Bd 1 xs → Bd 1 ys →
    dLcGo [9, 10] (gT (gC (gNm 9) (gC (gNm 10) gN))) dYes (dOp gSub (dOp gMul (dC (.int (2))) (dVar 9)) (dOp gMul (dC (.int (3))) (dVar 10))) (zpD (xs.map .int) (ys.map .int)) ⟨[a0, a1, a2, a3, a4, a5, a6, a7, a8, .no, .no], μ⟩ = .ok ((zw (fun x y => 2 * x - 3 * y) xs ys).map .int) ⟨[a0, a1, a2, a3, a4, a5, a6, a7, a8, .no, .no], μ⟩
  | [], ys, _, _ => by simp [zpD, dLcGo, zw]
  | x :: xs, [], _, _ => by simp [zpD, dLcGo, zw]
  | x :: xs, y :: ys, h1, h2 => by
    have ih := dbl_comp a0 a1 a2 a3 a4 a5 a6 a7 a8 μ xs ys (fun z hz => h1 z (by simp [hz])) (fun z hz => h2 z (by simp [hz]))
    have m1 : mulOk 2 x = true := mulOk_of (n := 2) (by decide) (h1 x (by simp)) (by decide) (by decide) (by decide)
    have m2 : mulOk 3 y = true := mulOk_of (n := 2) (by decide) (h2 y (by simp)) (by decide) (by decide) (by decide)
    unfold zw at ih ⊢
    simp [zpD, dLcGo, wipeD, backD, mul_ii m1, mul_ii m2, ih]
theorem unit_bd {w i : Nat} (hi : i < w) : Bd 1 (unitR w i) := fun z hz => by
  obtain ⟨j, hj, rfl⟩ := List.getElem_of_mem hz
  rw [← at0_lt hj, unit_at hi]
  split <;> decide
theorem ix_lst (s : S) {xs : List D} {k : Nat} {d : D} (h : xs[k]? = some d) : gIx s (.lst xs) (.int (k : Nat)) = some d := by
  obtain ⟨hl, rfl⟩ := List.getElem?_eq_some_iff.mp h
  have e : L2.atI xs (k : Int) = some xs[k] := by simp [L2.atI, L2.ixN, hl]
  unfold gIx
  simp only [asL, cellAt, Option.bind_some]
  exact e
theorem units_at {i : Nat} (hi : i < 60) : ((unitsR 60).map Ri)[i]? = some (Ri (unitR 60 i)) := by
  unfold unitsR
  rw [List.getElem?_map, List.getElem?_map, List.getElem?_range hi]
  rfl
abbrev Su (a0 a1 a2 a3 : DL.Slot) (fs : List (List Int)) (a6 : DL.Slot) (μ : List Cell) : S := ⟨[a0, a1, a2, a3, .val (.lst ((unitsR 60).map Ri)), .own (.lst (fs.map Ri)), a6, .no, .no, .no, .no], μ⟩
def rwB : FS := (dDrop (dM "list" gAppend (dVar 5) (dCons (dB gTuple (dCons (dFrz (dLc [9, 10] (dIterZp (dCons (dOp gIx (dVar 4) (dVar 6)) (dCons (dOp gIx (dVar 4) (dOp gAdd (dVar 6) (dC (.int (1))))) dNil))) (gT (gC (gNm 9) (gC (gNm 10) gN))) dYes (dOp gSub (dOp gMul (dC (.int (2))) (dVar 9)) (dOp gMul (dC (.int (3))) (dVar 10))))) dNil)) dNil)))
theorem rwB_ok {a0 a1 a2 a3 : DL.Slot} {fs : List (List Int)} {i : Nat} {μ : List Cell} (hi : i < 59) (hf : fs.length ≤ 100) : rwB (Su a0 a1 a2 a3 fs (.val (.int (i : Nat))) μ) = .nx (Su a0 a1 a2 a3 (fs ++ [dblR 60 i (i + 1) 2 3]) (.val (.int (i : Nat))) μ) := by
  have ea : ∀ s : S, gAdd s (.int (i : Nat)) (.int 1) = some (.int ((i + 1 : Nat) : Int)) := fun s => by rw [add_ii]; congr 2
  have g1 : dOp gIx (dVar 4) (dVar 6) (Su a0 a1 a2 a3 fs (.val (.int (i : Nat))) μ) = .ok (Ri (unitR 60 i)) (Su a0 a1 a2 a3 fs (.val (.int (i : Nat))) μ) := op_ok (var_ok rfl) (var_ok rfl) (ix_lst _ (units_at (by omega)))
  have g2 : dOp gIx (dVar 4) (dOp gAdd (dVar 6) (dC (.int (1)))) (Su a0 a1 a2 a3 fs (.val (.int (i : Nat))) μ) = .ok (Ri (unitR 60 (i + 1))) (Su a0 a1 a2 a3 fs (.val (.int (i : Nat))) μ) := op_ok (var_ok rfl) (op_ok (var_ok rfl) c_ok (ea _)) (ix_lst _ (units_at (by omega)))
  have g3 : dIterZp (dCons (dOp gIx (dVar 4) (dVar 6)) (dCons (dOp gIx (dVar 4) (dOp gAdd (dVar 6) (dC (.int (1))))) dNil)) (Su a0 a1 a2 a3 fs (.val (.int (i : Nat))) μ) = .ok (zpD ((unitR 60 i).map .int) ((unitR 60 (i + 1)).map .int)) (Su a0 a1 a2 a3 fs (.val (.int (i : Nat))) μ) := iterZp_ok (cons_ok g1 (cons_ok g2 nil_ok)) rfl rfl
  have cc := dbl_comp a0 a1 a2 a3 (.val (.lst ((unitsR 60).map Ri))) (.own (.lst (fs.map Ri))) (.val (.int (i : Nat))) .no .no μ (unitR 60 i) (unitR 60 (i + 1)) (unit_bd (by omega)) (unit_bd (by omega))
  have hz : (zpD ((unitR 60 i).map D.int) ((unitR 60 (i + 1)).map D.int)).length ≤ 16777216 := by rw [zp_len, unit_len, unit_len]; decide
  have g4 := tup_lc (lc_ok (vs := [9, 10]) g3 hz rfl cc) (tup_ints _ _)
  have g5 := apd_ok (i := 5) (s := Su a0 a1 a2 a3 fs (.val (.int (i : Nat))) μ) (V := fs.map Ri) rfl g4 rfl (by rw [List.length_map]; omega) (ri_no _)
  unfold rwB
  rw [g5]
  have em : (fs ++ [dblR 60 i (i + 1) 2 3]).map Ri = fs.map Ri ++ [Ri (dblR 60 i (i + 1) 2 3)] := List.map_append ..
  dsimp only [Su]
  rw [em]
  rfl
theorem rw_loop {a0 a1 a2 a3 : DL.Slot} {μ : List Cell} : ∀ (k i : Nat) (fs : List (List Int)) (a6 : DL.Slot), i + k ≤ 59 → fs.length + k ≤ 100 → ∃ d6 : DL.Slot, dFor (gNm 6) rwB ((List.range' i k).map fun (i : Nat) => D.int i) (Su a0 a1 a2 a3 fs a6 μ) = .nx (Su a0 a1 a2 a3 (fs ++ (List.range' i k).map fun i => dblR 60 i (i + 1) 2 3) d6 μ)
  | 0, i, fs, a6, _, _ => ⟨a6, by simp only [List.range'_zero, List.map_nil, List.append_nil]; exact for_nil⟩
  | k + 1, i, fs, a6, h, h2 => by
    obtain ⟨d6, e⟩ := rw_loop (a0 := a0) (a1 := a1) (a2 := a2) (a3 := a3) (μ := μ) k (i + 1) (fs ++ [dblR 60 i (i + 1) 2 3]) (.val (.int (i : Nat))) (by omega) (by simp; omega)
    refine ⟨d6, ?_⟩
    rw [List.range'_succ, List.map_cons, List.map_cons]
    rw [List.append_assoc] at e
    exact for_nx rfl (rwB_ok (by omega) (by omega)) e
theorem add2 : ∀ l < 21, CanAdd 2 6 l := by decide
theorem z2z : ∀ l ≤ 20, 2 + (l + 1) * (sz 2 6 l + 1) ≤ 40000 := by decide
theorem S2 : Sizes 60 2 6 20 := ⟨by omega, by omega, by decide, fun l _ h => add2 l (by omega), fun l _ h => z2z l (by omega)⟩
theorem held60 : lead (rest lot60 (dblR 60 7 8 2 3)) = none := (held_rest lt60 (dbl_len ..)).mp fun x hx hp => (same60 x).mp hp _ (List.mem_map.mpr ⟨7, by decide, rfl⟩)
end K11

namespace K11
open PySem PySem.Spec PyProof.Rows L2 DL
/-! ### the empty script: lots of width 60 -/
abbrev Sv (a0 a1 a2 a3 a5 a6 a7 : DL.Slot) (μ : List Cell) : S := ⟨[a0, a1, a2, a3, .val (.lst ((unitsR 60).map Ri)), a5, a6, a7, .no, .no, .no], μ⟩
theorem not_ok {t : FT} {s s1 : S} {b : Bool} (h : t s = .ok b s1) : dNotT t s = .ok (!b) s1 := by
  unfold dNotT
  rw [h]
  rfl
theorem ix_tup (s : S) {xs : List D} {k : Nat} {d : D} (h : xs[k]? = some d) : gIx s (.tup xs) (.int (k : Nat)) = some d := by
  obtain ⟨hl, rfl⟩ := List.getElem?_eq_some_iff.mp h
  have e : L2.atI xs (k : Int) = some xs[k] := by simp [L2.atI, L2.ixN, hl]
  unfold gIx
  exact e
def if60 : FS := (dIfS (dOrT (dCmpT neS (dCall F_lot_of (dCons (dC (.int (60))) (dCons (dRev (dVar 5)) dNil))) (dVar 7)) (dOrT (dCmpT neS (dB gLen (dCons (dCall F_rows_apart (dCons (dC (.int (60))) (dCons (dVar 7) dNil))) dNil)) (dC (.int (40)))) (dNotT (dTruth (dCall F_holds (dCons (dC (.int (60))) (dCons (dVar 7) (dCons (dOp gIx (dVar 5) (dC (.int (7)))) dNil)))))))) (dRet (dC (.bl false))) dSkip)
def body60 : FS := (dSeq (dAsgO 5 (dLst dNil))
    (dSeq (dForI (dRng1 (dCons (dC (.int (20))) dNil)) (gNm 6) rwB)
    (dSeq (dAsg 5 (dB gTuple (dCons (dVar 5) dNil)))
    (dSeq (dAsg 7 (dCall F_L_lot (dCons (dVar 5) dNil)))
    if60))))
theorem if60_gen {a0 a1 a2 a3 a6 : DL.Slot} {rows lot m : List (List Int)} {r : List Int} {μ : List Cell} (h7 : (rows.map Ri)[7]? = some (Ri r)) (e1 : F_lot_of [.int 60, .tup (rows.map Ri).reverse] μ = .ok (.tup (lot.map Ri)) μ) (e2 : F_rows_apart [.int 60, .tup (lot.map Ri)] μ = .ok (.tup (m.map Ri)) μ) (hm : m.length = 40) (e3 : F_holds [.int 60, .tup (lot.map Ri), Ri r] μ = .ok (.bl true) μ) :
    if60 (Sv a0 a1 a2 a3 (.val (.tup (rows.map Ri))) a6 (.val (.tup (lot.map Ri))) μ) = .nx (Sv a0 a1 a2 a3 (.val (.tup (rows.map Ri))) a6 (.val (.tup (lot.map Ri))) μ) := by
  have q1 := call_ok (F := F_lot_of) (s := Sv a0 a1 a2 a3 (.val (.tup (rows.map Ri))) a6 (.val (.tup (lot.map Ri))) μ) (cons_ok (fa := dC (.int 60)) c_ok (cons_ok (fa := dRev (dVar 5)) (rev_ok (var_ok rfl)) nil_ok)) rfl e1
  have q2 := call_ok (F := F_rows_apart) (s := Sv a0 a1 a2 a3 (.val (.tup (rows.map Ri))) a6 (.val (.tup (lot.map Ri))) μ) (cons_ok (fa := dC (.int 60)) c_ok (cons_ok (fa := dVar 7) (var_ok rfl) nil_ok)) rfl e2
  have g7 : ∀ s : S, gIx s (.tup (rows.map Ri)) (.int 7) = some (Ri r) := fun s => ix_tup s h7
  have q3 := call_ok (F := F_holds) (s := Sv a0 a1 a2 a3 (.val (.tup (rows.map Ri))) a6 (.val (.tup (lot.map Ri))) μ) (cons_ok (fa := dC (.int 60)) c_ok (cons_ok (fa := dVar 7) (var_ok rfl) (cons_ok (op_ok (fa := dVar 5) (fb := dC (.int 7)) (var_ok rfl) c_ok (g7 _)) nil_ok))) rfl e3
  have q4 : dB gLen (dCons (dCall F_rows_apart (dCons (dC (.int (60))) (dCons (dVar 7) dNil))) dNil) (Sv a0 a1 a2 a3 (.val (.tup (rows.map Ri))) a6 (.val (.tup (lot.map Ri))) μ) = .ok (.int (40 : Nat)) (Sv a0 a1 a2 a3 (.val (.tup (rows.map Ri))) a6 (.val (.tup (lot.map Ri))) μ) := len_ok q2 (by rw [len_tup, List.length_map, hm])
  exact ifS_no (or_no (cmp_ok q1 (var_ok rfl) (ne_lot _ _)) (or_no (cmp_ok q4 c_ok (ne_int _ _ _ rfl)) (not_ok (truth_ok q3))))
theorem facts60 (μ : List Cell) : ∃ m : List (List Int), F_L_lot [.tup (rows60.map Ri)] μ = .ok (.tup (lot60.map Ri)) μ ∧ F_lot_of [.int (60 : Nat), .tup (rows60.map Ri).reverse] μ = .ok (.tup (lot60.map Ri)) μ ∧ F_rows_apart [.int (60 : Nat), .tup (lot60.map Ri)] μ = .ok (.tup (m.map Ri)) μ ∧ m.length = 40 ∧ F_holds [.int (60 : Nat), .tup (lot60.map Ri), Ri (dblR 60 7 8 2 3)] μ = .ok (.bl true) μ := by
  have hr60 : rows60.length = 20 := by simp [rows60]
  obtain ⟨l, e1, g1, _, s1⟩ := L_lot2 (w := 60) (b := 2) (s := 6) (rows := rows60) (by rw [hr60]; exact S2) rows60_ok (d := .tup (rows60.map Ri)) (.inl rfl) μ
  obtain rfl := good_unique g1 good60 (s1.trans same60.symm)
  obtain ⟨k, e2, g2, _, s2⟩ := lot_of2 (w := 60) (b := 2) (s := 6) (rows := rows60.reverse) (by decide) (by rw [List.length_reverse, hr60]; exact S2) (fun o ho => rows60_ok o (List.mem_reverse.mp ho)) (by rw [List.length_reverse, hr60]; decide) μ
  obtain rfl := good_unique g2 g1 ((s2.trans (Same.perm (List.reverse_perm rows60))).trans same60.symm)
  obtain ⟨m, e3, hm⟩ := rows_apart60 μ
  have hl60 : lot60.length = 20 := by simp [lot60]
  have e4 := holds_ok (w := 60) (b := 2) (s := 6) (r := 2) (row := dblR 60 7 8 2 3) (by decide) (by decide) (by decide) (by decide) good60 (by rw [hl60]; decide) (dbl_len ..) (rows60_ok _ (List.mem_map.mpr ⟨7, by decide, rfl⟩)).2 (by rw [hl60]; decide) μ
  rw [decide_eq_true held60] at e4
  rw [List.map_reverse] at e2
  exact ⟨m, e1, e2, e3, hm, e4⟩
theorem tuple_own {s : S} {i : Nat} {V : List D} (h : s.δ[i]? = some (.own (.lst V))) : gTuple s [.own i] = some (.tup V) := by
  show (asSeq s (.own i)).map D.tup = _
  rw [asSeq_own h]; rfl
theorem body60_gen {a0 a1 a2 a3 : DL.Slot} {rows lot m : List (List Int)} {r : List Int} {μ : List Cell} (hrows : ∃ d6 : DL.Slot, dFor (gNm 6) rwB (rngD 0 20) (Su a0 a1 a2 a3 [] .no μ) = .nx (Su a0 a1 a2 a3 rows d6 μ)) (h7 : (rows.map Ri)[7]? = some (Ri r)) (e0 : F_L_lot [.tup (rows.map Ri)] μ = .ok (.tup (lot.map Ri)) μ) (e1 : F_lot_of [.int 60, .tup (rows.map Ri).reverse] μ = .ok (.tup (lot.map Ri)) μ) (e2 : F_rows_apart [.int 60, .tup (lot.map Ri)] μ = .ok (.tup (m.map Ri)) μ) (hm : m.length = 40) (e3 : F_holds [.int 60, .tup (lot.map Ri), Ri r] μ = .ok (.bl true) μ) :
    ∃ a5 a6 a7 : DL.Slot, body60 (Sv a0 a1 a2 a3 .no .no .no μ) = .nx (Sv a0 a1 a2 a3 a5 a6 a7 μ) := by
  obtain ⟨d6, er⟩ := hrows
  refine ⟨.val (.tup (rows.map Ri)), d6, .val (.tup (lot.map Ri)), ?_⟩
  have g1 : dAsgO 5 (dLst dNil) (Sv a0 a1 a2 a3 .no .no .no μ) = .nx (Su a0 a1 a2 a3 [] .no μ) := asgO_ok (lst_ok nil_ok rfl (by simp))
  have g2 : dForI (dRng1 (dCons (dC (.int (20))) dNil)) (gNm 6) rwB (Su a0 a1 a2 a3 [] .no μ) = .nx (Su a0 a1 a2 a3 rows d6 μ) := by
    refine for_it ?_ er
    have := rng_gen (fa := dCons (dC (.int (20))) dNil) (s := Su a0 a1 a2 a3 [] .no μ) (j := ((20 : Nat) : Int)) (cons_ok c_ok nil_ok) (small_w (w := 20) (by decide))
    rw [Int.toNat_natCast] at this
    exact this
  have g3 : dAsg 5 (dB gTuple (dCons (dVar 5) dNil)) (Su a0 a1 a2 a3 rows d6 μ) = .nx (Sv a0 a1 a2 a3 (.val (.tup (rows.map Ri))) d6 .no μ) := asg_ok (i := 5) (b_ok (cons_ok (var_own (V := rows.map Ri) rfl) nil_ok) (tuple_own rfl)) rfl
  have g4 : dAsg 7 (dCall F_L_lot (dCons (dVar 5) dNil)) (Sv a0 a1 a2 a3 (.val (.tup (rows.map Ri))) d6 .no μ) = .nx (Sv a0 a1 a2 a3 (.val (.tup (rows.map Ri))) d6 (.val (.tup (lot.map Ri))) μ) := asg_ok (i := 7) (call_ok (cons_ok (var_ok rfl) nil_ok) rfl e0) rfl
  unfold body60
  exact (seq_nx g1).trans ((seq_nx g2).trans ((seq_nx g3).trans ((seq_nx g4).trans (if60_gen h7 e1 e2 hm e3))))
theorem rows_run {a0 a1 a2 a3 : DL.Slot} {μ : List Cell} : ∃ d6 : DL.Slot, dFor (gNm 6) rwB (rngD 0 20) (Su a0 a1 a2 a3 [] .no μ) = .nx (Su a0 a1 a2 a3 rows60 d6 μ) := by
  obtain ⟨d6, e⟩ := rw_loop (a0 := a0) (a1 := a1) (a2 := a2) (a3 := a3) (μ := μ) 20 0 [] .no (by decide) (by decide)
  refine ⟨d6, ?_⟩
  have h1 : (List.range' 0 20).map (fun (i : Nat) => D.int i) = rngD 0 20 := by
    rw [rng_ints, List.map_map, List.range_eq_range']; rfl
  have h2 : [] ++ (List.range' 0 20).map (fun i => dblR 60 i (i + 1) 2 3) = rows60 := by
    rw [List.nil_append, ← List.range_eq_range']; rfl
  rw [h1, h2] at e
  exact e
theorem body60_ok {a0 a1 a2 a3 : DL.Slot} (μ : List Cell) : ∃ a5 a6 a7 : DL.Slot, body60 (Sv a0 a1 a2 a3 .no .no .no μ) = .nx (Sv a0 a1 a2 a3 a5 a6 a7 μ) := by
  obtain ⟨m, e0, e1, e2, hm, e3⟩ := facts60 μ
  have h7 : (rows60.map Ri)[7]? = some (Ri (dblR 60 7 8 2 3)) := by
    unfold rows60
    rw [List.getElem?_map, List.getElem?_map, List.getElem?_range (by decide)]
    rfl
  have hrows := rows_run (a0 := a0) (a1 := a1) (a2 := a2) (a3 := a3) (μ := μ)
  generalize dblR 60 7 8 2 3 = r at *
  generalize rows60 = rows at *
  generalize lot60 = lot at *
  exact body60_gen hrows h7 e0 e1 e2 hm e3
end K11

namespace K11
open PySem PySem.Spec PyProof.Rows L2 DL
/-! ### what is told, and the law -/
theorem dt_three (x : List Int) (a b c : Int) : dt x [a, b, c] = a * at0 x 0 + b * at0 x 1 + c * at0 x 2 := by
  unfold dt zw at0
  match x with
  | [] => simp
  | [p] => simp; rw [Int.mul_comm]
  | [p, q] => simp; rw [Int.mul_comm p, Int.mul_comm q]
  | p :: q :: r :: x => simp; rw [Int.mul_comm p, Int.mul_comm q, Int.mul_comm r]; omega
theorem dt_two (x : List Int) (a b : Int) : dt x [a, b] = a * at0 x 0 + b * at0 x 1 := by
  unfold dt zw at0
  match x with
  | [] => simp
  | [p] => simp; rw [Int.mul_comm]
  | p :: q :: x => simp; rw [Int.mul_comm p, Int.mul_comm q]
theorem dt_one (x : List Int) (a : Int) : dt x [a] = a * at0 x 0 := by
  unfold dt zw at0
  match x with
  | [] => simp
  | p :: x => simp; rw [Int.mul_comm]
theorem apart_two {r r' : List Int} (h1 : at0 r' (leadL r) = 0) (h2 : at0 r (leadL r') = 0) : Apart r r' := by
  refine ⟨fun i hi => ?_, fun i hi => ?_⟩
  · rwa [leadL_some hi] at h1
  · rwa [leadL_some hi] at h2
theorem red_two {w n : Nat} {r r' : List Int} (l1 : r.length = w) (l2 : r'.length = w) (b1 : Bd n r) (b2 : Bd n r') (d1 : lead r ≠ none) (d2 : lead r' ≠ none) (h1 : at0 r' (leadL r) = 0) (h2 : at0 r (leadL r') = 0) (g1 : gcdL r = 1) (g2 : gcdL r' = 1) (p1 : 0 < at0 r (leadL r)) (p2 : 0 < at0 r' (leadL r')) (hs : leadL r < leadL r') : Lt w n [r, r'] ∧ Red w [r, r'] := by
  have L : Lt w n [r, r'] := ⟨by simp [l1, l2], by simp; exact ⟨b1, b2⟩, by simp [d1, d2], by simp; exact apart_two h1 h2⟩
  refine ⟨L, ⟨_, L⟩, by simp [g1, g2], fun o ho i hi => ?_, ?_⟩
  · simp only [List.mem_cons, List.not_mem_nil, or_false] at ho
    rcases ho with rfl | rfl <;> rwa [← leadL_some hi]
  · simp [leads, hs]
theorem redA : Lt 3 60 [[1, 0, -4], [0, 1, 2]] ∧ Red 3 [[1, 0, -4], [0, 1, 2]] := red_two rfl rfl (by unfold Bd; decide) (by unfold Bd; decide) (by decide) (by decide) (by decide) (by decide) (by decide) (by decide) (by decide) (by decide) (by decide)
theorem sameA : Same [[1, 0, -4], [0, 1, 2]] [[2, 4, 0], [0, 3, 6], [1, 3, 2]] := fun x => by
  unfold Perp
  simp only [List.forall_mem_cons, List.not_mem_nil, false_implies, implies_true, and_true, dt_three]
  omega
theorem t1 (μ : List Cell) : F_lot_of [.int (3 : Nat), .tup ([[2, 4, 0], [0, 3, 6], [1, 3, 2]].map Ri)] μ = .ok (.tup ([[1, 0, -4], [0, 1, 2]].map Ri)) μ := by
  obtain ⟨m, e, g, _, s⟩ := lot_of2 (w := 3) (b := 60) (s := 3) (rows := [[2, 4, 0], [0, 3, 6], [1, 3, 2]]) (by decide) (S60 (by decide) _) (fun o ho => by
    simp only [List.mem_cons, List.not_mem_nil, or_false] at ho
    rcases ho with rfl | rfl | rfl <;> exact ⟨rfl, by unfold Bd; decide⟩) (by decide) μ
  have : m = [[1, 0, -4], [0, 1, 2]] := red_unique g.red redA.2 fun x _ => (s.trans sameA.symm) x
  rw [← this]
  exact e
theorem t2 (μ : List Cell) : F_lot_of [.int (2 : Nat), .tup (([] : List (List Int)).map Ri)] μ = .ok (.tup (([] : List (List Int)).map Ri)) μ := by
  obtain ⟨m, e, g, _, s⟩ := lot_of2 (w := 2) (b := 60) (s := 3) (rows := []) (by decide) (S60 (by decide) _) (fun o ho => by simp at ho) (by decide) μ
  have : m = [] := good_unique g (Good.nil 2 60) s
  rw [← this]
  rw [← this] at e
  exact e
theorem redB : Lt 2 60 [[1, 0], [0, 1]] ∧ Red 2 [[1, 0], [0, 1]] := red_two rfl rfl (by unfold Bd; decide) (by unfold Bd; decide) (by decide) (by decide) (by decide) (by decide) (by decide) (by decide) (by decide) (by decide) (by decide)
theorem t3 (μ : List Cell) : F_rows_apart [.int (2 : Nat), .tup (([] : List (List Int)).map Ri)] μ = .ok (.tup ([[1, 0], [0, 1]].map Ri)) μ := by
  obtain ⟨m, e, R⟩ := rows_apart_ok (w := 2) (by decide) (A60 (by decide) (Good.nil 2 60)) μ
  have : m = [[1, 0], [0, 1]] := red_unique R.good.red redB.2 fun x hx => by
    rw [apart_perp (Good.nil 2 60) (s := 3) (by decide) R hx]
    unfold Held Perp
    simp only [List.forall_mem_cons, List.not_mem_nil, false_implies, implies_true, and_true, dt_two]
    obtain ⟨a, b, rfl⟩ := len2 hx
    constructor
    · intro h
      have h1 := h [1, 0] rfl trivial
      have h2 := h [0, 1] rfl trivial
      simp only [dt_two, at0] at h1 h2
      simp only [at0]
      simp at h1 h2 ⊢
      exact ⟨h1, h2⟩
    · intro h y _ _
      simp only [at0] at h
      simp at h
      rw [h.1, h.2, dt_two]; simp
  rw [← this]
  exact e
theorem redC : Lt 1 60 [[1]] ∧ Red 1 [[1]] := by
  have L : Lt 1 60 [[1]] := ⟨by simp, by simp; unfold Bd; decide, by decide, by simp⟩
  refine ⟨L, ⟨_, L⟩, by decide, fun o ho i hi => ?_, by simp [leads]⟩
  simp only [List.mem_cons, List.not_mem_nil, or_false] at ho
  subst ho
  have h1 : lead [(1 : Int)] = some 0 := by decide
  rw [h1] at hi
  cases hi
  decide
theorem goodC : Good 1 60 [[1]] := ⟨redC.2, [[1]], rfl, fun o ho => by simp at ho; subst ho; exact ⟨rfl, by unfold Bd; decide⟩, fun x => Iff.rfl⟩
theorem t4 (μ : List Cell) : F_met_lots [.int (1 : Nat), .tup (([] : List (List Int)).map Ri), .tup ([[1]].map Ri)] μ = .ok (.tup (([] : List (List Int)).map Ri)) μ := by
  obtain ⟨A, B, L2, M, e, _, RA, RB, gL, sL, RM⟩ := met_both (w := 1) (by decide) (by decide) (Good.nil 1 60) goodC μ
  obtain ⟨T, _, RT⟩ := apart_in3 (A60 (w := 1) (by decide) goodC) μ
  have hd := dims (s := 3) (by decide) (Good.nil 1 60) goodC goodC (fun x => Iff.rfl) RA RB RT gL sL RM
  have : M = [] := by simpa using hd
  rw [this] at e
  exact e
def toldA : FS := (dAsg 8 (dFrz (dLst (dCons (dCall F_lot_of (dCons (dC (.int (3))) (dCons (dTup (dCons (dTup (dCons (dC (.int (2))) (dCons (dC (.int (4))) (dCons (dC (.int (0))) dNil)))) (dCons (dTup (dCons (dC (.int (0))) (dCons (dC (.int (3))) (dCons (dC (.int (6))) dNil)))) (dCons (dTup (dCons (dC (.int (1))) (dCons (dC (.int (3))) (dCons (dC (.int (2))) dNil)))) dNil)))) dNil))) (dCons (dCall F_lot_of (dCons (dC (.int (2))) (dCons (dTup dNil) dNil))) (dCons (dCall F_rows_apart (dCons (dC (.int (2))) (dCons (dTup dNil) dNil))) (dCons (dCall F_met_lots (dCons (dC (.int (1))) (dCons (dTup dNil) (dCons (dTup (dCons (dTup (dCons (dC (.int (1))) dNil)) dNil)) dNil)))) dNil)))))))
def toldR : FS := (dRet (dOp eqS (dVar 8) (dFrz (dLst (dCons (dTup (dCons (dTup (dCons (dC (.int (1))) (dCons (dC (.int (0))) (dCons (dNeg (dC (.int (4)))) dNil)))) (dCons (dTup (dCons (dC (.int (0))) (dCons (dC (.int (1))) (dCons (dC (.int (2))) dNil)))) dNil))) (dCons (dTup dNil) (dCons (dTup (dCons (dTup (dCons (dC (.int (1))) (dCons (dC (.int (0))) dNil))) (dCons (dTup (dCons (dC (.int (0))) (dCons (dC (.int (1))) dNil))) dNil))) (dCons (dTup dNil) dNil))))))))
def forB : FS := (dIfS (dNotT (dTruth (dCall F_L_right (dCons (dVar 2) (dCons (dOp gAdd (dC (.int (1))) (dCall F_L_roll (dCons (dVar 2) (dCons (dC (.int (6))) dNil)))) dNil))))) (dRet (dC (.bl false))) dSkip)
def outB : FS := (dSeq (dAsgR 2 (dCallF F_L_dice (dCons (dVar 0) (dCons (dVar 1) dNil)))) (dForI (dRng1 (dCons (dC (.int (3))) dNil)) (gNm 3) forB))
def outR : FA := (dRng1 (dCons (dB gMax2 (dCons (dC (.int (1))) (dCons (dB gMin2 (dCons (dC (.int (6))) (dCons (dB gLen (dCons (dVar 0) dNil)) dNil))) dNil))) dNil))
theorem law_split : b_law = dSeq (dForI outR (gNm 1) outB) (dSeq (dAsg 4 (dFrz (dCallF F_L_units (dCons (dC (.int (60))) dNil)))) (dSeq (dIfS (dCmpT eqS (dB gLen (dCons (dVar 0) dNil)) (dC (.int (0)))) body60 dSkip) (dSeq toldA toldR))) := rfl
end K11

namespace K11
open PySem PySem.Spec PyProof.Rows L2 DL
local macro_rules | `(tactic| sizeOf_list_dec) => `(tactic| fail)
local macro_rules | `(tactic| sizeOf_list_dec) => `(tactic| (with_reducible apply frzE_ok; with_reducible apply lst_ok) <;> first | rfl | sizeOf_list_dec | simp)
local macro_rules | `(tactic| sizeOf_list_dec) => `(tactic| (with_reducible apply tup_ok) <;> first | sizeOf_list_dec | rfl | simp)
local macro_rules | `(tactic| sizeOf_list_dec) => `(tactic| (with_reducible apply cons_ok) <;> sizeOf_list_dec)
local macro_rules | `(tactic| sizeOf_list_dec) => `(tactic| with_reducible exact nil_ok)
local macro_rules | `(tactic| sizeOf_list_dec) => `(tactic| (with_reducible apply neg_ok) <;> sizeOf_list_dec)
local macro_rules | `(tactic| sizeOf_list_dec) => `(tactic| with_reducible exact c_ok)
def TD : List D := [.tup ([[1, 0, -4], [0, 1, 2]].map Ri), .tup (([] : List (List Int)).map Ri), .tup ([[1, 0], [0, 1]].map Ri), .tup (([] : List (List Int)).map Ri)]
abbrev S8 (a0 a1 a2 a3 a4 a5 a6 a7 a8 : DL.Slot) (μ : List Cell) : S := ⟨[a0, a1, a2, a3, a4, a5, a6, a7, a8, .no, .no], μ⟩
theorem r3 {s : S} {a b c : Int} : dTup (dCons (dC (.int a)) (dCons (dC (.int b)) (dCons (dC (.int c)) dNil))) s = .ok (Ri [a, b, c]) s := by sizeOf_list_dec
theorem toldA_ok {a0 a1 a2 a3 a4 a5 a6 a7 : DL.Slot} {μ : List Cell} : toldA (S8 a0 a1 a2 a3 a4 a5 a6 a7 .no μ) = .nx (S8 a0 a1 a2 a3 a4 a5 a6 a7 (.val (.lst TD)) μ) := by
  have e1 : F_lot_of [.int 3, .tup [.tup [.int 2, .int 4, .int 0], .tup [.int 0, .int 3, .int 6], .tup [.int 1, .int 3, .int 2]]] μ = .ok (.tup ([[1, 0, -4], [0, 1, 2]].map Ri)) μ := t1 μ
  have e2 : F_lot_of [.int 2, .tup []] μ = .ok (.tup (([] : List (List Int)).map Ri)) μ := t2 μ
  have e3 : F_rows_apart [.int 2, .tup []] μ = .ok (.tup ([[1, 0], [0, 1]].map Ri)) μ := t3 μ
  have e4 : F_met_lots [.int 1, .tup [], .tup [.tup [.int 1]]] μ = .ok (.tup (([] : List (List Int)).map Ri)) μ := t4 μ
  have q1 : dCall F_lot_of (dCons (dC (.int (3))) (dCons (dTup (dCons (dTup (dCons (dC (.int (2))) (dCons (dC (.int (4))) (dCons (dC (.int (0))) dNil)))) (dCons (dTup (dCons (dC (.int (0))) (dCons (dC (.int (3))) (dCons (dC (.int (6))) dNil)))) (dCons (dTup (dCons (dC (.int (1))) (dCons (dC (.int (3))) (dCons (dC (.int (2))) dNil)))) dNil)))) dNil)) (S8 a0 a1 a2 a3 a4 a5 a6 a7 .no μ) = .ok (.tup ([[1, 0, -4], [0, 1, 2]].map Ri)) (S8 a0 a1 a2 a3 a4 a5 a6 a7 .no μ) := call_ok (by sizeOf_list_dec) rfl e1
  have q2 : dCall F_lot_of (dCons (dC (.int (2))) (dCons (dTup dNil) dNil)) (S8 a0 a1 a2 a3 a4 a5 a6 a7 .no μ) = .ok (.tup (([] : List (List Int)).map Ri)) (S8 a0 a1 a2 a3 a4 a5 a6 a7 .no μ) := call_ok (by sizeOf_list_dec) rfl e2
  have q3 : dCall F_rows_apart (dCons (dC (.int (2))) (dCons (dTup dNil) dNil)) (S8 a0 a1 a2 a3 a4 a5 a6 a7 .no μ) = .ok (.tup ([[1, 0], [0, 1]].map Ri)) (S8 a0 a1 a2 a3 a4 a5 a6 a7 .no μ) := call_ok (by sizeOf_list_dec) rfl e3
  have q4 : dCall F_met_lots (dCons (dC (.int (1))) (dCons (dTup dNil) (dCons (dTup (dCons (dTup (dCons (dC (.int (1))) dNil)) dNil)) dNil))) (S8 a0 a1 a2 a3 a4 a5 a6 a7 .no μ) = .ok (.tup (([] : List (List Int)).map Ri)) (S8 a0 a1 a2 a3 a4 a5 a6 a7 .no μ) := call_ok (by sizeOf_list_dec) rfl e4
  exact asg_ok (i := 8) (frzE_ok (lst_ok (cons_ok q1 (cons_ok q2 (cons_ok q3 (cons_ok q4 nil_ok)))) rfl (by decide))) rfl
theorem eq_TD (s : S) : eqS s (.lst TD) (.lst TD) = some (.bl true) := by
  have h : eqG (.list [.tuple [.tuple [.int 1, .int 0, .int (-4)], .tuple [.int 0, .int 1, .int 2]], .tuple [], .tuple [.tuple [.int 1, .int 0], .tuple [.int 0, .int 1]], .tuple []]) (.list [.tuple [.tuple [.int 1, .int 0, .int (-4)], .tuple [.int 0, .int 1, .int 2]], .tuple [], .tuple [.tuple [.int 1, .int 0], .tuple [.int 0, .int 1]], .tuple []]) = some true := by decide +kernel
  show (eqG (.list [.tuple [.tuple [.int 1, .int 0, .int (-4)], .tuple [.int 0, .int 1, .int 2]], .tuple [], .tuple [.tuple [.int 1, .int 0], .tuple [.int 0, .int 1]], .tuple []]) (.list [.tuple [.tuple [.int 1, .int 0, .int (-4)], .tuple [.int 0, .int 1, .int 2]], .tuple [], .tuple [.tuple [.int 1, .int 0], .tuple [.int 0, .int 1]], .tuple []])).map D.bl = _
  rw [h]; rfl
theorem toldR_ok {a0 a1 a2 a3 a4 a5 a6 a7 : DL.Slot} {μ : List Cell} : toldR (S8 a0 a1 a2 a3 a4 a5 a6 a7 (.val (.lst TD)) μ) = .rt (.bl true) (S8 a0 a1 a2 a3 a4 a5 a6 a7 (.val (.lst TD)) μ) := by
  refine ret_eq (var_ok (d := .lst TD) rfl) (y := .lst [.tup [.tup [.int 1, .int 0, .int (-4)], .tup [.int 0, .int 1, .int 2]], .tup [], .tup [.tup [.int 1, .int 0], .tup [.int 0, .int 1]], .tup []]) ?_ (eq_TD _)
  sizeOf_list_dec
/-! the loops -/
abbrev Sl (xs : List D) (a1 a2 a3 a4 : DL.Slot) (μ : List Cell) : S := ⟨[.val (.lst xs), a1, a2, a3, a4, .no, .no, .no, .no, .no, .no], μ⟩
theorem forB_ok {xs : List D} {n k : Nat} {a1 a3 : DL.Slot} {μ : List Cell} (h : Dc k n μ) (hk : k ≤ 18000) : ∃ μ', Dc (k + 701) n μ' ∧ forB (Sl xs a1 (.val (.ref n)) a3 .no μ) = .nx (Sl xs a1 (.val (.ref n)) a3 .no μ') := by
  obtain ⟨r, μ1, e1, hr, d1⟩ := roll_ok (t := 6) h (by omega) (by decide) (by decide)
  obtain ⟨μ2, e2, d2⟩ := L_right_ok (w := 1 + r) (by omega) (by omega) d1 (by omega)
  refine ⟨μ2, d2.mono (by omega), ?_⟩
  have ea : ∀ s : S, gAdd s (.int 1) (.int (r : Nat)) = some (.int ((1 + r : Nat) : Int)) := fun s => by rw [add_ii]; congr 2
  have q1 : dCall F_L_roll (dCons (dVar 2) (dCons (dC (.int (6))) dNil)) (Sl xs a1 (.val (.ref n)) a3 .no μ) = .ok (.int (r : Nat)) (Sl xs a1 (.val (.ref n)) a3 .no μ1) := call_okμ (s1 := Sl xs a1 (.val (.ref n)) a3 .no μ) (cons_ok (var_ok rfl) (cons_ok c_ok nil_ok)) rfl e1
  have q2 : dCall F_L_right (dCons (dVar 2) (dCons (dOp gAdd (dC (.int (1))) (dCall F_L_roll (dCons (dVar 2) (dCons (dC (.int (6))) dNil)))) dNil)) (Sl xs a1 (.val (.ref n)) a3 .no μ) = .ok (.bl true) (Sl xs a1 (.val (.ref n)) a3 .no μ2) := call_okμ (s1 := Sl xs a1 (.val (.ref n)) a3 .no μ1) (cons_ok (var_ok rfl) (cons_ok (op_ok c_ok q1 (ea _)) nil_ok)) rfl e2
  unfold forB
  exact ifS_no (not_ok (truth_ok q2))
theorem in_loop {xs : List D} {n : Nat} {a1 : DL.Slot} : ∀ (ds : List D) (k : Nat) (a3 : DL.Slot) (μ : List Cell), Dc k n μ → k + 701 * ds.length ≤ 18000 → ∃ (d3 : DL.Slot) (μ' : List Cell), μ'.all nLc = true ∧ dFor (gNm 3) forB ds (Sl xs a1 (.val (.ref n)) a3 .no μ) = .nx (Sl xs a1 (.val (.ref n)) d3 .no μ')
  | [], k, a3, μ, h, _ => ⟨a3, μ, h.2, for_nil⟩
  | d :: ds, k, a3, μ, h, hk => by
    rw [List.length_cons] at hk
    obtain ⟨μ1, d1, e1⟩ := forB_ok (xs := xs) (a1 := a1) (a3 := .val d) h (by omega)
    obtain ⟨d3, μ', hn, e⟩ := in_loop ds (k + 701) (.val d) μ1 d1 (by omega)
    exact ⟨d3, μ', hn, for_nx rfl e1 e⟩
theorem pow53 (s : S) : gPow s (.int 10) (.int 53) = some (.int (10 ^ 53)) := pow_ok' (by decide) s
theorem pow16 (s : S) : gPow s (.int 10) (.int 16) = some (.int (10 ^ 16)) := pow_ok' (by decide) s
theorem pow53_6 (s : S) : gPow s (.int (10 ^ 53)) (.int 6) = some (.int ((10 ^ 53) ^ 6)) := pow_ok' (by decide) s
theorem mulOk_s {a b : Int} (ha : a.natAbs < 2 ^ 64) (hb : b.natAbs < 2 ^ 64) : mulOk a b = true := mulOk_of ha hb (by decide) (by decide) (by decide)
theorem dice_gen {T U V : Int} {i : Nat} {xs : List Int} {μ : List Cell} (hl : xs.length ≤ 63) (hi : i ≤ 6) (hU : U ≠ 0) (h1 : ∀ s : S, gPow s (.int 10) (.int 53) = some (.int T)) (h2 : ∀ s : S, gPow s (.int T) (.int 6) = some (.int U)) (h3 : ∀ s : S, gPow s (.int 10) (.int 16) = some (.int V)) :
    ∃ p q : Int, F_L_dice [.lst (xs.map .int), .int i] μ = .okc (.lst [.int p, .int q, .int 0]) μ := by
  have hl2 : xs.length ≤ 16777216 := by omega
  have m1 : ∀ x : Int, mulOk (x.fmod 2305843009213693907) 73 = true := fun x => mulOk_s (Nat.lt_of_lt_of_le (small_of (n := 62) (by decide) (by decide)) (by decide)) (by decide)
  have m2 : mulOk 619 (i : Int) = true := mulOk_s (by decide) (by omega)
  have m3 : mulOk 131 (i : Int) = true := mulOk_s (by decide) (by omega)
  have m4 : mulOk 41 1 = true := by decide
  have m5 : mulOk 41 0 = true := by decide
  by_cases h : i < xs.length
  · have ei : ∀ s : S, gIx s (.lst (xs.map .int)) (.int (i : Int)) = some (.int xs[i]) := fun s => ix_lst s (by rw [List.getElem?_map, List.getElem?_eq_getElem h]; rfl)
    generalize xs[i] = x at ei
    by_cases hx : x < 0
    · simp [F_L_dice, b_L_dice, runF, gLen, hl2, h, ei, gInt, gAbs, h1, h2, h3, mod_ii hU, mul_ii m2, mul_ii (m1 _), mod_ii, gMax2, hx, mul_ii m4]
    · simp [F_L_dice, b_L_dice, runF, gLen, hl2, h, ei, gInt, gAbs, h1, h2, h3, mod_ii hU, mul_ii m2, mul_ii (m1 _), mod_ii, gMax2, hx, mul_ii m5]
  · have hx : ¬ (131 * (i : Int) + 37 < 0) := by omega
    simp [F_L_dice, b_L_dice, runF, gLen, hl2, h, mul_ii m3, gInt, gAbs, h1, h2, h3, mod_ii hU, mul_ii m2, mul_ii (m1 _), mod_ii, gMax2, hx, mul_ii m5]
theorem dice_ok {i : Nat} {xs : List Int} {μ : List Cell} (hl : xs.length ≤ 63) (hi : i ≤ 6) : ∃ p q : Int, F_L_dice [.lst (xs.map .int), .int i] μ = .okc (.lst [.int p, .int q, .int 0]) μ :=
  dice_gen hl hi (by decide) pow53 pow53_6 pow16
theorem asgR_ok {i : Nat} {fc : FC} {s s1 : S} {c : Cell} (h : fc s = .ok c s1) : dAsgR i fc s = .nx { s1 with μ := s1.μ ++ [c], δ := s1.δ.set i (.val (.ref s1.μ.length)) } := by
  unfold dAsgR
  rw [h]
theorem outB_ok {xs : List Int} {i : Nat} {a2 a3 : DL.Slot} {μ : List Cell} (hl : xs.length ≤ 63) (hi : i ≤ 6) (hn : μ.all nLc = true) : ∃ (d2 d3 : DL.Slot) (μ' : List Cell), μ'.all nLc = true ∧ outB (Sl (xs.map .int) (.val (.int (i : Nat))) a2 a3 .no μ) = .nx (Sl (xs.map .int) (.val (.int (i : Nat))) d2 d3 .no μ') := by
  obtain ⟨p, q, e1⟩ := dice_ok (i := i) (μ := μ) hl hi
  have hd : Dc 0 μ.length (μ ++ [.lst [.int p, .int q, .int 0]]) := ⟨⟨p, q, 0, by simp, by omega, by omega⟩, by rw [List.all_append, hn]; rfl⟩
  obtain ⟨d3, μ', hn', e2⟩ := in_loop (xs := xs.map .int) (a1 := .val (.int (i : Nat))) (rngD 0 3) 0 a3 _ hd (by decide)
  refine ⟨.val (.ref μ.length), d3, μ', hn', ?_⟩
  have g1 : dAsgR 2 (dCallF F_L_dice (dCons (dVar 0) (dCons (dVar 1) dNil))) (Sl (xs.map .int) (.val (.int (i : Nat))) a2 a3 .no μ) = .nx (Sl (xs.map .int) (.val (.int (i : Nat))) (.val (.ref μ.length)) a3 .no (μ ++ [.lst [.int p, .int q, .int 0]])) :=
    asgR_ok (callF_ok (s1 := Sl (xs.map .int) (.val (.int (i : Nat))) a2 a3 .no μ) (cons_ok (var_ok rfl) (cons_ok (var_ok rfl) nil_ok)) rfl e1)
  have er : dRng1 (dCons (dC (.int (3))) dNil) (Sl (xs.map .int) (.val (.int (i : Nat))) (.val (.ref μ.length)) a3 .no (μ ++ [.lst [.int p, .int q, .int 0]])) = .ok (rngD 0 3) (Sl (xs.map .int) (.val (.int (i : Nat))) (.val (.ref μ.length)) a3 .no (μ ++ [.lst [.int p, .int q, .int 0]])) := rfl
  unfold outB
  exact (seq_nx g1).trans (for_it er e2)
theorem out_loop {xs : List Int} (hl : xs.length ≤ 63) : ∀ (is : List Nat) (a1 a2 a3 : DL.Slot) (μ : List Cell), (∀ i ∈ is, i ≤ 6) → μ.all nLc = true → ∃ (d1 d2 d3 : DL.Slot) (μ' : List Cell), μ'.all nLc = true ∧ dFor (gNm 1) outB (is.map fun (i : Nat) => D.int i) (Sl (xs.map .int) a1 a2 a3 .no μ) = .nx (Sl (xs.map .int) d1 d2 d3 .no μ')
  | [], a1, a2, a3, μ, _, hn => ⟨a1, a2, a3, μ, hn, for_nil⟩
  | i :: is, a1, a2, a3, μ, h, hn => by
    obtain ⟨d2, d3, μ1, hn1, e1⟩ := outB_ok (xs := xs) (a2 := a2) (a3 := a3) hl (h i (by simp)) hn
    obtain ⟨b1, b2, b3, μ', hn', e⟩ := out_loop hl is (.val (.int (i : Nat))) d2 d3 μ1 (fun j hj => h j (by simp [hj])) hn1
    refine ⟨b1, b2, b3, μ', hn', ?_⟩
    rw [List.map_cons]
    exact for_nx rfl e1 e
theorem outR_ok {xs : List Int} (hl : xs.length ≤ 63) {μ : List Cell} : ∃ n : Nat, n ≤ 6 ∧ outR (Sl (xs.map .int) .no .no .no .no μ) = .ok ((List.range n).map fun (i : Nat) => D.int i) (Sl (xs.map .int) .no .no .no .no μ) := by
  refine ⟨max 1 (min 6 xs.length), by omega, ?_⟩
  have e1 : dB gLen (dCons (dVar 0) dNil) (Sl (xs.map .int) .no .no .no .no μ) = .ok (.int (xs.length : Nat)) (Sl (xs.map .int) .no .no .no .no μ) := len_ok (var_ok rfl) (by
    show some (D.int (((xs.map D.int).length : Nat) : Int)) = _
    rw [List.length_map])
  have e2 : dB gMin2 (dCons (dC (.int (6))) (dCons (dB gLen (dCons (dVar 0) dNil)) dNil)) (Sl (xs.map .int) .no .no .no .no μ) = .ok (.int (min 6 xs.length : Nat)) (Sl (xs.map .int) .no .no .no .no μ) := b_ok (cons_ok c_ok (cons_ok e1 nil_ok)) (by
    show some (D.int (if (xs.length : Int) < 6 then (xs.length : Int) else 6)) = _
    congr 2
    split <;> omega)
  have e3 : dB gMax2 (dCons (dC (.int (1))) (dCons (dB gMin2 (dCons (dC (.int (6))) (dCons (dB gLen (dCons (dVar 0) dNil)) dNil))) dNil)) (Sl (xs.map .int) .no .no .no .no μ) = .ok (.int (max 1 (min 6 xs.length) : Nat)) (Sl (xs.map .int) .no .no .no .no μ) := b_ok (cons_ok c_ok (cons_ok e2 nil_ok)) (by
    show some (D.int (if ((min 6 xs.length : Nat) : Int) > 1 then ((min 6 xs.length : Nat) : Int) else 1)) = _
    congr 2
    split <;> omega)
  have := rng_gen (cons_ok e3 nil_ok) (small_w (w := max 1 (min 6 xs.length)) (by omega))
  rw [Int.toNat_natCast, rng_ints, List.map_map] at this
  exact this
theorem law_holds : ∀ ns : List Int, ns.length ≤ 63 → ∃ μ, F_law [.lst (ns.map .int)] [] = .ok (.bl true) μ := by
  intro ns hl
  obtain ⟨n, hn6, er⟩ := outR_ok (xs := ns) hl (μ := [])
  obtain ⟨a1, a2, a3, μ, hn, e1⟩ := out_loop hl (List.range n) .no .no .no [] (fun i hi => by have := List.mem_range.mp hi; omega) rfl
  have g1 := for_it er e1
  have g2 : dAsg 4 (dFrz (dCallF F_L_units (dCons (dC (.int (60))) dNil))) (Sl (ns.map .int) a1 a2 a3 .no μ) = .nx (Sl (ns.map .int) a1 a2 a3 (.val (.lst ((unitsR 60).map Ri))) μ) :=
    asg_okμ (i := 4) (frzE_ok (callF_ok (s1 := Sl (ns.map .int) a1 a2 a3 .no μ) (cons_ok c_ok nil_ok) rfl (units_ok μ))) rfl
  have q : dB gLen (dCons (dVar 0) dNil) (Sl (ns.map .int) a1 a2 a3 (.val (.lst ((unitsR 60).map Ri))) μ) = .ok (.int (ns.length : Nat)) (Sl (ns.map .int) a1 a2 a3 (.val (.lst ((unitsR 60).map Ri))) μ) := len_ok (var_ok rfl) (by
    show some (D.int (((ns.map D.int).length : Nat) : Int)) = _
    rw [List.length_map])
  have g3 : ∃ a5 a6 a7 : DL.Slot, (dIfS (dCmpT eqS (dB gLen (dCons (dVar 0) dNil)) (dC (.int (0)))) body60 dSkip) (Sl (ns.map .int) a1 a2 a3 (.val (.lst ((unitsR 60).map Ri))) μ) = .nx (S8 (.val (.lst (ns.map .int))) a1 a2 a3 (.val (.lst ((unitsR 60).map Ri))) a5 a6 a7 .no μ) := by
    have qc : dCmpT eqS (dB gLen (dCons (dVar 0) dNil)) (dC (.int (0))) (Sl (ns.map .int) a1 a2 a3 (.val (.lst ((unitsR 60).map Ri))) μ) = .ok (((ns.length : Nat) : Int) == 0) (Sl (ns.map .int) a1 a2 a3 (.val (.lst ((unitsR 60).map Ri))) μ) := cmp_ok q c_ok (eq_ii _ _ _)
    cases hb : (((ns.length : Nat) : Int) == 0) with
    | true =>
      rw [hb] at qc
      obtain ⟨a5, a6, a7, e⟩ := body60_ok (a0 := .val (.lst (ns.map .int))) (a1 := a1) (a2 := a2) (a3 := a3) μ
      refine ⟨a5, a6, a7, ?_⟩
      rw [ap_IfS, qc]
      exact e
    | false =>
      rw [hb] at qc
      refine ⟨.no, .no, .no, ?_⟩
      rw [ap_IfS, qc]
      rfl
  obtain ⟨a5, a6, a7, g3⟩ := g3
  have t : b_law (Sl (ns.map .int) .no .no .no .no []) = .rt (.bl true) (S8 (.val (.lst (ns.map .int))) a1 a2 a3 (.val (.lst ((unitsR 60).map Ri))) a5 a6 a7 (.val (.lst TD)) μ) := by
    rw [law_split]
    exact (seq_nx g1).trans ((seq_nx g2).trans ((seq_nx g3).trans ((seq_nx toldA_ok).trans toldR_ok)))
  exact ⟨_, runF_rt (n := 11) (ds := [.lst (ns.map .int)]) t⟩
end K11

open PySem PySem.W PyProof.Rows in
set_option maxRecDepth 100000 in
set_option maxHeartbeats 0 in
theorem PySem.Challenge.cw_anywaybuilt_k11_whole_lots_holds : PySem.Challenge.rw_anywaybuilt_k11_whole_lots.Holds := by
  w_on; o_law; k_head; (case hw => w_witness2)
  k_fill
  refine DL.walkG (l := PySem.Challenge.rw_anywaybuilt_k11_whole_lots) (k := 9) rfl (by decide) rfl ⟨rfl, by decide, by decide⟩ (fun w h Y => PySem.W.kIn_of Y) ?F K11.law_holds
  case F =>
    intro w mg fa h KX G hmg base _ _
    refine' K11.all_mk KX G ?a0 ?l0 ?c0 ?k0 ?a1 ?l1 ?c1 ?k1 ?a2 ?l2 ?c2 ?k2 ?a3 ?l3 ?c3 ?k3 ?a4 ?l4 ?c4 ?k4 ?a5 ?l5 ?c5 ?k5 ?a6 ?l6 ?c6 ?k6 ?a7 ?l7 ?c7 ?k7 ?a8 ?l8 ?c8 ?k8 ?a9 ?l9 ?c9 ?k9 ?a10 ?l10 ?c10 ?k10 ?a11 ?l11 ?c11 ?k11 ?a12 ?l12 ?c12 ?k12 ?a13 ?l13 ?c13 ?k13 ?a14 ?l14 ?c14 ?k14 ?a15 ?l15 ?c15 ?k15 ?a16 ?l16 ?c16 ?k16 ?a17 ?l17 ?c17 ?k17 ?a18 ?l18 ?c18 ?k18 ?a19 ?l19 ?c19 ?k19 ?a20 ?l20 ?c20 ?k20 ?a21 ?l21 ?c21 ?k21 ?a22 ?l22 ?c22 ?k22 ?a23 ?l23 ?c23 ?k23 ?a24 ?l24 ?c24 ?k24 ?a25 ?l25 ?c25 ?k25 ?a26 ?l26 ?c26 ?k26 ?a27 ?l27 ?c27 ?k27 ?a28 ?l28 ?c28 ?k28 ?a29 ?l29 ?c29 ?k29 ?a30 ?l30 ?c30 ?k30 ?a31 ?l31 ?c31 ?k31 ?a32 ?l32 ?c32 ?k32 ?a33 ?l33 ?c33 ?k33 ?a34 ?l34 ?c34 ?k34 ?a35 ?l35 ?c35 ?k35 ?a36 ?l36 ?c36 ?k36 ?a37 ?l37 ?c37 ?k37 ?a38 ?l38 ?c38 ?k38 ?a39 ?l39 ?c39 ?k39 ?a40 ?l40 ?c40 ?k40 ?z_abs ?z_all ?z_any ?z_bool ?z_enumerate ?z_int ?z_isinstance ?z_len ?z_list ?z_max ?z_min ?z_range ?z_repr ?z_sorted ?z_sum ?z_tuple ?z_zip ?e_MAX_WIDTH
    (case a0 => k_is)
    (case l0 => k_is)
    (case c0 => k_is)
    (case k0 => k_is)
    (case a1 => k_is)
    (case l1 => k_is)
    (case c1 => k_is)
    (case k1 => k_is)
    (case a2 => k_is)
    (case l2 => k_is)
    (case c2 => k_is)
    (case k2 => k_is)
    (case a3 => k_is)
    (case l3 => k_is)
    (case c3 => k_is)
    (case k3 => k_is)
    (case a4 => k_is)
    (case l4 => k_is)
    (case c4 => k_is)
    (case k4 => k_is)
    (case a5 => k_is)
    (case l5 => k_is)
    (case c5 => k_is)
    (case k5 => k_is)
    (case a6 => k_is)
    (case l6 => k_is)
    (case c6 => k_is)
    (case k6 => k_is)
    (case a7 => k_is)
    (case l7 => k_is)
    (case c7 => k_is)
    (case k7 => k_is)
    (case a8 => k_is)
    (case l8 => k_is)
    (case c8 => k_is)
    (case k8 => k_is)
    (case a9 => k_is)
    (case l9 => k_is)
    (case c9 => k_is)
    (case k9 => k_is)
    (case a10 => k_is)
    (case l10 => k_is)
    (case c10 => k_is)
    (case k10 => k_is)
    (case a11 => k_is)
    (case l11 => k_is)
    (case c11 => k_is)
    (case k11 => k_is)
    (case a12 => k_is)
    (case l12 => k_is)
    (case c12 => k_is)
    (case k12 => k_is)
    (case a13 => k_is)
    (case l13 => k_is)
    (case c13 => k_is)
    (case k13 => k_is)
    (case a14 => k_is)
    (case l14 => k_is)
    (case c14 => k_is)
    (case k14 => k_is)
    (case a15 => k_is)
    (case l15 => k_is)
    (case c15 => k_is)
    (case k15 => k_is)
    (case a16 => k_is)
    (case l16 => k_is)
    (case c16 => k_is)
    (case k16 => k_is)
    (case a17 => k_is)
    (case l17 => k_is)
    (case c17 => k_is)
    (case k17 => k_is)
    (case a18 => k_is)
    (case l18 => k_is)
    (case c18 => k_is)
    (case k18 => k_is)
    (case a19 => k_is)
    (case l19 => k_is)
    (case c19 => k_is)
    (case k19 => k_is)
    (case a20 => k_is)
    (case l20 => k_is)
    (case c20 => k_is)
    (case k20 => k_is)
    (case a21 => k_is)
    (case l21 => k_is)
    (case c21 => k_is)
    (case k21 => k_is)
    (case a22 => k_is)
    (case l22 => k_is)
    (case c22 => k_is)
    (case k22 => k_is)
    (case a23 => k_is)
    (case l23 => k_is)
    (case c23 => k_is)
    (case k23 => k_is)
    (case a24 => k_is)
    (case l24 => k_is)
    (case c24 => k_is)
    (case k24 => k_is)
    (case a25 => k_is)
    (case l25 => k_is)
    (case c25 => k_is)
    (case k25 => k_is)
    (case a26 => k_is)
    (case l26 => k_is)
    (case c26 => k_is)
    (case k26 => k_is)
    (case a27 => k_is)
    (case l27 => k_is)
    (case c27 => k_is)
    (case k27 => k_is)
    (case a28 => k_is)
    (case l28 => k_is)
    (case c28 => k_is)
    (case k28 => k_is)
    (case a29 => k_is)
    (case l29 => k_is)
    (case c29 => k_is)
    (case k29 => k_is)
    (case a30 => k_is)
    (case l30 => k_is)
    (case c30 => k_is)
    (case k30 => k_is)
    (case a31 => k_is)
    (case l31 => k_is)
    (case c31 => k_is)
    (case k31 => k_is)
    (case a32 => k_is)
    (case l32 => k_is)
    (case c32 => k_is)
    (case k32 => k_is)
    (case a33 => k_is)
    (case l33 => k_is)
    (case c33 => k_is)
    (case k33 => k_is)
    (case a34 => k_is)
    (case l34 => k_is)
    (case c34 => k_is)
    (case k34 => k_is)
    (case a35 => k_is)
    (case l35 => k_is)
    (case c35 => k_is)
    (case k35 => k_is)
    (case a36 => k_is)
    (case l36 => k_is)
    (case c36 => k_is)
    (case k36 => k_is)
    (case a37 => k_is)
    (case l37 => k_is)
    (case c37 => k_is)
    (case k37 => k_is)
    (case a38 => k_is)
    (case l38 => k_is)
    (case c38 => k_is)
    (case k38 => k_is)
    (case a39 => k_is)
    (case l39 => k_is)
    (case c39 => k_is)
    (case k39 => k_is)
    (case a40 => k_is)
    (case l40 => k_is)
    (case c40 => k_is)
    (case k40 => k_is)
    (case z_abs => k_is)
    (case z_all => k_is)
    (case z_any => k_is)
    (case z_bool => k_is)
    (case z_enumerate => k_is)
    (case z_int => k_is)
    (case z_isinstance => k_is)
    (case z_len => k_is)
    (case z_list => k_is)
    (case z_max => k_is)
    (case z_min => k_is)
    (case z_range => k_is)
    (case z_repr => k_is)
    (case z_sorted => k_is)
    (case z_sum => k_is)
    (case z_tuple => k_is)
    (case z_zip => k_is)
    (case e_MAX_WIDTH => k_is)

