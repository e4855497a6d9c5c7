import PyProof.Rows.All
import Wide.All
import OpenK.AllK
import Wide.FinOn
import PySem.Challenge.RW_anywaybuilt_k13_whole_rows
import HandS.ForMost
import HandS.ForExc
import HandS.TryMany
import HandS.Flow
import HandS.Wide
import HandS.WideBits
import HandS.ExcSuper
import HandS.CallSlots
import HandS.Lambda
import HandS.Walk
import HandS.TupAny
import HandS.TupMul
import HandS.Style
import HandS.Conv
import HandS.Deep
import HandS.IsInst
import HandS.RaiseMore
import HandS.Small
import KE.DataAny
import KE.SortData
import KE.DataMinMax
import PyProof.ReprRoads
import HandS.Zip
import KE.GoesNew
import HandS.SetFor
import HandS.Strs
import HandS.SortKw
import KE.SortKeyHeap
import HandS.Ends
set_option Elab.async false
set_option linter.all false
set_option maxRecDepth 100000
set_option maxHeartbeats 4000000
namespace DL
open PySem PySem.Spec PyProof.Rows L2
abbrev Sg := L2.St
/-! ### 1. Data, states, results -/
/-- a value as plain data: trees; ref n: the n-th shared cell; own i: the thing that slot i owns; adr a: a written thing -/
inductive D where
  | non | bl (b : Bool) | int (i : Int) | str (x : Str) | adr (a : Addr) | ty (n : String) | ref (n : Nat) | own (i : Nat)
  | tup (xs : List D) | lst (xs : List D) | dct (kvs : List (D × D)) | obj (C : Addr) (fs : List (Str × D))
/-- a thing that may change -/
inductive Cell where
  | lst (xs : List D) | dct (kvs : List (D × D)) | ins (C : Addr) (fs : List (Str × D)) | dead
inductive Slot where
  | no | val (d : D) | own (c : Cell)
structure S where
  δ : List Slot
  μ : List Cell
/-- an exception: its class, its fields (where it has a dict of its own) -/
structure EX where
  cls : Value
  fs : Option (List (Str × D))
inductive Res (α : Type) where
  | ok (a : α) (s : S) | exc (e : EX) (s : S) | bad
inductive SR where
  | nx (s : S) | rt (d : D) (s : S) | rtc (c : Cell) (s : S) | bk (s : S) | ct (s : S) | exc (e : EX) (s : S) | bad
inductive CR where
  | ok (d : D) (μ : List Cell) | okc (c : Cell) (μ : List Cell) | exc (e : EX) (μ : List Cell) | bad
@[inline] def Res.bind {α β : Type} (r : Res α) (f : α → S → Res β) : Res β := match r with
  | .ok a s => f a s
  | .exc e s => .exc e s
  | .bad => .bad
abbrev FE := S → Res D
abbrev FT := S → Res Bool
abbrev FC := S → Res Cell
abbrev FA := S → Res (List D)
abbrev FS := S → SR
abbrev FF := List D → List Cell → CR
def Cell.toD : Cell → D
  | .lst xs => .lst xs
  | .dct kvs => .dct kvs
  | .ins C fs => .obj C fs
  | .dead => .non
def keyD : D → Option Key
  | .int i => some (.inl i)
  | .str x => some (.inr x)
  | _ => none
def keyT : D → Option (List Key)
  | .tup ds => ds.mapM keyD
  | _ => none

/-! ### 2. Data in the abstract heap -/
def Fixed : HO → Prop
  | .tup _ => True
  | .frz _ _ => True
  | _ => False
/-- a list that stands still -/
def SqF (K : PySem.W.Frag) (H : Hp) (a : Addr) (xs : List V) : Prop :=
  (∃ o, H a = some (.frz o (.lst xs))) ∨
    ∃ (o : Obj) (its : Array Value) (n : Nat), K.lookup a = some o ∧ o.cls = .type "list" ∧ o.dict = none ∧ o.data = .seq its n ∧ its.size ≤ sizeLine ∧ Vals xs its.toList
theorem SqF.sq {K : PySem.W.Frag} {H : Hp} {a : Addr} {xs : List V} (h : SqF K H a xs) : SqL K H a xs := h.elim (fun ⟨o, q⟩ => .inl (.inr ⟨o, q⟩)) .inr
section
variable (K : PySem.W.Frag) (H : Hp) (α : List Addr)
mutual
def Rv : D → V → Prop
  | .non, v => v = .non
  | .bl b, v => v = .bl b
  | .int i, v => v = .int i
  | .str x, v => v = .str x
  | .adr a, v => v = .ref a
  | .ty n, v => v = .ty n
  | .ref n, v => ∃ a, α[n]? = some a ∧ v = .ref a
  | .own _, _ => False
  | .tup ds, v => ∃ a vs, v = .ref a ∧ SqT K H a vs ∧ Rvs ds vs
  | .lst ds, v => ∃ a vs, v = .ref a ∧ SqF K H a vs ∧ Rvs ds vs
  | .dct kvs, v => ∃ a o, v = .ref a ∧ ((∃ kv, H a = some (.frz o (.dK kv)) ∧ Rkv kvs kv) ∨ ∃ kv, H a = some (.frz o (.dT kv)) ∧ RkT kvs kv)
  | .obj C fs, v => ∃ a o dx vs, v = .ref a ∧ H a = some (.frz o (.ins C dx vs)) ∧ Rfs fs vs
def Rvs : List D → List V → Prop
  | [], l => l = []
  | d :: ds, l => ∃ v r, l = v :: r ∧ Rv d v ∧ Rvs ds r
def Rkv : List (D × D) → List (Key × V) → Prop
  | [], l => l = []
  | (k, d) :: ds, l => ∃ q v r, l = (q, v) :: r ∧ keyD k = some q ∧ Rv d v ∧ Rkv ds r
def RkT : List (D × D) → List (List Key × V) → Prop
  | [], l => l = []
  | (k, d) :: ds, l => ∃ q v r, l = (q, v) :: r ∧ keyT k = some q ∧ Rv d v ∧ RkT ds r
def Rfs : List (Str × D) → List (Str × V) → Prop
  | [], l => l = []
  | (k, d) :: ds, l => ∃ v r, l = (k, v) :: r ∧ Rv d v ∧ Rfs ds r
end
def CellOk (a : Addr) : Cell → Prop
  | .lst xs => ∃ vs, H a = some (.lst vs) ∧ Rvs K H α xs vs
  | .dct kvs => (∃ kv, H a = some (.dK kv) ∧ Rkv K H α kvs kv) ∨ ∃ kv, H a = some (.dT kv) ∧ RkT K H α kvs kv
  | .ins C fs => ∃ dx vs, H a = some (.ins C dx vs) ∧ Rfs K H α fs vs
  | .dead => ∃ o, H a = some o
/-- the shared cells -/
structure RelC (μ : List Cell) : Prop where
  len : α.length = μ.length
  nd : α.Nodup
  at_ : ∀ (n : Nat) (a : Addr) (c : Cell), α[n]? = some a → μ[n]? = some c → CellOk K H α a c
/-- the slots; H0: the heap at the def's entry -/
structure RelS (H0 : Hp) (σ : Sg) (δ : List Slot) : Prop where
  len : σ.length = δ.length
  val : ∀ (i : Nat) (d : D), δ[i]? = some (.val d) → ∃ v, σ[i]? = some (some v) ∧ Rv K H α d v
  own : ∀ (i : Nat) (c : Cell), δ[i]? = some (.own c) → ∃ a, σ[i]? = some (some (.ref a)) ∧ a ∉ α ∧ H0 a = none ∧ CellOk K H α a c
  inj : ∀ (i j : Nat) (c c' : Cell) (a : Addr), δ[i]? = some (.own c) → δ[j]? = some (.own c') → σ[i]? = some (some (.ref a)) → σ[j]? = some (some (.ref a)) → i = j
end
structure Stay (H : Hp) (α : List Addr) (H' : Hp) (α' : List Addr) : Prop where
  im : ∀ a o, H a = some o → Fixed o → H' a = some o
  pre : α <+: α'
  dom : ∀ a, H' a = none → H a = none
theorem Stay.refl (H : Hp) (α : List Addr) : Stay H α H α := ⟨fun _ _ h _ => h, List.prefix_rfl, fun _ h => h⟩
theorem Stay.trans {H H1 H2 : Hp} {α α1 α2 : List Addr} (a : Stay H α H1 α1) (b : Stay H1 α1 H2 α2) : Stay H α H2 α2 :=
  ⟨fun c o h f => b.im c o (a.im c o h f) f, a.pre.trans b.pre, fun c h => a.dom c (b.dom c h)⟩
theorem pre_get {α α' : List Addr} (p : α <+: α') {n : Nat} {a : Addr} (h : α[n]? = some a) : α'[n]? = some a := by
  obtain ⟨t, rfl⟩ := p
  rw [List.getElem?_append_left (List.getElem?_eq_some_iff.mp h).1]
  exact h
section
variable {K : PySem.W.Frag} {H H' : Hp} {α α' : List Addr}
theorem Stay.rd {a : Addr} {u : HO} (s : Stay H α H' α') (hu : Fixed u) (h : Rd H a u) : Rd H' a u := by
  rcases h with h | ⟨o, h⟩
  · exact .inl (s.im _ _ h hu)
  · exact .inr ⟨o, s.im _ _ h trivial⟩
theorem Stay.sqT {a : Addr} {xs : List V} (s : Stay H α H' α') (h : SqT K H a xs) : SqT K H' a xs := h.elim (fun q => .inl (s.rd trivial q)) .inr
theorem Stay.sqF {a : Addr} {xs : List V} (s : Stay H α H' α') (h : SqF K H a xs) : SqF K H' a xs := h.elim (fun ⟨o, q⟩ => .inl ⟨o, s.im _ _ q trivial⟩) .inr
mutual
theorem Rv.stay (s : Stay H α H' α') : ∀ (d : D) (v : V), Rv K H α d v → Rv K H' α' d v
  | .non, _, h => by simpa only [Rv] using h
  | .bl _, _, h => by simpa only [Rv] using h
  | .int _, _, h => by simpa only [Rv] using h
  | .str _, _, h => by simpa only [Rv] using h
  | .adr _, _, h => by simpa only [Rv] using h
  | .ty _, _, h => by simpa only [Rv] using h
  | .own _, _, h => by simp only [Rv] at h
  | .ref n, v, h => by
    simp only [Rv] at h ⊢
    obtain ⟨a, e, q⟩ := h
    exact ⟨a, pre_get s.pre e, q⟩
  | .tup ds, v, h => by
    simp only [Rv] at h ⊢
    obtain ⟨a, vs, e, q, r⟩ := h
    exact ⟨a, vs, e, s.sqT q, Rvs.stay s ds vs r⟩
  | .lst ds, v, h => by
    simp only [Rv] at h ⊢
    obtain ⟨a, vs, e, q, r⟩ := h
    exact ⟨a, vs, e, s.sqF q, Rvs.stay s ds vs r⟩
  | .dct kvs, v, h => by
    simp only [Rv] at h ⊢
    obtain ⟨a, o, e, ⟨kv, q, r⟩ | ⟨kv, q, r⟩⟩ := h
    · exact ⟨a, o, e, .inl ⟨kv, s.im _ _ q trivial, Rkv.stay s kvs kv r⟩⟩
    · exact ⟨a, o, e, .inr ⟨kv, s.im _ _ q trivial, RkT.stay s kvs kv r⟩⟩
  | .obj C fs, v, h => by
    simp only [Rv] at h ⊢
    obtain ⟨a, o, dx, vs, e, q, r⟩ := h
    exact ⟨a, o, dx, vs, e, s.im _ _ q trivial, Rfs.stay s fs vs r⟩
theorem Rvs.stay (s : Stay H α H' α') : ∀ (ds : List D) (vs : List V), Rvs K H α ds vs → Rvs K H' α' ds vs
  | [], _, h => by simpa only [Rvs] using h
  | d :: ds, l, h => by
    simp only [Rvs] at h ⊢
    obtain ⟨v, r, e, h1, h2⟩ := h
    exact ⟨v, r, e, Rv.stay s d v h1, Rvs.stay s ds r h2⟩
theorem Rkv.stay (s : Stay H α H' α') : ∀ (ds : List (D × D)) (vs : List (Key × V)), Rkv K H α ds vs → Rkv K H' α' ds vs
  | [], _, h => by simpa only [Rkv] using h
  | (k, d) :: ds, l, h => by
    simp only [Rkv] at h ⊢
    obtain ⟨q, v, r, e, h0, h1, h2⟩ := h
    exact ⟨q, v, r, e, h0, Rv.stay s d v h1, Rkv.stay s ds r h2⟩
theorem RkT.stay (s : Stay H α H' α') : ∀ (ds : List (D × D)) (vs : List (List Key × V)), RkT K H α ds vs → RkT K H' α' ds vs
  | [], _, h => by simpa only [RkT] using h
  | (k, d) :: ds, l, h => by
    simp only [RkT] at h ⊢
    obtain ⟨q, v, r, e, h0, h1, h2⟩ := h
    exact ⟨q, v, r, e, h0, Rv.stay s d v h1, RkT.stay s ds r h2⟩
theorem Rfs.stay (s : Stay H α H' α') : ∀ (ds : List (Str × D)) (vs : List (Str × V)), Rfs K H α ds vs → Rfs K H' α' ds vs
  | [], _, h => by simpa only [Rfs] using h
  | (k, d) :: ds, l, h => by
    simp only [Rfs] at h ⊢
    obtain ⟨v, r, e, h1, h2⟩ := h
    exact ⟨v, r, e, Rv.stay s d v h1, Rfs.stay s ds r h2⟩
end
/-- a cell whose object stands as it was -/
theorem CellOk.stay {a : Addr} (s : Stay H α H' α') (e : ∀ o, H a = some o → ¬ Fixed o → H' a = some o) : ∀ c : Cell, CellOk K H α a c → CellOk K H' α' a c
  | .lst xs, ⟨vs, h, r⟩ => ⟨vs, e _ h (fun z => z), Rvs.stay s xs vs r⟩
  | .dct kvs, h => by
    rcases h with ⟨kv, h, r⟩ | ⟨kv, h, r⟩
    · exact .inl ⟨kv, e _ h (fun z => z), Rkv.stay s kvs kv r⟩
    · exact .inr ⟨kv, e _ h (fun z => z), RkT.stay s kvs kv r⟩
  | .ins C fs, ⟨dx, vs, h, r⟩ => ⟨dx, vs, e _ h (fun z => z), Rfs.stay s fs vs r⟩
  | .dead, ⟨o, h⟩ => by
    cases q : H' a with
    | none => rw [s.dom a q] at h; cases h
    | some u => exact ⟨u, q⟩
theorem Rvs.length : ∀ {ds : List D} {vs : List V}, Rvs K H α ds vs → vs.length = ds.length
  | [], _, h => by simp only [Rvs] at h; rw [h]; rfl
  | d :: ds, l, h => by
    simp only [Rvs] at h
    obtain ⟨v, r, rfl, h1, h2⟩ := h
    simp only [List.length_cons, Rvs.length h2]
theorem Rvs.at_ : ∀ {ds : List D} {vs : List V} {i : Nat} {d : D}, Rvs K H α ds vs → ds[i]? = some d → ∃ v, vs[i]? = some v ∧ Rv K H α d v
  | [], _, _, _, _, e => by simp at e
  | d :: ds, l, i, x, h, e => by
    simp only [Rvs] at h
    obtain ⟨v, r, rfl, h1, h2⟩ := h
    cases i with
    | zero => simp at e; subst e; exact ⟨v, rfl, h1⟩
    | succ i =>
      obtain ⟨w, q, z⟩ := Rvs.at_ (i := i) (d := x) h2 (by simpa using e)
      exact ⟨w, by simpa using q, z⟩
theorem Rvs.at' : ∀ {ds : List D} {vs : List V} {i : Nat} {v : V}, Rvs K H α ds vs → vs[i]? = some v → ∃ d, ds[i]? = some d ∧ Rv K H α d v
  | [], _, _, _, h, e => by simp only [Rvs] at h; subst h; simp at e
  | d :: ds, l, i, x, h, e => by
    simp only [Rvs] at h
    obtain ⟨v, r, rfl, h1, h2⟩ := h
    cases i with
    | zero => simp at e; subst e; exact ⟨d, rfl, h1⟩
    | succ i =>
      obtain ⟨w, q, z⟩ := Rvs.at' (i := i) (v := x) h2 (by simpa using e)
      exact ⟨w, by simpa using q, z⟩
theorem Rvs.append : ∀ {ds es : List D} {vs us : List V}, Rvs K H α ds vs → Rvs K H α es us → Rvs K H α (ds ++ es) (vs ++ us)
  | [], es, _, us, h, q => by simp only [Rvs] at h; subst h; exact q
  | d :: ds, es, l, us, h, q => by
    simp only [Rvs] at h
    obtain ⟨v, r, rfl, h1, h2⟩ := h
    simp only [List.cons_append, Rvs]
    exact ⟨v, r ++ us, rfl, h1, Rvs.append h2 q⟩
theorem Rvs.single {d : D} {v : V} (h : Rv K H α d v) : Rvs K H α [d] [v] := by
  simp only [Rvs]
  exact ⟨v, [], rfl, h, rfl⟩
theorem Rvs.cons {d : D} {v : V} {ds : List D} {vs : List V} (h : Rv K H α d v) (q : Rvs K H α ds vs) : Rvs K H α (d :: ds) (v :: vs) := by
  simp only [Rvs]
  exact ⟨v, vs, rfl, h, q⟩
theorem Rvs.nil : Rvs K H α [] [] := by simp only [Rvs]
theorem Rvs.set {d : D} {v : V} (h : Rv K H α d v) : ∀ {ds : List D} {vs : List V} (i : Nat), Rvs K H α ds vs → Rvs K H α (ds.set i d) (vs.set i v)
  | [], _, _, q => by simp only [Rvs] at q; subst q; exact Rvs.nil
  | e :: ds, l, i, q => by
    simp only [Rvs] at q
    obtain ⟨w, r, rfl, h1, h2⟩ := q
    cases i with
    | zero => exact Rvs.cons h h2
    | succ i => exact Rvs.cons h1 (Rvs.set h i h2)
theorem Rvs.take : ∀ {ds : List D} {vs : List V} (n : Nat), Rvs K H α ds vs → Rvs K H α (ds.take n) (vs.take n)
  | [], _, _, q => by simp only [Rvs] at q; subst q; simp [Rvs]
  | e :: ds, l, n, q => by
    simp only [Rvs] at q
    obtain ⟨w, r, rfl, h1, h2⟩ := q
    cases n with
    | zero => exact Rvs.nil
    | succ n => exact Rvs.cons h1 (Rvs.take n h2)
theorem Rvs.drop : ∀ {ds : List D} {vs : List V} (n : Nat), Rvs K H α ds vs → Rvs K H α (ds.drop n) (vs.drop n)
  | [], _, _, q => by simp only [Rvs] at q; subst q; simp [Rvs]
  | e :: ds, l, n, q => by
    simp only [Rvs] at q
    obtain ⟨w, r, rfl, h1, h2⟩ := q
    cases n with
    | zero => exact Rvs.cons h1 h2
    | succ n => exact Rvs.drop n h2
end
end DL

namespace DL
open PySem PySem.Spec PyProof.Rows L2
/-! ### 3. The relation of a state to the machine -/
structure Rel (K : PySem.W.Frag) (H0 : Hp) (α0 : List Addr) (H : Hp) (α : List Addr) (σ : Sg) (s : S) : Prop where
  cells : RelC K H α s.μ
  slots : RelS K H α H0 σ s.δ
  ot : ∀ a o, H0 a = some o → a ∉ α0 → H a = some o
  nw : ∀ a ∈ α, a ∈ α0 ∨ H0 a = none
  st : Stay H0 α0 H α
def ExR (K : PySem.W.Frag) (H : Hp) (α : List Addr) (e : EX) (cls : Value) (dd : Option Addr) : Prop :=
  cls = e.cls ∧ ∀ fs, e.fs = some fs → ∃ a vs, dd = some a ∧ H a = some (.xd vs) ∧ Rfs K H α fs vs
/-- a value on the way: data, or the thing of a slot -/
def Rx (K : PySem.W.Frag) (H : Hp) (α : List Addr) (σ : Sg) (d : D) (v : V) : Prop :=
  match d with
  | .own i => σ[i]? = some (some v)
  | d => Rv K H α d v
def Rxs (K : PySem.W.Frag) (H : Hp) (α : List Addr) (σ : Sg) (ds : List D) (vs : List V) : Prop := Paired (Rx K H α σ) ds vs
section
variable {K : PySem.W.Frag} {H0 H H' : Hp} {α0 α α' : List Addr} {σ : Sg} {s s' : S}
theorem Rv.x {d : D} {v : V} (h : Rv K H α d v) : Rx K H α σ d v := by
  cases d <;> first | exact h | (simp only [Rv] at h)
theorem Rx.stay (t : Stay H α H' α') {d : D} {v : V} (h : Rx K H α σ d v) : Rx K H' α' σ d v := by
  cases d <;> first | exact h | exact Rv.stay t _ _ h
theorem Rx.rv {d : D} {v : V} (h : Rx K H α σ d v) (n : ∀ i, d ≠ .own i) : Rv K H α d v := by
  cases d <;> first | exact h | exact absurd rfl (n _)
end
/-! ### 4. What is wanted of a result -/
def PostE (K : PySem.W.Frag) (H0 : Hp) (α0 : List Addr) (σ : Sg) (W : WX) (H : Hp) (α : List Addr) (Q : VK) : Res D → Prop
  | .ok d s' => ∀ v H' α', Rel K H0 α0 H' α' σ s' → Stay H α H' α' → Rx K H' α' σ d v → Q v H'
  | .exc e s' => ∀ cls dd H' α', Rel K H0 α0 H' α' σ s' → ExR K H' α' e cls dd → W cls dd σ H'
  | .bad => False
def PostT (K : PySem.W.Frag) (H0 : Hp) (α0 : List Addr) (σ : Sg) (W : WX) (H : Hp) (α : List Addr) (Q : Bool → Hp → Prop) : Res Bool → Prop
  | .ok b s' => ∀ H' α', Rel K H0 α0 H' α' σ s' → Stay H α H' α' → Q b H'
  | .exc e s' => ∀ cls dd H' α', Rel K H0 α0 H' α' σ s' → ExR K H' α' e cls dd → W cls dd σ H'
  | .bad => False
def PostA (K : PySem.W.Frag) (H0 : Hp) (α0 : List Addr) (σ : Sg) (W : WX) (H : Hp) (α : List Addr) (Q : List V → Hp → Prop) : Res (List D) → Prop
  | .ok ds s' => ∀ vs H' α', Rel K H0 α0 H' α' σ s' → Stay H α H' α' → Rxs K H' α' σ ds vs → Q vs H'
  | .exc e s' => ∀ cls dd H' α', Rel K H0 α0 H' α' σ s' → ExR K H' α' e cls dd → W cls dd σ H'
  | .bad => False
/-- a fresh thing at a: nobody else knows it -/
def RF (K : PySem.W.Frag) (H0 : Hp) (H : Hp) (α : List Addr) (σ : Sg) (s : S) (a : Addr) (c : Cell) : Prop :=
  CellOk K H α a c ∧ a ∉ α ∧ H0 a = none ∧ ∀ (i : Nat) (c' : Cell), s.δ[i]? = some (.own c') → σ[i]? ≠ some (some (.ref a))
def PostF (K : PySem.W.Frag) (H0 : Hp) (α0 : List Addr) (σ : Sg) (W : WX) (H : Hp) (α : List Addr) (Q : VK) : Res Cell → Prop
  | .ok c s' => ∀ a H' α', Rel K H0 α0 H' α' σ s' → Stay H α H' α' → RF K H0 H' α' σ s' a c → Q (.ref a) H'
  | .exc e s' => ∀ cls dd H' α', Rel K H0 α0 H' α' σ s' → ExR K H' α' e cls dd → W cls dd σ H'
  | .bad => False
def PostS (K : PySem.W.Frag) (H0 : Hp) (α0 : List Addr) (W : WX) (H : Hp) (α : List Addr) (D : Ends) : SR → Prop
  | .nx s' => ∀ σ' H' α', Rel K H0 α0 H' α' σ' s' → Stay H α H' α' → D.nx σ' H'
  | .bk s' => ∀ σ' H' α', Rel K H0 α0 H' α' σ' s' → Stay H α H' α' → D.bk σ' H'
  | .ct s' => ∀ σ' H' α', Rel K H0 α0 H' α' σ' s' → Stay H α H' α' → D.ct σ' H'
  | .rt d s' => ∀ v σ' H' α', Rel K H0 α0 H' α' σ' s' → Rv K H' α' d v → D.rt v H'
  | .rtc c s' => ∀ a σ' H' α', Rel K H0 α0 H' α' σ' s' → RF K H0 H' α' σ' s' a c → D.rt (.ref a) H'
  | .exc e s' => ∀ cls dd σ' H' α', Rel K H0 α0 H' α' σ' s' → ExR K H' α' e cls dd → W cls dd σ' H'
  | .bad => False
/-! ### 5. The judgements -/
structure PED (X : Cx) (e : Expr) (f : FE) : Prop where
  run : ∀ W, Takes X W → ∃ t, PE X e t ∧ ∀ H0 α0 σ H α s Q, Rel X.K H0 α0 H α σ s → PostE X.K H0 α0 σ W H α Q (f s) → t σ H Q
structure PTD (X : Cx) (e : Expr) (f : FT) : Prop where
  run : ∀ W, Takes X W → ∃ t, PT X e t ∧ ∀ H0 α0 σ H α s Q, Rel X.K H0 α0 H α σ s → PostT X.K H0 α0 σ W H α Q (f s) → t σ H Q
structure PAD (X : Cx) (es : List Expr) (f : FA) : Prop where
  run : ∀ W, Takes X W → ∃ t, PA X es t ∧ ∀ H0 α0 σ H α s Q, Rel X.K H0 α0 H α σ s → PostA X.K H0 α0 σ W H α Q (f s) → t σ H Q
structure PFD (X : Cx) (e : Expr) (f : FC) : Prop where
  run : ∀ W, Takes X W → ∃ t, PE X e t ∧ ∀ H0 α0 σ H α s Q, Rel X.K H0 α0 H α σ s → PostF X.K H0 α0 σ W H α Q (f s) → t σ H Q
structure PSD (X : Cx) (st : Stmt) (f : FS) : Prop where
  run : ∀ W, Takes X W → ∃ t, PS X st t ∧ ∀ H0 α0 σ H α s D, Rel X.K H0 α0 H α σ s → PostS X.K H0 α0 W H α D (f s) → t D σ H
structure PSsD (X : Cx) (st : List Stmt) (f : FS) : Prop where
  run : ∀ W, Takes X W → ∃ t, PSs X st t ∧ ∀ H0 α0 σ H α s D, Rel X.K H0 α0 H α σ s → PostS X.K H0 α0 W H α D (f s) → t D σ H

/-! ### 6. Steps of the heap -/
section
variable {K : PySem.W.Frag} {H0 H H' : Hp} {α0 α α' : List Addr} {σ : Sg} {s : S}
theorem CellOk.some {a : Addr} : ∀ {c : Cell}, CellOk K H α a c → ∃ o, H a = some o
  | .lst _, ⟨_, h, _⟩ => ⟨_, h⟩
  | .dct _, h => h.elim (fun ⟨_, q, _⟩ => ⟨_, q⟩) (fun ⟨_, q, _⟩ => ⟨_, q⟩)
  | .ins _ _, ⟨_, _, h, _⟩ => ⟨_, h⟩
  | .dead, h => h
theorem RelC.some {μ : List Cell} (r : RelC K H α μ) {a : Addr} (h : a ∈ α) : ∃ o, H a = some o := by
  obtain ⟨n, e⟩ := List.mem_iff_getElem?.mp h
  have hn := (List.getElem?_eq_some_iff.mp e).1
  rw [r.len] at hn
  exact (r.at_ n a _ e (List.getElem?_eq_getElem hn)).some
theorem Stay.upd_new {p : Addr} {o : HO} (h : H p = none) : Stay H α (upd H p o) α :=
  ⟨fun a u e _ => by rw [upd_ne (ne_of_none e h)]; exact e, List.prefix_rfl, fun a e => by
    by_cases q : a = p
    · subst q; exact h
    · rw [upd_ne q] at e; exact e⟩
/-- an untracked place is fresh to all -/
theorem Rel.free0 (r : Rel K H0 α0 H α σ s) {p : Addr} (h : H p = none) : H0 p = none := r.st.dom p h
theorem Rel.nota (r : Rel K H0 α0 H α σ s) {p : Addr} (h : H p = none) : p ∉ α := fun z => by
  obtain ⟨o, e⟩ := r.cells.some z
  rw [h] at e; cases e
/-- any step that leaves what is shared, what is owned and the callers' things as they were -/
theorem Rel.step (r : Rel K H0 α0 H α σ s) (t : Stay H α H' α)
    (k : ∀ a o, H a = some o → ¬ Fixed o → (a ∈ α ∨ ∃ (i : Nat) (c : Cell), s.δ[i]? = some (.own c) ∧ σ[i]? = some (some (.ref a))) → H' a = some o) (k0 : ∀ a o, H0 a = some o → a ∉ α0 → H a = some o → H' a = some o) : Rel K H0 α0 H' α σ s := by
  refine ⟨⟨r.cells.len, r.cells.nd, fun n a c h1 h2 => ?_⟩, ⟨r.slots.len, fun i d h => ?_, fun i c h => ?_, r.slots.inj⟩, fun a o h1 h2 => k0 a o h1 h2 (r.ot a o h1 h2), r.nw, r.st.trans t⟩
  · exact (r.cells.at_ n a c h1 h2).stay t (fun o e nf => k a o e nf (.inl (List.mem_of_getElem? h1)))
  · obtain ⟨v, e, q⟩ := r.slots.val i d h
    exact ⟨v, e, Rv.stay t d v q⟩
  · obtain ⟨a, e, na, n0, q⟩ := r.slots.own i c h
    exact ⟨a, e, na, n0, q.stay t (fun o e' nf => k a o e' nf (.inr ⟨i, c, h, e⟩))⟩
/-- a new thing -/
theorem Rel.new (r : Rel K H0 α0 H α σ s) {p : Addr} {o : HO} (h : H p = none) : Rel K H0 α0 (upd H p o) α σ s :=
  r.step (Stay.upd_new h) (fun a u e _ _ => by rw [upd_ne (ne_of_none e h)]; exact e) (fun a u _ _ e => by rw [upd_ne (ne_of_none e h)]; exact e)
end
theorem Takes.none {X : Cx} : Takes X (fun _ _ _ _ => False) := takes0
end DL

namespace DL
open PySem PySem.Spec PyProof.Rows L2
/-! ### 7. The ghost step: a thing is locked for good -/
def Gh (H : Hp) (Q : Hp → Prop) : Prop := Q H ∨ ∃ a u, H a = some u ∧ Mut (some u) ∧ ∀ o, Q (upd H a (.frz o u))
theorem Inv.gh {X : Cx} {pins : List (Addr × Obj)} {σ : Sg} {H : Hp} {s : Shared} {Q : Hp → Prop} (I : Inv X pins σ H s) (g : Gh H Q) : ∃ H', Inv X pins σ H' s ∧ Q H' := by
  rcases g with q | ⟨a, u, h, m, q⟩
  · exact ⟨H, I, q⟩
  · obtain ⟨o, J⟩ := I.lock h m
    exact ⟨_, J, q o⟩
theorem EP.gh {X : Cx} {pins : List (Addr × Obj)} {σ : Sg} {Q : VK} {u : Value} {s : Shared} (h : EP X pins σ (fun v H1 => Gh H1 (Q v)) u s) : EP X pins σ Q u s := by
  obtain ⟨v, H, I, r, g⟩ := h
  obtain ⟨H', J, q⟩ := DL.Inv.gh I g
  exact ⟨v, H', J, r, q⟩
theorem opGh {X : Cx} {f : Value → Value → Sem Value} {r : R2} (h : OpR X f r) : OpR X f (fun x y H Q => r x y H fun v H1 => Gh H1 (Q v)) :=
  fun pins s σ H x y v u Q I rx ry q => thn (h pins s σ H x y v u _ I rx ry q) fun _ _ e => EP.gh e
theorem peGh {X : Cx} {e : Expr} {t : TE} (h : PE X e t) : PE X e (fun σ H Q => t σ H fun v H1 => Gh H1 (Q v)) :=
  ⟨fun pins s σ H Q I q => thn (h.run pins s σ H _ I q) fun _ _ e => EP.gh e⟩
theorem callGh {X : Cx} {f : Value} {r : List V → Hp → VK → Prop} (h : CallR X f r) : CallR X f (fun xs H Q => r xs H fun v H1 => Gh H1 (Q v)) :=
  fun pins s σ H xs us Q I rx q => thn (h pins s σ H xs us _ I rx q) fun _ _ e => EP.gh e

/-! ### 8. Reading things -/
def cellAt (s : S) (d : D) : Option Cell := match d with
  | .own i => (match s.δ[i]? with | some (.own c) => some c | _ => none)
  | .ref n => s.μ[n]?
  | .lst xs => some (.lst xs)
  | .dct kvs => some (.dct kvs)
  | .obj C fs => some (.ins C fs)
  | _ => none
def asL (s : S) (d : D) : Option (List D) := match cellAt s d with | some (.lst xs) => some xs | _ => none
def asSeq (s : S) (d : D) : Option (List D) := match d with | .tup xs => some xs | d => asL s d
section
variable {K : PySem.W.Frag} {H0 H H' : Hp} {α0 α α' : List Addr} {σ : Sg} {s : S}
theorem asL_ok {d : D} {v : V} {xs : List D} (r : Rel K H0 α0 H α σ s) (h : Rx K H α σ d v) (e : asL s d = some xs) : ∃ a vs, v = .ref a ∧ SqL K H a vs ∧ Rvs K H α xs vs := by
  unfold asL cellAt at e
  cases d <;> simp only [reduceCtorEq] at e
  case ref n =>
    cases hc : s.μ[n]? with
    | none => rw [hc] at e; cases e
    | some c =>
      rw [hc] at e
      cases c <;> simp only [reduceCtorEq, Option.some.injEq] at e
      subst e
      have h' : Rv K H α (.ref n) v := h
      simp only [Rv] at h'
      obtain ⟨a, ha, rfl⟩ := h'
      obtain ⟨vs, q, rr⟩ := r.cells.at_ n a _ ha hc
      exact ⟨a, vs, rfl, .of q, rr⟩
  case own i =>
    cases hc : s.δ[i]? with
    | none => rw [hc] at e; simp at e
    | some c =>
      rw [hc] at e
      cases c with
      | no => simp at e
      | val _ => simp at e
      | own c =>
        cases c <;> simp only [reduceCtorEq, Option.some.injEq] at e
        subst e
        have h' : σ[i]? = some (some v) := h
        obtain ⟨a, ha, _, _, vs, q, rr⟩ := r.slots.own i _ hc
        rw [h'] at ha
        cases ha
        exact ⟨a, vs, rfl, .of q, rr⟩
  case lst ys =>
    simp only [Option.some.injEq] at e
    subst e
    have h' : Rv K H α (.lst ys) v := h
    simp only [Rv] at h'
    obtain ⟨a, vs, rfl, q, rr⟩ := h'
    exact ⟨a, vs, rfl, q.sq, rr⟩
theorem asT_ok {v : V} {xs : List D} (h : Rx K H α σ (.tup xs) v) : ∃ a vs, v = .ref a ∧ SqT K H a vs ∧ Rvs K H α xs vs := by
  have h' : Rv K H α (.tup xs) v := h
  simpa only [Rv] using h'
theorem asSeq_ok {d : D} {v : V} {xs : List D} (r : Rel K H0 α0 H α σ s) (h : Rx K H α σ d v) (e : asSeq s d = some xs) : ∃ a vs, v = .ref a ∧ (SqL K H a vs ∨ SqT K H a vs) ∧ Rvs K H α xs vs := by
  unfold asSeq at e
  split at e
  · cases e
    obtain ⟨a, vs, e1, q, rr⟩ := asT_ok h
    exact ⟨a, vs, e1, .inr q, rr⟩
  · obtain ⟨a, vs, e1, q, rr⟩ := asL_ok r h e
    exact ⟨a, vs, e1, .inl q, rr⟩
/-- a new list is locked at once -/
theorem gh_list {p : Addr} {xs : List D} {vs : List V} {Q : VK} (r : Rel K H0 α0 H α σ s) (h : H p = none) (rr : Rvs K H α xs vs)
    (q : ∀ v H' α', Rel K H0 α0 H' α' σ s → Stay H α H' α' → Rx K H' α' σ (.lst xs) v → Q v H') : Gh (upd H p (.lst vs)) (Q (.ref p)) := by
  refine .inr ⟨p, .lst vs, upd_same, trivial, fun o => ?_⟩
  rw [upd_upd]
  have t : Stay H α (upd H p (.frz o (.lst vs))) α := Stay.upd_new h
  refine q _ _ α (r.new h) t (Rv.x ?_)
  simp only [Rv]
  exact ⟨p, vs, rfl, .inl ⟨o, upd_same⟩, Rvs.stay t _ _ rr⟩
theorem new_tup {p : Addr} {xs : List D} {vs : List V} {Q : VK} (r : Rel K H0 α0 H α σ s) (h : H p = none) (rr : Rvs K H α xs vs)
    (q : ∀ v H' α', Rel K H0 α0 H' α' σ s → Stay H α H' α' → Rx K H' α' σ (.tup xs) v → Q v H') : Q (.ref p) (upd H p (.tup vs)) := by
  have t : Stay H α (upd H p (.tup vs)) α := Stay.upd_new h
  refine q _ _ α (r.new h) t (Rv.x ?_)
  simp only [Rv]
  exact ⟨p, vs, rfl, .inl (.inl upd_same), Rvs.stay t _ _ rr⟩
end

/-! ### 9. Names, constants -/
def dVar (i : Nat) : FE := fun s => match s.δ[i]? with
  | some (.val d) => .ok d s
  | some (.own _) => .ok (.own i) s
  | _ => .bad
def dC (d : D) : FE := fun s => .ok d s
section
variable {X : Cx}
theorem pd_var (i : Nat) {e : Expr} (h : PE X e (tVar i)) : PED X e (dVar i) := ⟨fun W _ => ⟨_, h, fun H0 α0 σ H α s Q r q => by
  unfold dVar at q
  cases e : s.δ[i]? with
  | none => rw [e] at q; exact q.elim
  | some sl =>
    rw [e] at q
    cases sl with
    | no => exact q.elim
    | val d =>
      obtain ⟨v, h1, h2⟩ := r.slots.val i d e
      exact ⟨v, h1, q v H α r (Stay.refl _ _) (Rv.x h2)⟩
    | own c =>
      obtain ⟨a, h1, _⟩ := r.slots.own i c e
      exact ⟨_, h1, q _ H α r (Stay.refl _ _) h1⟩⟩⟩
theorem pd_c {e : Expr} {d : D} {v : V} (h : PE X e (tC v)) (hv : ∀ H α, Rv X.K H α d v) : PED X e (dC d) := ⟨fun W _ => ⟨_, h, fun H0 α0 σ H α s Q r q => q v H α r (Stay.refl _ _) (Rv.x (hv H α))⟩⟩
theorem pd_int {i j pos} : PED X (.Constant (.int i) j pos) (dC (.int i)) := pd_c pe_int fun _ _ => by simp only [Rv]
theorem pd_bl {b j pos} : PED X (.Constant (.bool b) j pos) (dC (.bl b)) := pd_c pe_bl fun _ _ => by simp only [Rv]
theorem pd_non {j pos} : PED X (.Constant .none j pos) (dC .non) := pd_c pe_non fun _ _ => by simp only [Rv]
theorem pd_str {x j pos} : PED X (.Constant (.str x) j pos) (dC (.str x)) := pd_c pe_str fun _ _ => by simp only [Rv]
/-- a global that holds a written thing, an int, a text -/
theorem pd_globA {x : Str} {a : Addr} {pos : Pos} (hg : Gl X x) (hm : X.mg x = some (.ref a)) (hd : (x == ("__debug__" : Str)) = false := by decide) : PED X (.Name x pos) (dC (.adr a)) :=
  pd_c (pe_glob (v := .ref a) hg hm rfl hd) fun _ _ => by simp only [Rv]
theorem pd_globI {x : Str} {i : Int} {t : Tok} {pos : Pos} (hg : Gl X x) (hm : X.mg x = some (.int i t)) (hd : (x == ("__debug__" : Str)) = false := by decide) : PED X (.Name x pos) (dC (.int i)) :=
  pd_c (pe_glob (v := .int i) hg hm ⟨t, rfl⟩ hd) fun _ _ => by simp only [Rv]
theorem pd_globS {x y : Str} {t : Tok} {pos : Pos} (hg : Gl X x) (hm : X.mg x = some (.str y t)) (hd : (x == ("__debug__" : Str)) = false := by decide) : PED X (.Name x pos) (dC (.str y)) :=
  pd_c (pe_glob (v := .str y) hg hm ⟨t, rfl⟩ hd) fun _ _ => by simp only [Rv]
theorem pd_bltT {x : Str} {n : String} {pos : Pos} (hg : Gl X x) (hm : X.mg x = none) (hv : bootBuiltins x = some (.type n)) (hn : x ≠ "__name__" := by decide) (hd : (x == ("__debug__" : Str)) = false := by decide) : PED X (.Name x pos) (dC (.ty n)) :=
  pd_c (pe_bltn (v := .ty n) hg hm hv rfl hn hd) fun _ _ => by simp only [Rv]
end

/-! ### 10. Operators -/
def dOp (g : S → D → D → Option D) (fa fb : FE) : FE := fun s => (fa s).bind fun a s1 => (fb s1).bind fun b s2 => match g s2 a b with | some d => .ok d s2 | none => .bad
def OpS (X : Cx) (r : R2) (g : S → D → D → Option D) : Prop :=
  ∀ (H0 : Hp) (α0 : List Addr) (σ : Sg) (H : Hp) (α : List Addr) (s : S) (x y : V) (a b d : D) (Q : VK), Rel X.K H0 α0 H α σ s → Rx X.K H α σ a x → Rx X.K H α σ b y → g s a b = some d →
    (∀ v H' α', Rel X.K H0 α0 H' α' σ s → Stay H α H' α' → Rx X.K H' α' σ d v → Q v H') → r x y H fun v H1 => Gh H1 (Q v)
section
variable {X : Cx}
/-- two expressions, then k -/
theorem two_run {a b : Expr} {fa fb : FE} {W : WX} {ta tb : TE} (ha : ∀ H0 α0 σ H α s Q, Rel X.K H0 α0 H α σ s → PostE X.K H0 α0 σ W H α Q (fa s) → ta σ H Q)
    (hb : ∀ H0 α0 σ H α s Q, Rel X.K H0 α0 H α σ s → PostE X.K H0 α0 σ W H α Q (fb s) → tb σ H Q) {H0 : Hp} {α0 : List Addr} {σ : Sg} {H : Hp} {α : List Addr} {s : S} {Q : VK} {k : D → D → S → Res D} {R : V → V → Hp → Prop} (r : Rel X.K H0 α0 H α σ s)
    (q : PostE X.K H0 α0 σ W H α Q ((fa s).bind fun a s1 => (fb s1).bind fun b s2 => k a b s2))
    (hk : ∀ a b x y s2 H2 α2, Rel X.K H0 α0 H2 α2 σ s2 → Stay H α H2 α2 → Rx X.K H2 α2 σ a x → Rx X.K H2 α2 σ b y → PostE X.K H0 α0 σ W H α Q (k a b s2) → R x y H2) : ta σ H fun x H1 => tb σ H1 fun y H2 => R x y H2 := by
  refine ha H0 α0 σ H α s _ r ?_
  cases ea : fa s with
  | bad => rw [ea] at q; exact q.elim
  | exc e s1 => rw [ea] at q; exact q
  | ok a s1 =>
    rw [ea] at q
    intro x H1 α1 r1 t1 rx
    refine hb H0 α0 σ H1 α1 s1 _ r1 ?_
    have q' : PostE X.K H0 α0 σ W H α Q ((fb s1).bind fun b s2 => k a b s2) := q
    cases eb : fb s1 with
    | bad => rw [eb] at q'; exact q'.elim
    | exc e s2 => rw [eb] at q'; exact q'
    | ok b s2 =>
      rw [eb] at q'
      intro y H2 α2 r2 t2 ry
      exact hk a b x y s2 H2 α2 r2 (t1.trans t2) (rx.stay t2) ry q'
theorem PostE.mono {K : PySem.W.Frag} {H0 : Hp} {α0 : List Addr} {σ : Sg} {W : WX} {H H1 : Hp} {α α1 : List Addr} {Q : VK} (t : Stay H α H1 α1) {x : Res D} (q : PostE K H0 α0 σ W H α Q x) : PostE K H0 α0 σ W H1 α1 Q x := by
  cases x with
  | ok d s' => exact fun v H' α' r t' rx => q v H' α' r (t.trans t') rx
  | exc e s' => exact q
  | bad => exact q
theorem pd_opG {e a b : Expr} {r : R2} {g : S → D → D → Option D} {fa fb : FE} (hp : ∀ ta tb, PE X a ta → PE X b tb → PE X e (tOp (fun x y H Q => r x y H fun v H1 => Gh H1 (Q v)) ta tb)) (hs : OpS X r g) (ha : PED X a fa) (hb : PED X b fb) : PED X e (dOp g fa fb) := by
  refine ⟨fun W tk => ?_⟩
  obtain ⟨ta, pa, qa⟩ := ha.run W tk
  obtain ⟨tb, pb, qb⟩ := hb.run W tk
  refine ⟨_, hp ta tb pa pb, fun H0 α0 σ H α s Q rl q => ?_⟩
  refine two_run (a := a) (b := b) (W := W) qa qb rl q fun u w x y s2 H2 α2 r2 t2 rx ry q2 => ?_
  cases eg : g s2 u w with
  | none => rw [eg] at q2; exact q2.elim
  | some d =>
    rw [eg] at q2
    exact hs H0 α0 σ H2 α2 s2 x y u w d Q r2 rx ry eg fun v H' α' r' t' rv => q2 v H' α' r' (t2.trans t') rv
theorem pd_op {op : Operator} {a b : Expr} {pos : Pos} {r : R2} {g : S → D → D → Option D} {fa fb : FE} (ho : OpR X (binaryOp op) r) (hs : OpS X r g) (ha : PED X a fa) (hb : PED X b fb) : PED X (.BinOp a op b pos) (dOp g fa fb) :=
  pd_opG (fun _ _ pa pb => pe_op (opGh ho) pa pb) hs ha hb
theorem pd_cmp {op : CmpOp} {a b : Expr} {pos : Pos} {r : R2} {g : S → D → D → Option D} {fa fb : FE} (ho : OpR X (compareOp op) r) (hs : OpS X r g) (ha : PED X a fa) (hb : PED X b fb) (hm : behindInMarks op b = false) : PED X (.Compare a [op] [b] pos) (dOp g fa fb) :=
  pd_opG (fun _ _ pa pb => pe_cmpR (opGh ho) pa pb hm) hs ha hb
theorem OpS.or {r r' : R2} {g g' : S → D → D → Option D} (h : OpS X r g) (h' : OpS X r' g') : OpS X (fun x y H Q => r x y H Q ∨ r' x y H Q) (fun s a b => (g s a b).or (g' s a b)) := fun H0 α0 σ H α s x y a b d Q rl rx ry e q => by
  dsimp only at e
  cases eg : g s a b with
  | some d' =>
    rw [eg] at e
    obtain rfl : d' = d := Option.some.inj e
    exact .inl (h H0 α0 σ H α s x y a b d' Q rl rx ry eg q)
  | none =>
    rw [eg] at e
    have e : g' s a b = some d := e
    exact .inr (h' H0 α0 σ H α s x y a b d Q rl rx ry e q)
end
end DL

namespace DL
open PySem PySem.Spec PyProof.Rows L2
/-! ### 11. Ints -/
def gI (c : Int → Int → Bool) (f : Int → Int → D) : S → D → D → Option D := fun _ a b => match a, b with | .int i, .int j => if c i j then some (f i j) else none | _, _ => none
section
variable {X : Cx}
theorem rx_int {K : PySem.W.Frag} {H : Hp} {α : List Addr} {σ : Sg} {i : Int} {x : V} (h : Rx K H α σ (.int i) x) : x = .int i := by
  have h' : Rv K H α (.int i) x := h
  simpa only [Rv] using h'
theorem rx_str {K : PySem.W.Frag} {H : Hp} {α : List Addr} {σ : Sg} {i : Str} {x : V} (h : Rx K H α σ (.str i) x) : x = .str i := by
  have h' : Rv K H α (.str i) x := h
  simpa only [Rv] using h'
theorem rx_bl {K : PySem.W.Frag} {H : Hp} {α : List Addr} {σ : Sg} {i : Bool} {x : V} (h : Rx K H α σ (.bl i) x) : x = .bl i := by
  have h' : Rv K H α (.bl i) x := h
  simpa only [Rv] using h'
theorem rx_non {K : PySem.W.Frag} {H : Hp} {α : List Addr} {σ : Sg} {x : V} (h : Rx K H α σ .non x) : x = .non := by
  have h' : Rv K H α .non x := h
  simpa only [Rv] using h'
theorem ox_int {K : PySem.W.Frag} {H : Hp} {α : List Addr} {σ : Sg} {i : Int} : Rx K H α σ (.int i) (.int i) := by
  show Rv K H α (.int i) _
  simp only [Rv]
theorem ox_bl {K : PySem.W.Frag} {H : Hp} {α : List Addr} {σ : Sg} {i : Bool} : Rx K H α σ (.bl i) (.bl i) := by
  show Rv K H α (.bl i) _
  simp only [Rv]
theorem ox_str {K : PySem.W.Frag} {H : Hp} {α : List Addr} {σ : Sg} {i : Str} : Rx K H α σ (.str i) (.str i) := by
  show Rv K H α (.str i) _
  simp only [Rv]
theorem ox_non {K : PySem.W.Frag} {H : Hp} {α : List Addr} {σ : Sg} : Rx K H α σ .non .non := by
  show Rv K H α .non _
  simp only [Rv]
theorem os_I {C : Int → Int → Prop} {c : Int → Int → Bool} {f : Int → Int → Int} (h : ∀ i j, c i j = true → C i j) : OpS X (rI C fun i j => .int (f i j)) (gI c fun i j => .int (f i j)) := fun H0 α0 σ H α s x y a b d Q r rx ry e q => by
  unfold gI at e
  split at e
  · rename_i i j
    split at e
    · rename_i hc
      cases e
      rw [rx_int rx, rx_int ry]
      exact ⟨i, j, rfl, rfl, h i j hc, .inl (q _ _ _ r (Stay.refl _ _) ox_int)⟩
    · cases e
  · cases e
theorem os_I0 {f : Int → Int → Int} : OpS X (rI0 fun i j => .int (f i j)) (gI (fun _ _ => true) fun i j => .int (f i j)) := fun H0 α0 σ H α s x y a b d Q r rx ry e q => by
  unfold gI at e
  split at e
  · rename_i i j
    simp only [if_true, Option.some.injEq] at e
    subst e
    rw [rx_int rx, rx_int ry]
    exact ⟨i, j, rfl, rfl, .inl (q _ _ _ r (Stay.refl _ _) ox_int)⟩
  · cases e
theorem os_B0 {f : Int → Int → Bool} : OpS X (rI0 fun i j => .bl (f i j)) (gI (fun _ _ => true) fun i j => .bl (f i j)) := fun H0 α0 σ H α s x y a b d Q r rx ry e q => by
  unfold gI at e
  split at e
  · rename_i i j
    simp only [if_true, Option.some.injEq] at e
    subst e
    rw [rx_int rx, rx_int ry]
    exact ⟨i, j, rfl, rfl, .inl (q _ _ _ r (Stay.refl _ _) ox_bl)⟩
  · cases e
/-! the sizes that the machine takes -/
def fdivOk (i j : Int) : Bool := j != 0 && !Builtin.divisionGoesByPylong i j
def powOk (i j : Int) : Bool := decide (0 ≤ j) && !Builtin.Int.intTooBig (((Builtin.Int.intBits i : Nat) : Int) * j)
def mulOk (i j : Int) : Bool := decide (i.natAbs.log2 + j.natAbs.log2 < 100000000)
theorem mulOk_ok {i j : Int} (h : mulOk i j = true) : IntMulOk i j := by
  have h := of_decide_eq_true h
  have b : ∀ x : Int, Builtin.Int.intBits x ≤ x.natAbs.log2 + 1 := fun x => by
    unfold Builtin.Int.intBits
    split <;> omega
  have h1 := b i
  have h2 := b j
  have e : bitsLine = 134217728 := by decide
  unfold IntMulOk
  intro z
  rw [Bool.and_eq_true] at z
  have z2 := z.2
  unfold Builtin.Int.intTooBig at z2
  have z3 := of_decide_eq_true z2
  rw [e] at z3
  omega
theorem op_fdivX : OpR X (binaryOp .FloorDiv) (rI (fun i j => fdivOk i j = true) fun i j => .int (i.fdiv j)) := opI fun i j _ _ _ _ _ hc q => by
  unfold fdivOk at hc
  rw [Bool.and_eq_true] at hc
  exact floordiv_int (by simpa using hc.1) q (.inl (by simpa using hc.2))
theorem op_mulY : OpR X (binaryOp .Mult) (rI (fun i j => mulOk i j = true) fun i j => .int (i * j)) := opI fun _ _ _ _ _ _ _ hc q => mul_int q (mulOk_ok hc)
theorem op_powX : OpR X (binaryOp .Pow) (rI (fun i j => powOk i j = true) fun i j => .int (i ^ j.toNat)) := opI fun i j _ _ s Q E hc q => by
  unfold powOk at hc
  rw [Bool.and_eq_true] at hc
  have h0 : 0 ≤ j := of_decide_eq_true hc.1
  have hb : Builtin.Int.intTooBig (((Builtin.Int.intBits i : Nat) : Int) * j) = false := by simpa using hc.2
  refine AutoIntOpsIf.pow ?_
  rw [if_pos h0]
  by_cases e0 : (j == 0) = true
  · rw [if_pos e0]
    have e : j = 0 := by simpa using e0
    subst e
    simpa [Made.post] using q
  · rw [if_neg e0]
    by_cases e1 : (i == 0 || i == 1) = true
    · rw [if_pos e1]
      have hj : j.toNat ≠ 0 := by
        have : j ≠ 0 := by simpa using e0
        omega
      have e : i ^ j.toNat = i := by
        rcases (by simpa using e1 : i = 0 ∨ i = 1) with rfl | rfl
        · exact Int.zero_pow hj
        · exact Int.one_pow
      rw [e] at q
      simpa [Made.post] using q
    · rw [if_neg e1]
      by_cases e2 : (i == -1) = true
      · rw [if_pos e2]
        have ei : i = -1 := by simpa using e2
        subst ei
        have e : (-1 : Int) ^ j.toNat = if (j % 2 == 0) = true then 1 else -1 := by
          have key : ∀ n : Nat, (-1 : Int) ^ n = if n % 2 = 0 then 1 else -1 := by
            intro n
            induction n with
            | zero => rfl
            | succ n ih =>
              rw [Int.pow_succ, ih]
              split <;> split <;> omega
          rw [key]
          by_cases hj : j % 2 = 0
          · rw [if_pos (by omega), if_pos (by simp [hj])]
          · rw [if_neg (by omega), if_neg (by simp [hj])]
        rw [e] at q
        simpa [Made.post] using q
      · rw [if_neg e2, if_neg (by rw [hb]; decide)]
        simpa [Made.post] using q
end
/-! ### 12. Texts, tuples, lists put together -/
def gAdd : S → D → D → Option D := fun s a b => match a, b with
  | .int i, .int j => some (.int (i + j))
  | .str x, .str y => if x.length + y.length ≤ 16777216 then some (.str (x ++ y)) else none
  | .tup x, .tup y => if x.length + y.length ≤ 16777216 then some (.tup (x ++ y)) else none
  | a, b => match asL s a, asL s b with
    | some x, some y => if x.length + y.length ≤ 16777216 then some (.lst (x ++ y)) else none
    | _, _ => none
def rCatS (K : PySem.W.Frag) : R2 := fun x y H Q => ∃ l b xs zs, x = .ref l ∧ y = .ref b ∧ SqL K H l xs ∧ SqL K H b zs ∧ xs.length + zs.length ≤ sizeLine ∧ ∀ p, H p = none → Q (.ref p) (upd H p (.lst (xs ++ zs)))
def rAddS : R2 := fun x y H Q => ∃ i j, x = .str i ∧ y = .str j ∧ i.length + j.length ≤ sizeLine ∧ Q (.str (i ++ j)) H
section
variable {X : Cx}
theorem op_catS : OpR X (binaryOp .Add) (rCatS X.K) := by
  intro pins s σ H x y v u Q I rx ry h
  obtain ⟨l, b, xs, zs, rfl, rfl, hH, hB, hz, q⟩ := h
  cases rx
  cases ry
  obtain ⟨its, r, hl, _⟩ := I.list hH
  obtain ⟨its2, r2, hl2, _⟩ := I.list hB
  obtain ⟨⟨cls, dd, data, sl⟩, ho, hc, n, hd⟩ := hl.isList
  obtain ⟨⟨cls2, dd2, data2, sl2⟩, ho2, hc2, n2, hd2⟩ := hl2.isList
  simp only at hc hd hc2 hd2
  subst hc hd hc2 hd2
  have e : its.toArray ++ its2.toArray = (its ++ its2).toArray := by simp
  have e1 := r.length
  have e2 := r2.length
  refine concat_meets ⟨_, ho, rfl⟩ ⟨_, ho2, rfl⟩ noFill_list_add seq_list_add PySem.F.slot_list_add PySem.F.entry_list_add (PySem.F.args_list_add_2 _ _) (list_addW l b its.toArray its2.toArray n n2 dd dd2 sl sl2 (by simp only [List.size_toArray]; omega)) ⟨ho, ho2, ?_⟩
  rw [e]
  exact ⟨.ref _, _, I.lnew (t' := s.toks) (r.append r2) (by rw [List.length_append]; omega), rfl, q _ I.fresh⟩
def rAdd4 (K : PySem.W.Frag) : R2 := fun x y H Q => rI0 (fun i j => .int (i + j)) x y H Q ∨ rAddS x y H Q ∨ rCatA K x y H Q ∨ rCatS K x y H Q
theorem op_add4 : OpR X (binaryOp .Add) (rAdd4 X.K) := op_add.or (OpR.or (r := rAddS) op_add_str (op_catA.or op_catS))
theorem Rvs.nil_iff {K : PySem.W.Frag} {H : Hp} {α : List Addr} {ds : List D} {vs : List V} (h : Rvs K H α ds vs) : vs = [] ↔ ds = [] := by
  have e := h.length
  constructor
  · intro q; rw [q] at e; exact List.eq_nil_of_length_eq_zero e.symm
  · intro q; rw [q] at e; exact List.eq_nil_of_length_eq_zero e
theorem os_add : OpS X (rAdd4 X.K) gAdd := fun H0 α0 σ H α s x y a b d Q r rx ry e q => by
  unfold gAdd at e
  split at e
  · cases e
    rw [rx_int rx, rx_int ry]
    exact .inl ⟨_, _, rfl, rfl, .inl (q _ _ _ r (Stay.refl _ _) ox_int)⟩
  · split at e
    · rename_i hz
      cases e
      rw [← sizeLine_eq] at hz
      rw [rx_str rx, rx_str ry]
      exact .inr (.inl ⟨_, _, rfl, rfl, hz, .inl (q _ _ _ r (Stay.refl _ _) ox_str)⟩)
    · cases e
  · split at e
    · rename_i u w hz
      cases e
      rw [← sizeLine_eq] at hz
      obtain ⟨p, vs, rfl, h1, r1⟩ := asT_ok rx
      obtain ⟨p2, vs2, rfl, h2, r2⟩ := asT_ok ry
      refine .inr (.inr (.inl ⟨p, p2, vs, vs2, rfl, rfl, h1, h2, by rw [r1.length, r2.length]; exact hz, fun e => ?_, fun _ e => ?_, fun n1 n2 l hl => ?_⟩))
      · have e' := r1.nil_iff.mp e
        subst e'
        exact .inl (q _ _ _ r (Stay.refl _ _) ry)
      · have e' := r2.nil_iff.mp e
        subst e'
        rw [List.append_nil] at q
        exact .inl (q _ _ _ r (Stay.refl _ _) rx)
      · exact .inl (new_tup r hl (r1.append r2) q)
    · cases e
  · split at e
    · rename_i u w e1 e2
      split at e
      · rename_i hz
        cases e
        rw [← sizeLine_eq] at hz
        obtain ⟨p, vs, rfl, h1, r1⟩ := asL_ok r rx e1
        obtain ⟨p2, vs2, rfl, h2, r2⟩ := asL_ok r ry e2
        exact .inr (.inr (.inr ⟨p, p2, vs, vs2, rfl, rfl, h1, h2, by rw [r1.length, r2.length]; exact hz, fun l hl => gh_list r hl (r1.append r2) q⟩))
      · cases e
    · cases e
theorem pd_add {a b : Expr} {pos : Pos} {fa fb : FE} (ha : PED X a fa) (hb : PED X b fb) : PED X (.BinOp a .Add b pos) (dOp gAdd fa fb) := pd_op op_add4 os_add ha hb
abbrev gSub := gI (fun _ _ => true) fun i j => .int (i - j)
abbrev gFdiv := gI fdivOk fun i j => .int (i.fdiv j)
abbrev gMod := gI (fun _ j => j != 0) fun i j => .int (i.fmod j)
abbrev gPow := gI powOk fun i j => .int (i ^ j.toNat)
theorem pd_sub {a b : Expr} {pos : Pos} {fa fb : FE} (ha : PED X a fa) (hb : PED X b fb) : PED X (.BinOp a .Sub b pos) (dOp gSub fa fb) := pd_op op_sub os_I0 ha hb
theorem pd_fdiv {a b : Expr} {pos : Pos} {fa fb : FE} (ha : PED X a fa) (hb : PED X b fb) : PED X (.BinOp a .FloorDiv b pos) (dOp gFdiv fa fb) := pd_op op_fdivX (os_I fun _ _ h => h) ha hb
theorem pd_mod {a b : Expr} {pos : Pos} {fa fb : FE} (ha : PED X a fa) (hb : PED X b fb) : PED X (.BinOp a .Mod b pos) (dOp gMod fa fb) := pd_op op_modN (os_I fun _ _ h => by simpa using h) ha hb
theorem pd_pow {a b : Expr} {pos : Pos} {fa fb : FE} (ha : PED X a fa) (hb : PED X b fb) : PED X (.BinOp a .Pow b pos) (dOp gPow fa fb) := pd_op op_powX (os_I fun _ _ h => h) ha hb
end
end DL

namespace DL
open PySem PySem.Spec PyProof.Rows L2
/-! ### 13. Data as the library has it -/
mutual
def toPy : D → Option PyData
  | .non => some .none
  | .bl b => some (.bool b)
  | .int i => some (.int i)
  | .str x => some (.str x)
  | .tup xs => (toPyL xs).map .tuple
  | .lst xs => (toPyL xs).map .list
  | .dct kvs => (toPyK kvs).map .dict
  | _ => none
def toPyL : List D → Option (List PyData)
  | [] => some []
  | x :: xs => match toPy x, toPyL xs with | some y, some ys => some (y :: ys) | _, _ => none
def toPyK : List (D × D) → Option (List (PyData × PyData))
  | [] => some []
  | (k, x) :: xs => match toPy k, toPy x, toPyK xs with | some q, some y, some ys => some ((q, y) :: ys) | _, _, _ => none
end
/-- through a slot or a shared cell -/
def toPyS (s : S) (d : D) : Option PyData := match d with
  | .own _ | .ref _ => (asL s d).bind fun xs => (toPyL xs).map .list
  | d => toPy d
section
variable {X : Cx} {pins : List (Addr × Obj)} {σ : Sg} {H : Hp} {α : List Addr} {s : Shared}
/-- no list within -/
def keyPy : Key → PyData | .inl i => .int i | .inr x => .str x
theorem readsAll_keys {h : Heap} : ∀ {ks : List Key} {us : List Value}, Paired (fun k u => keyIs k u = true) ks us → ReadsAll h us (ks.map keyPy) []
  | [], _, .nil => .nil
  | k :: ks, u :: us, .cons r t => by
    have q := readsAll_keys (h := h) t
    rcases keyIs_shape r with ⟨i, tk, rfl, rfl⟩ | ⟨x, tk, rfl, rfl⟩
    · exact .cons (.int i tk) q
    · exact .cons (.str x tk) q
theorem toPy_key {k : D} {q : Key} {p : PyData} (h : keyD k = some q) (e : toPy k = some p) : p = keyPy q := by
  cases k <;> simp only [keyD, Option.some.injEq, reduceCtorEq] at h
  · subst h; simp only [toPy, Option.some.injEq] at e; exact e.symm
  · subst h; simp only [toPy, Option.some.injEq] at e; exact e.symm
theorem pairs_keys {P : Program} {w : World} : ∀ {es : List DictEntry} {kvs : List (Key × Value)}, Pairs (mixKind P w) es kvs → Paired (fun k u => keyIs k u = true) (kvs.map (·.1)) (es.map (·.key)) ∧ es.map (·.val) = kvs.map (·.2)
  | [], _, .nil => ⟨.nil, rfl⟩
  | en :: es, _, .cons a b c => by
    obtain ⟨q1, q2⟩ := pairs_keys c
    refine ⟨.cons a q1, ?_⟩
    simp only [List.map_cons, q2, b]
mutual
def noL : D → Bool
  | .tup xs => noLs xs
  | .lst _ => false
  | .dct kvs => noLk kvs
  | _ => true
def noLs : List D → Bool
  | [] => true
  | x :: xs => noL x && noLs xs
def noLk : List (D × D) → Bool
  | [] => true
  | (_, x) :: xs => noL x && noLk xs
end
mutual
theorem reads_ok (I : Inv X pins σ H s) : ∀ (d : D) (v : V) (u : Value) (p : PyData), Rv X.K H α d v → RelV v u → toPy d = some p → ∃ as, Reads s.heap u p as ∧ (noL d = true → sysModules ∉ as)
  | .non, v, u, p, h, r, e => by
    simp only [Rv] at h
    subst h
    cases r
    simp only [toPy, Option.some.injEq] at e
    subst e
    exact ⟨_, .none, fun _ z => nomatch z⟩
  | .bl b, v, u, p, h, r, e => by
    simp only [Rv] at h
    subst h
    cases r
    simp only [toPy, Option.some.injEq] at e
    subst e
    exact ⟨_, .bool b, fun _ z => nomatch z⟩
  | .int i, v, u, p, h, r, e => by
    simp only [Rv] at h
    subst h
    obtain ⟨t, rfl⟩ := r
    simp only [toPy, Option.some.injEq] at e
    subst e
    exact ⟨_, .int i t, fun _ z => nomatch z⟩
  | .str i, v, u, p, h, r, e => by
    simp only [Rv] at h
    subst h
    obtain ⟨t, rfl⟩ := r
    simp only [toPy, Option.some.injEq] at e
    subst e
    exact ⟨_, .str i t, fun _ z => nomatch z⟩
  | .tup xs, v, u, p, h, r, e => by
    simp only [Rv] at h
    obtain ⟨a, vs, rfl, hs, rr⟩ := h
    cases r
    simp only [toPy, Option.map_eq_some_iff] at e
    obtain ⟨ps, e, rfl⟩ := e
    obtain ⟨its, rv, ⟨o, ho, hc, n, hd⟩, _⟩ := I.tuple hs
    obtain ⟨as, q, nl⟩ := readsL_ok I xs vs its ps rr rv e
    exact ⟨as, .tuple ho hc hd (by simpa using q), fun z => nl (by simpa only [noL] using z)⟩
  | .lst xs, v, u, p, h, r, e => by
    simp only [Rv] at h
    obtain ⟨a, vs, rfl, hs, rr⟩ := h
    cases r
    simp only [toPy, Option.map_eq_some_iff] at e
    obtain ⟨ps, e, rfl⟩ := e
    obtain ⟨its, rv, hl, _⟩ := I.list hs.sq
    obtain ⟨o, ho, hc, n, hd⟩ := hl.isList
    obtain ⟨as, q, nl⟩ := readsL_ok I xs vs its ps rr rv e
    exact ⟨_, .list ho hc hd (by simpa using q), fun z => by simp only [noL] at z; cases z⟩
  | .dct kvs, v, u, p, h, r, e => by
    simp only [Rv] at h
    obtain ⟨a, o, rfl, h⟩ := h
    cases r
    simp only [toPy, Option.map_eq_some_iff] at e
    obtain ⟨ps, e, rfl⟩ := e
    rcases h with ⟨kv, hf, rr⟩ | ⟨kv, hf, rr⟩
    · obtain ⟨ns, ho, hx, es, ep, vs, hdt, hsz, hkv, o2, es2, ho2, hx2, hd2, hk2, hp2, nd2⟩ := I.frzK hf
      rw [ho] at ho2
      cases ho2
      rw [hdt] at hd2
      cases hd2
      obtain ⟨pk, pe⟩ := pairs_keys hp2
      obtain ⟨bs, q1, q2, nl⟩ := readsK_ok I kvs kv vs ps rr hkv e
      refine ⟨_, .dict (as := []) (bs := bs) ho hx.1 hdt ?_ ?_, fun z hm => ?_⟩
      · rw [q1]
        exact readsAll_keys pk
      · rw [pe]
        exact q2
      · rcases List.mem_cons.mp hm with z1 | z1
        · rw [← z1] at ns
          simp at ns
        · exact nl (by simpa only [noL] using z) (by simpa using z1)
    · obtain ⟨hd, z0, ns, xs, pr, o2, es, ep, ho, hx, hdt, he, _⟩ := I.hok a _ hf
      rw [hd] at ho
      cases ho
      obtain ⟨as, bs, q1, q2, nl⟩ := readsT_ok I kvs kv xs ps rr pr e
      refine ⟨_, .dict hd hx.1 hdt (as := as) (bs := bs) ?_ ?_, fun z hm => ?_⟩
      · rw [he, List.map_map]
        exact q1
      · rw [he, List.map_map]
        exact q2
      · rcases List.mem_cons.mp hm with z1 | z1
        · rw [← z1] at ns
          simp at ns
        · exact nl (by simpa only [noL] using z) z1
  | .adr _, _, _, _, _, _, e => by simp only [toPy, reduceCtorEq] at e
  | .ty _, _, _, _, _, _, e => by simp only [toPy, reduceCtorEq] at e
  | .ref _, _, _, _, _, _, e => by simp only [toPy, reduceCtorEq] at e
  | .own _, _, _, _, _, _, e => by simp only [toPy, reduceCtorEq] at e
  | .obj _ _, _, _, _, _, _, e => by simp only [toPy, reduceCtorEq] at e
theorem readsL_ok (I : Inv X pins σ H s) : ∀ (ds : List D) (vs : List V) (us : List Value) (ps : List PyData), Rvs X.K H α ds vs → Vals vs us → toPyL ds = some ps → ∃ as, ReadsAll s.heap us ps as ∧ (noLs ds = true → sysModules ∉ as)
  | [], vs, us, ps, h, r, e => by
    simp only [Rvs] at h
    subst h
    cases r
    simp only [toPyL, Option.some.injEq] at e
    subst e
    exact ⟨_, .nil, fun _ z => nomatch z⟩
  | d :: ds, l, us, ps, h, r, e => by
    simp only [Rvs] at h
    obtain ⟨v, vs, rfl, h1, h2⟩ := h
    cases r with
    | cons r1 r2 =>
      simp only [toPyL] at e
      split at e
      · rename_i y ys e1 e2
        cases e
        obtain ⟨as, q1, n1⟩ := reads_ok I d v _ y h1 r1 e1
        obtain ⟨bs, q2, n2⟩ := readsL_ok I ds vs _ ys h2 r2 e2
        refine ⟨_, .cons q1 q2, fun z hm => ?_⟩
        simp only [noLs, Bool.and_eq_true] at z
        rcases List.mem_append.mp hm with z1 | z1
        · exact n1 z.1 z1
        · exact n2 z.2 z1
      · cases e
theorem readsK_ok (I : Inv X pins σ H s) : ∀ (ds : List (D × D)) (kv : List (Key × V)) (vs : List (Key × Value)) (ps : List (PyData × PyData)), Rkv X.K H α ds kv → KV kv vs → toPyK ds = some ps →
    ∃ bs, ps.map (·.1) = (vs.map (·.1)).map keyPy ∧ ReadsAll s.heap (vs.map (·.2)) (ps.map (·.2)) bs ∧ (noLk ds = true → sysModules ∉ bs)
  | [], kv, vs, ps, h, r, e => by
    simp only [Rkv] at h
    subst h
    cases r
    simp only [toPyK, Option.some.injEq] at e
    subst e
    exact ⟨[], rfl, .nil, fun _ z => nomatch z⟩
  | (k, d) :: ds, l, vs, ps, h, r, e => by
    simp only [Rkv] at h
    obtain ⟨q, v, kv, rfl, h0, h1, h2⟩ := h
    cases r with
    | cons r1 r2 =>
      rename_i kv2 vs2
      obtain ⟨k2, u2⟩ := kv2
      simp only [toPyK] at e
      split at e
      · rename_i y0 y ys e0 e1 e2
        cases e
        obtain ⟨as, q1, n1⟩ := reads_ok I d v _ y h1 r1.2 e1
        obtain ⟨bs, qb, q2, n2⟩ := readsK_ok I ds kv vs2 ys h2 r2 e2
        refine ⟨as ++ bs, ?_, .cons q1 q2, fun z hm => ?_⟩
        · simp only [List.map_cons, qb, toPy_key h0 e0]
          rw [show q = k2 from r1.1]
        · simp only [noLk, Bool.and_eq_true] at z
          rcases List.mem_append.mp hm with z1 | z1
          · exact n1 z.1 z1
          · exact n2 z.2 z1
      · cases e
theorem readsT_ok (I : Inv X pins σ H s) : ∀ (ds : List (D × D)) (kv : List (List Key × V)) (xs : List (List Key × Addr × Value)) (ps : List (PyData × PyData)), RkT X.K H α ds kv →
    Paired (fun (p : List Key × V) (q : List Key × Addr × Value) => p.1 = q.1 ∧ H q.2.1 = some (.tup (p.1.map kV)) ∧ RelV p.2 q.2.2) kv xs → toPyK ds = some ps →
    ∃ as bs, ReadsAll s.heap (xs.map ((·.key) ∘ entryOfKey (tupleKind (mixKind X.prog X.w)))) (ps.map (·.1)) as ∧ ReadsAll s.heap (xs.map ((·.val) ∘ entryOfKey (tupleKind (mixKind X.prog X.w)))) (ps.map (·.2)) bs ∧ (noLk ds = true → sysModules ∉ as ++ bs)
  | [], kv, vs, ps, h, r, e => by
    simp only [RkT] at h
    subst h
    cases r
    simp only [toPyK, Option.some.injEq] at e
    subst e
    exact ⟨[], [], .nil, .nil, fun _ z => nomatch z⟩
  | (k, d) :: ds, l, vs, ps, h, r, e => by
    simp only [RkT] at h
    obtain ⟨q, v, kv, rfl, h0, h1, h2⟩ := h
    cases r with
    | cons r1 r2 =>
      rename_i x xs
      obtain ⟨k2, a2, u2⟩ := x
      simp only [toPyK] at e
      split at e
      · rename_i y0 y ys e0 e1 e2
        cases e
        obtain ⟨as, q1, n1⟩ := reads_ok I d v _ y h1 r1.2.2 e1
        obtain ⟨as', bs, qa, qb, n2⟩ := readsT_ok I ds kv xs ys h2 r2 e2
        have kt : Reads s.heap (.ref a2) y0 [] := by
          have hq : H a2 = some (.tup (q.map kV)) := r1.2.1
          obtain ⟨_, its, rv, o, ho, hc, n, hd⟩ := I.hok a2 _ hq
          cases k <;> simp only [keyT, reduceCtorEq] at h0
          rename_i ks
          simp only [toPy, Option.map_eq_some_iff] at e0
          obtain ⟨ps0, e0, rfl⟩ := e0
          refine .tuple ho hc hd ?_
          simp only [List.toList_toArray]
          clear hd
          have gen : ∀ (ks : List D) (q : List Key) (its : List Value) (ps0 : List PyData), ks.mapM keyD = some q → Vals (q.map kV) its → toPyL ks = some ps0 → ReadsAll s.heap its ps0 [] := by
            intro ks
            induction ks with
            | nil =>
              intro q its ps0 h0 rv e0
              simp only [List.mapM_nil, Option.pure_def, Option.some.injEq] at h0
              subst h0
              cases rv
              simp only [toPyL, Option.some.injEq] at e0
              subst e0
              exact .nil
            | cons k ks ih =>
              intro q its ps0 h0 rv e0
              rw [List.mapM_cons] at h0
              cases hk : keyD k with
              | none => rw [hk] at h0; cases h0
              | some k1 =>
                rw [hk] at h0
                cases hks : ks.mapM keyD with
                | none => rw [hks] at h0; cases h0
                | some ks1 =>
                  rw [hks] at h0
                  cases h0
                  simp only [List.map_cons] at rv
                  cases rv with
                  | cons ra rb =>
                    simp only [toPyL] at e0
                    split at e0
                    · rename_i y ys e1 e2
                      cases e0
                      have ey := toPy_key hk e1
                      subst ey
                      have rest := ih ks1 _ ys hks rb e2
                      cases k1 with
                      | inl i =>
                        obtain ⟨t, rfl⟩ := ra
                        exact .cons (.int i t) rest
                      | inr x =>
                        obtain ⟨t, rfl⟩ := ra
                        exact .cons (.str x t) rest
                    · cases e0
          exact gen ks q its ps0 h0 rv e0
        refine ⟨_, _, .cons kt qa, .cons q1 qb, fun z hm => ?_⟩
        simp only [noLk, Bool.and_eq_true] at z
        rcases List.mem_append.mp hm with z1 | z1
        · exact n2 z.2 (List.mem_append_left _ (by simpa using z1))
        · rcases List.mem_append.mp z1 with z2 | z2
          · exact n1 z.1 z2
          · exact n2 z.2 (List.mem_append_right _ z2)
      · cases e
end
theorem rx_reads {H0 : Hp} {α0 : List Addr} {σ1 : Sg} {st : S} (I : Inv X pins σ H s) (rl : Rel X.K H0 α0 H α σ1 st) {d : D} {v : V} {u : Value} {p : PyData} (h : Rx X.K H α σ1 d v) (r : RelV v u) : toPyS st d = some p → ∃ as, Reads s.heap u p as := by
  have viaL : ∀ d, asL st d ≠ none → Rx X.K H α σ1 d v → ((asL st d).bind fun xs => (toPyL xs).map .list) = some p → ∃ as, Reads s.heap u p as := by
    intro d hn h e
    cases ea : asL st d with
    | none => exact absurd ea hn
    | some xs =>
      rw [ea] at e
      simp only [Option.bind_some, Option.map_eq_some_iff] at e
      obtain ⟨ps, e, rfl⟩ := e
      obtain ⟨a, vs, rfl, hs, rr⟩ := asL_ok rl h ea
      cases r
      obtain ⟨its, rv, hl, _⟩ := I.list hs
      obtain ⟨o, ho, hc, n, hd⟩ := hl.isList
      obtain ⟨as, q, _⟩ := readsL_ok I xs vs its ps rr rv e
      exact ⟨_, .list ho hc hd (by simpa using q)⟩
  intro e
  cases d
  case own i =>
    have e' : ((asL st (.own i)).bind fun xs => (toPyL xs).map .list) = some p := e
    exact viaL _ (fun z => by rw [z] at e'; cases e') h e'
  case ref i =>
    have e' : ((asL st (.ref i)).bind fun xs => (toPyL xs).map .list) = some p := e
    exact viaL _ (fun z => by rw [z] at e'; cases e') h e'
  all_goals
    obtain ⟨as, q, _⟩ := reads_ok I _ v u p h r e
    exact ⟨as, q⟩
end
end DL

namespace DL
open PySem PySem.Spec PyProof.Rows L2
/-! ### 14. Comparisons of data -/
def rDat (K : PySem.W.Frag) (g : PyData → PyData → Option Bool) : R2 := fun x y H Q => ∃ H0 α0 α σ st a b p q r, Rel K H0 α0 H α σ st ∧ Rx K H α σ a x ∧ Rx K H α σ b y ∧ toPyS st a = some p ∧ toPyS st b = some q ∧ g p q = some r ∧ Q (.bl r) H
def gDat (g : PyData → PyData → Option Bool) : S → D → D → Option D := fun s a b => match toPyS s a, toPyS s b with
  | some p, some q => (g p q).map .bl
  | _, _ => none
def eqG (p q : PyData) : Option Bool := if SeqAt.shaped p && SeqAt.shaped q then some (PyData.eqv p q) else none
def neG (p q : PyData) : Option Bool := if SeqAt.shaped p && SeqAt.shaped q then some (!PyData.eqv p q) else none
def inG (p q : PyData) : Option Bool := match q with
  | .list xs => if SeqAt.shaped p && SeqAt.shaped q then some (xs.any fun y => PyData.eqv y p) else none
  | .tuple xs => if SeqAt.shaped p && SeqAt.shaped q then some (xs.any fun y => PyData.eqv y p) else none
  | .str z => (match p with | .str x => some (!(Builtin.Str.occurrences z x 0 z.length 1).isEmpty) | _ => none)
  | _ => none
def niG (p q : PyData) : Option Bool := (inG p q).map not
def isN (_ : S) (a b : D) : Option D := match b with
  | .non => (match a with | .own _ => none | .non => some (.bl true) | _ => some (.bl false))
  | _ => none
def notN (_ : S) (a b : D) : Option D := match b with
  | .non => (match a with | .own _ => none | .non => some (.bl false) | _ => some (.bl true))
  | _ => none
section
variable {X : Cx}
theorem os_dat {g : PyData → PyData → Option Bool} : OpS X (rDat X.K g) (gDat g) := fun H0 α0 σ H α s x y a b d Q r rx ry e q => by
  unfold gDat at e
  split at e
  · rename_i p w e1 e2
    simp only [Option.map_eq_some_iff] at e
    obtain ⟨k, e3, rfl⟩ := e
    exact ⟨H0, α0, α, σ, s, a, b, p, w, k, r, rx, ry, e1, e2, e3, .inl (q _ _ _ r (Stay.refl _ _) ox_bl)⟩
  · cases e
theorem op_eqX (hu : X.A.units + 65 < cLine) : OpR X (compareOp .Eq) (rDat X.K eqG) := by
  intro pins s σ H x y v u Q I rx ry h
  obtain ⟨H0, α0, α, σ1, st, a, b, p, q, r, rl, ra, rb, ea, eb, eg, k⟩ := h
  obtain ⟨as, r1⟩ := rx_reads I rl ra rx ea
  obtain ⟨bs, r2⟩ := rx_reads I rl rb ry eb
  unfold eqG at eg
  split at eg
  · rename_i hs
    rw [Bool.and_eq_true] at hs
    cases eg
    exact SeqAt.compareEq_shaped r1 r2 hs.1 hs.2 (by omega) ⟨.bl _, H, I, rfl, k⟩
  · cases eg
theorem op_neX (hu : X.A.units + 65 < cLine) : OpR X (compareOp .NotEq) (rDat X.K neG) := by
  intro pins s σ H x y v u Q I rx ry h
  obtain ⟨H0, α0, α, σ1, st, a, b, p, q, r, rl, ra, rb, ea, eb, eg, k⟩ := h
  obtain ⟨as, r1⟩ := rx_reads I rl ra rx ea
  obtain ⟨bs, r2⟩ := rx_reads I rl rb ry eb
  unfold neG at eg
  split at eg
  · rename_i hs
    rw [Bool.and_eq_true] at hs
    cases eg
    exact SeqAt.compareNe_shaped r1 r2 hs.1 hs.2 (by omega) ⟨.bl _, H, I, rfl, k⟩
  · cases eg
theorem op_inX (hu : X.A.units + 65 < cLine) : OpR X (compareOp .In) (rDat X.K inG) := by
  intro pins s σ H x y v u Q I rx ry h
  obtain ⟨H0, α0, α, σ1, st, a, b, p, q, r, rl, ra, rb, ea, eb, eg, k⟩ := h
  obtain ⟨as, r1⟩ := rx_reads I rl ra rx ea
  obtain ⟨bs, r2⟩ := rx_reads I rl rb ry eb
  unfold inG at eg
  split at eg
  · split at eg
    · rename_i hs
      rw [Bool.and_eq_true] at hs
      cases eg
      exact SeqAt.in_list_reads r2 r1 (SeqAt.canLay_of_shaped hs.2) (SeqAt.canLay_of_shaped hs.1) (room_in_shaped hs.1 hu) ⟨.bl _, H, I, rfl, k⟩
    · cases eg
  · split at eg
    · rename_i hs
      rw [Bool.and_eq_true] at hs
      cases eg
      exact SeqAt.in_tuple_reads r2 r1 (SeqAt.canLay_of_shaped hs.2) (SeqAt.canLay_of_shaped hs.1) (room_in_shaped hs.1 hu) ⟨.bl _, H, I, rfl, k⟩
    · cases eg
  · split at eg
    · cases eg
      cases r1
      cases r2
      have sx : x = .str _ := RelV.inj rx ⟨_, rfl⟩
      have sy : y = .str _ := RelV.inj ry ⟨_, rfl⟩
      exact op_in_str pins s σ H x y _ _ Q I rx ry ⟨_, _, sx, sy, k⟩
    · cases eg
  · cases eg
theorem op_niX (hu : X.A.units + 65 < cLine) : OpR X (compareOp .NotIn) (rDat X.K niG) := by
  intro pins s σ H x y v u Q I rx ry h
  obtain ⟨H0, α0, α, σ1, st, a, b, p, q, r, rl, ra, rb, ea, eb, eg, k⟩ := h
  obtain ⟨as, r1⟩ := rx_reads I rl ra rx ea
  obtain ⟨bs, r2⟩ := rx_reads I rl rb ry eb
  unfold niG inG at eg
  simp only [Option.map_eq_some_iff] at eg
  obtain ⟨r', eg, rfl⟩ := eg
  split at eg
  · split at eg
    · rename_i hs
      rw [Bool.and_eq_true] at hs
      cases eg
      exact SeqAt.notIn_list_reads r2 r1 (SeqAt.canLay_of_shaped hs.2) (SeqAt.canLay_of_shaped hs.1) (room_in_shaped hs.1 hu) ⟨.bl _, H, I, rfl, k⟩
    · cases eg
  · split at eg
    · rename_i hs
      rw [Bool.and_eq_true] at hs
      cases eg
      exact SeqAt.notIn_tuple_reads r2 r1 (SeqAt.canLay_of_shaped hs.2) (SeqAt.canLay_of_shaped hs.1) (room_in_shaped hs.1 hu) ⟨.bl _, H, I, rfl, k⟩
    · cases eg
  · split at eg
    · cases eg
      cases r1
      cases r2
      have sx : x = .str _ := RelV.inj rx ⟨_, rfl⟩
      have sy : y = .str _ := RelV.inj ry ⟨_, rfl⟩
      exact op_notin_str pins s σ H x y _ _ Q I rx ry ⟨_, _, sx, sy, k⟩
    · cases eg
  · cases eg
theorem rv_ne_non {K : PySem.W.Frag} {H : Hp} {α : List Addr} {d : D} {v : V} (h : Rv K H α d v) (n : d ≠ .non) : v ≠ .non := by
  intro z
  subst z
  cases d <;> simp only [Rv, reduceCtorEq, false_and, and_false, exists_false, exists_const] at h
  exact n rfl
theorem os_isN : OpS X (fun x y H Q => y = .non ∧ Q (.bl (decide (x = .non))) H) isN := fun H0 α0 σ H α s x y a b d Q r rx ry e q => by
  unfold isN at e
  split at e
  · refine ⟨rx_non ry, .inl ?_⟩
    split at e
    · cases e
    · cases e
      rw [rx_non rx]
      exact q _ _ _ r (Stay.refl _ _) ox_bl
    · rename_i n1 n2
      cases e
      have h := rv_ne_non (rx.rv (fun i z => n1 i z)) n2
      rw [decide_eq_false h]
      exact q _ _ _ r (Stay.refl _ _) ox_bl
  · cases e
theorem os_notN : OpS X (fun x y H Q => y = .non ∧ Q (.bl (!decide (x = .non))) H) notN := fun H0 α0 σ H α s x y a b d Q r rx ry e q => by
  unfold notN at e
  split at e
  · refine ⟨rx_non ry, .inl ?_⟩
    split at e
    · cases e
    · cases e
      rw [rx_non rx]
      exact q _ _ _ r (Stay.refl _ _) ox_bl
    · rename_i n1 n2
      cases e
      have h := rv_ne_non (rx.rv (fun i z => n1 i z)) n2
      rw [decide_eq_false h]
      exact q _ _ _ r (Stay.refl _ _) ox_bl
  · cases e
end
/-- an operator's rule with what it does to data -/
structure Cmp (X : Cx) (op : CmpOp) (g : S → D → D → Option D) : Prop where
  ex : ∃ r, OpR X (compareOp op) r ∧ OpS X r g
section
variable {X : Cx} {hu : X.A.units + 65 < cLine}
abbrev gLt := gI (fun _ _ => true) fun i j => .bl (decide (i < j))
abbrev gLe := gI (fun _ _ => true) fun i j => .bl (decide (i ≤ j))
abbrev gGt := gI (fun _ _ => true) fun i j => .bl (decide (j < i))
abbrev gGe := gI (fun _ _ => true) fun i j => .bl (decide (j ≤ i))
theorem c_lt : Cmp X .Lt gLt := ⟨_, op_lt, os_B0⟩
theorem c_le : Cmp X .LtE gLe := ⟨_, op_le, os_B0⟩
theorem c_gt : Cmp X .Gt gGt := ⟨_, op_gt, os_B0⟩
theorem c_ge : Cmp X .GtE gGe := ⟨_, op_ge, os_B0⟩
theorem c_eq (hu : X.A.units + 65 < cLine) : Cmp X .Eq (gDat eqG) := ⟨_, op_eqX hu, os_dat⟩
theorem c_ne (hu : X.A.units + 65 < cLine) : Cmp X .NotEq (gDat neG) := ⟨_, op_neX hu, os_dat⟩
theorem c_in (hu : X.A.units + 65 < cLine) : Cmp X .In (gDat inG) := ⟨_, op_inX hu, os_dat⟩
theorem c_ni (hu : X.A.units + 65 < cLine) : Cmp X .NotIn (gDat niG) := ⟨_, op_niX hu, os_dat⟩
theorem c_is : Cmp X .Is isN := ⟨_, op_isN, os_isN⟩
theorem c_isnot : Cmp X .IsNot notN := ⟨_, op_notN, os_notN⟩
/-! ### 15. Tests -/
def truthD (s : S) (d : D) : Option Bool := match d with
  | .bl b => some b
  | .int i => some (i != 0)
  | .non => some false
  | .str x => if x.length ≤ 16777216 then some ((x.length : Int) != 0) else none
  | .tup xs => some (!xs.isEmpty)
  | d => (asL s d).map fun xs => !xs.isEmpty
def dTruth (fa : FE) : FT := fun s => (fa s).bind fun d s1 => match truthD s1 d with | some b => .ok b s1 | none => .bad
/-- a comparison, as a test -/
def dCmpT (g : S → D → D → Option D) (fa fb : FE) : FT := fun s => (fa s).bind fun a s1 => (fb s1).bind fun b s2 => match g s2 a b with | some (.bl k) => .ok k s2 | _ => .bad
theorem tru_of {K : PySem.W.Frag} {H0 H : Hp} {α0 α : List Addr} {σ : Sg} {s : S} {d : D} {v : V} {b : Bool} (r : Rel K H0 α0 H α σ s) (h : Rx K H α σ d v) (e : truthD s d = some b) : TruV K v H b := by
  have vl : ∀ d, (asL s d).map (fun xs => !xs.isEmpty) = some b → Rx K H α σ d v → TruV K v H b := by
    intro d e9 h9
    simp only [Option.map_eq_some_iff] at e9
    obtain ⟨xs, e8, e7⟩ := e9
    obtain ⟨a, vs, rfl, hs, rr⟩ := asL_ok r h9 e8
    subst e7
    refine .inl ⟨vs, hs, ?_⟩
    have hl := rr.length
    cases xs <;> cases vs <;> simp_all
  unfold truthD at e
  split at e
  · cases e; rw [rx_bl h]; rfl
  · cases e; rw [rx_int h]; rfl
  · cases e; rw [rx_non h]; rfl
  · split at e
    · rename_i hz
      rw [← sizeLine_eq] at hz
      cases e; rw [rx_str h]; exact ⟨hz, rfl⟩
    · cases e
  · cases e
    obtain ⟨a, vs, rfl, hs, rr⟩ := asT_ok h
    refine .inr (.inl ⟨vs, hs, ?_⟩)
    have hl := rr.length
    rename_i xs
    cases xs <;> cases vs <;> simp_all
  · exact vl _ e h
theorem PostT.mono {K : PySem.W.Frag} {H0 : Hp} {α0 : List Addr} {σ : Sg} {W : WX} {H H1 : Hp} {α α1 : List Addr} {Q : Bool → Hp → Prop} (t : Stay H α H1 α1) {x : Res Bool} (q : PostT K H0 α0 σ W H α Q x) : PostT K H0 α0 σ W H1 α1 Q x := by
  cases x with
  | ok d s' => exact fun H' α' r t' => q H' α' r (t.trans t')
  | exc e s' => exact q
  | bad => exact q
theorem pt_tr {a : Expr} {fa : FE} (ha : PED X a fa) (he : ∀ whole, isTrue a X.env whole = (do let v ← whole; standAt a.pos; holding [v] (truthy v)) := by intro _; rfl) : PTD X a (dTruth fa) := by
  refine ⟨fun W tk => ?_⟩
  obtain ⟨ta, pa, qa⟩ := ha.run W tk
  refine ⟨_, pt_truth pa he, fun H0 α0 σ H α s Q r q => qa H0 α0 σ H α s _ r ?_⟩
  unfold dTruth at q
  cases ea : fa s with
  | bad => rw [ea] at q; exact q.elim
  | exc e s1 => rw [ea] at q; exact q
  | ok d s1 =>
    rw [ea] at q
    simp only [Res.bind] at q
    intro v H1 α1 r1 t1 rv
    cases et : truthD s1 d with
    | none => rw [et] at q; exact q.elim
    | some b =>
      rw [et] at q
      exact ⟨b, tru_of r1 rv et, q H1 α1 r1 t1⟩
theorem pt_cm {op : CmpOp} {a b : Expr} {pos : Pos} {g : S → D → D → Option D} {fa fb : FE} (c : Cmp X op g) (ha : PED X a fa) (hb : PED X b fb) (hm : behindInMarks op b = false := by first | exact nomark _ | rfl) : PTD X (.Compare a [op] [b] pos) (dCmpT g fa fb) := by
  obtain ⟨r, ho, hs⟩ := c.ex
  refine ⟨fun W tk => ?_⟩
  obtain ⟨ta, pa, qa⟩ := ha.run W tk
  obtain ⟨tb, pb, qb⟩ := hb.run W tk
  refine ⟨_, pt_cmpR (opGh ho) pa pb hm, fun H0 α0 σ H α s Q rl q => ?_⟩
  unfold dCmpT at q
  refine qa H0 α0 σ H α s _ rl ?_
  cases ea : fa s with
  | bad => rw [ea] at q; exact q.elim
  | exc e s1 => rw [ea] at q; exact q
  | ok u s1 =>
    rw [ea] at q
    intro x H1 α1 r1 t1 rx
    refine qb H0 α0 σ H1 α1 s1 _ r1 ?_
    simp only [Res.bind] at q
    cases eb : fb s1 with
    | bad => rw [eb] at q; exact q.elim
    | exc e s2 => rw [eb] at q; exact q
    | ok w s2 =>
      rw [eb] at q
      intro y H2 α2 r2 t2 ry
      simp only at q
      split at q
      · rename_i k eg
        refine hs H0 α0 σ H2 α2 s2 x y u w _ _ r2 (rx.stay t2) ry eg fun v H' α' r' t' rv => ?_
        exact ⟨k, rx_bl rv, q H' α' r' ((t1.trans t2).trans t')⟩
      · exact q.elim
theorem pd_cm {op : CmpOp} {a b : Expr} {pos : Pos} {g : S → D → D → Option D} {fa fb : FE} (c : Cmp X op g) (ha : PED X a fa) (hb : PED X b fb) (hm : behindInMarks op b = false := by first | exact nomark _ | rfl) : PED X (.Compare a [op] [b] pos) (dOp g fa fb) := by
  obtain ⟨r, ho, hs⟩ := c.ex
  exact pd_cmp ho hs ha hb hm
def dNotT (fa : FT) : FT := fun s => (fa s).bind fun b s1 => .ok (!b) s1
theorem pt_nt {a : Expr} {pos : Pos} {fa : FT} (ha : PTD X a fa) : PTD X (.UnaryOp .Not a pos) (dNotT fa) := by
  refine ⟨fun W tk => ?_⟩
  obtain ⟨ta, pa, qa⟩ := ha.run W tk
  refine ⟨_, pt_not pa, fun H0 α0 σ H α s Q r q => qa H0 α0 σ H α s _ r ?_⟩
  unfold dNotT at q
  cases ea : fa s with
  | bad => rw [ea] at q; exact q.elim
  | exc e s1 => rw [ea] at q; exact q
  | ok d s1 =>
    rw [ea] at q
    exact fun H1 α1 r1 t1 => q H1 α1 r1 t1
/-- and, or: as a test; the rest is a test whatever its whole is -/
structure PWD (X : Cx) (e : Expr) (f : FT) : Prop where
  run : ∀ W, Takes X W → ∃ t, PW X e t ∧ ∀ H0 α0 σ H α s Q, Rel X.K H0 α0 H α σ s → PostT X.K H0 α0 σ W H α Q (f s) → t σ H Q
theorem PWD.pt {e : Expr} {f : FT} (h : PWD X e f) : PTD X e f := ⟨fun W tk => let ⟨t, p, q⟩ := h.run W tk; ⟨t, p.pt, q⟩⟩
def dAndT (fa fb : FT) : FT := fun s => (fa s).bind fun b s1 => if b then fb s1 else .ok false s1
def dOrT (fa fb : FT) : FT := fun s => (fa s).bind fun b s1 => if b then .ok true s1 else fb s1
variable {a b : Expr} {rest : List Expr} {pos : Pos}
theorem pw_a1 {fa : FT} (ha : PTD X a fa) : PWD X (.BoolOp .And [a] pos) fa := ⟨fun W tk => let ⟨t, p, q⟩ := ha.run W tk; ⟨t, pw_and1 p, q⟩⟩
theorem pw_o1 {fa : FT} (ha : PTD X a fa) : PWD X (.BoolOp .Or [a] pos) fa := ⟨fun W tk => let ⟨t, p, q⟩ := ha.run W tk; ⟨t, pw_or1 p, q⟩⟩
theorem pw_a {fa fb : FT} (ha : PTD X a fa) (hb : PWD X (.BoolOp .And (b :: rest) pos) fb) : PWD X (.BoolOp .And (a :: b :: rest) pos) (dAndT fa fb) := by
  refine ⟨fun W tk => ?_⟩
  obtain ⟨ta, pa, qa⟩ := ha.run W tk
  obtain ⟨tb, pb, qb⟩ := hb.run W tk
  refine ⟨_, pw_and pa pb, fun H0 α0 σ H α s Q r q => qa H0 α0 σ H α s _ r ?_⟩
  unfold dAndT at q
  cases ea : fa s with
  | bad => rw [ea] at q; exact q.elim
  | exc e s1 => rw [ea] at q; exact q
  | ok d s1 =>
    rw [ea] at q
    intro H1 α1 r1 t1
    simp only [Res.bind] at q
    cases d with
    | true => exact qb H0 α0 σ H1 α1 s1 Q r1 (PostT.mono t1 q)
    | false => exact q H1 α1 r1 t1
theorem pw_o {fa fb : FT} (ha : PTD X a fa) (hb : PWD X (.BoolOp .Or (b :: rest) pos) fb) : PWD X (.BoolOp .Or (a :: b :: rest) pos) (dOrT fa fb) := by
  refine ⟨fun W tk => ?_⟩
  obtain ⟨ta, pa, qa⟩ := ha.run W tk
  obtain ⟨tb, pb, qb⟩ := hb.run W tk
  refine ⟨_, pw_or pa pb, fun H0 α0 σ H α s Q r q => qa H0 α0 σ H α s _ r ?_⟩
  unfold dOrT at q
  cases ea : fa s with
  | bad => rw [ea] at q; exact q.elim
  | exc e s1 => rw [ea] at q; exact q
  | ok d s1 =>
    rw [ea] at q
    intro H1 α1 r1 t1
    simp only [Res.bind] at q
    cases d with
    | false => exact qb H0 α0 σ H1 α1 s1 Q r1 (PostT.mono t1 q)
    | true => exact q H1 α1 r1 t1
/-! as values -/
def dAndV (fa fb : FE) : FE := fun s => (fa s).bind fun d s1 => match truthD s1 d with | some true => fb s1 | some false => .ok d s1 | none => .bad
def dOrV (fa fb : FE) : FE := fun s => (fa s).bind fun d s1 => match truthD s1 d with | some true => .ok d s1 | some false => fb s1 | none => .bad
def dNotV (fa : FE) : FE := fun s => (fa s).bind fun d s1 => match truthD s1 d with | some b => .ok (.bl (!b)) s1 | none => .bad
theorem pd_one {op} {fa : FE} (h : PED X a fa) : PED X (.BoolOp op [a] pos) fa := ⟨fun W tk => let ⟨t, p, q⟩ := h.run W tk; ⟨t, pe_one p, q⟩⟩
theorem pd_and {fa fb : FE} (ha : PED X a fa) (hb : PED X (.BoolOp .And (b :: rest) pos) fb) : PED X (.BoolOp .And (a :: b :: rest) pos) (dAndV fa fb) := by
  refine ⟨fun W tk => ?_⟩
  obtain ⟨ta, pa, qa⟩ := ha.run W tk
  obtain ⟨tb, pb, qb⟩ := hb.run W tk
  refine ⟨_, pe_andT pa pb, fun H0 α0 σ H α s Q r q => qa H0 α0 σ H α s _ r ?_⟩
  unfold dAndV at q
  cases ea : fa s with
  | bad => rw [ea] at q; exact q.elim
  | exc e s1 => rw [ea] at q; exact q
  | ok d s1 =>
    rw [ea] at q
    intro v H1 α1 r1 t1 rv
    simp only [Res.bind] at q
    cases et : truthD s1 d with
    | none => rw [et] at q; exact q.elim
    | some k =>
      rw [et] at q
      refine ⟨k, tru_of r1 rv et, ?_⟩
      cases k with
      | true => rw [if_pos rfl]; exact qb H0 α0 σ H1 α1 s1 Q r1 (PostE.mono t1 q)
      | false => rw [if_neg (by decide)]; exact q v H1 α1 r1 t1 rv
theorem pd_or {fa fb : FE} (ha : PED X a fa) (hb : PED X (.BoolOp .Or (b :: rest) pos) fb) : PED X (.BoolOp .Or (a :: b :: rest) pos) (dOrV fa fb) := by
  refine ⟨fun W tk => ?_⟩
  obtain ⟨ta, pa, qa⟩ := ha.run W tk
  obtain ⟨tb, pb, qb⟩ := hb.run W tk
  refine ⟨_, pe_orT pa pb, fun H0 α0 σ H α s Q r q => qa H0 α0 σ H α s _ r ?_⟩
  unfold dOrV at q
  cases ea : fa s with
  | bad => rw [ea] at q; exact q.elim
  | exc e s1 => rw [ea] at q; exact q
  | ok d s1 =>
    rw [ea] at q
    intro v H1 α1 r1 t1 rv
    simp only [Res.bind] at q
    cases et : truthD s1 d with
    | none => rw [et] at q; exact q.elim
    | some k =>
      rw [et] at q
      refine ⟨k, tru_of r1 rv et, ?_⟩
      cases k with
      | true => rw [if_pos rfl]; exact q v H1 α1 r1 t1 rv
      | false => rw [if_neg (by decide)]; exact qb H0 α0 σ H1 α1 s1 Q r1 (PostE.mono t1 q)
theorem pd_not {fa : FE} (ha : PED X a fa) : PED X (.UnaryOp .Not a pos) (dNotV fa) := by
  refine ⟨fun W tk => ?_⟩
  obtain ⟨ta, pa, qa⟩ := ha.run W tk
  refine ⟨_, pe_notT pa, fun H0 α0 σ H α s Q r q => qa H0 α0 σ H α s _ r ?_⟩
  unfold dNotV at q
  cases ea : fa s with
  | bad => rw [ea] at q; exact q.elim
  | exc e s1 => rw [ea] at q; exact q
  | ok d s1 =>
    rw [ea] at q
    intro v H1 α1 r1 t1 rv
    simp only [Res.bind] at q
    cases et : truthD s1 d with
    | none => rw [et] at q; exact q.elim
    | some k =>
      rw [et] at q
      exact ⟨k, tru_of r1 rv et, q _ H1 α1 r1 t1 ox_bl⟩
/-- a if t else b -/
def dIf (ft : FT) (fa fb : FE) : FE := fun s => (ft s).bind fun b s1 => if b then fa s1 else fb s1
theorem pd_if {c : Expr} {ft : FT} {fa fb : FE} (hc : PTD X c ft) (ha : PED X a fa) (hb : PED X b fb) : PED X (.IfExp c a b pos) (dIf ft fa fb) := by
  refine ⟨fun W tk => ?_⟩
  obtain ⟨tc, pc, qc⟩ := hc.run W tk
  obtain ⟨ta, pa, qa⟩ := ha.run W tk
  obtain ⟨tb, pb, qb⟩ := hb.run W tk
  refine ⟨_, pe_ifExp pc pa pb, fun H0 α0 σ H α s Q r q => qc H0 α0 σ H α s _ r ?_⟩
  unfold dIf at q
  cases ec : ft s with
  | bad => rw [ec] at q; exact q.elim
  | exc e s1 => rw [ec] at q; exact q
  | ok k s1 =>
    rw [ec] at q
    intro H1 α1 r1 t1
    simp only [Res.bind] at q
    cases k with
    | true => rw [if_pos rfl]; exact qa H0 α0 σ H1 α1 s1 Q r1 (PostE.mono t1 q)
    | false => rw [if_neg (by decide)]; exact qb H0 α0 σ H1 α1 s1 Q r1 (PostE.mono t1 q)
end
end DL

namespace DL
open PySem PySem.Spec PyProof.Rows L2
/-! ### 16. Arguments, displays -/
def noOwn : D → Bool | .own _ => false | _ => true
def dNil : FA := fun s => .ok [] s
def dCons (fa : FE) (fr : FA) : FA := fun s => (fa s).bind fun d s1 => (fr s1).bind fun ds s2 => .ok (d :: ds) s2
section
variable {X : Cx}
theorem PostA.mono {K : PySem.W.Frag} {H0 : Hp} {α0 : List Addr} {σ : Sg} {W : WX} {H H1 : Hp} {α α1 : List Addr} {Q : List V → Hp → Prop} (t : Stay H α H1 α1) {x : Res (List D)} (q : PostA K H0 α0 σ W H α Q x) : PostA K H0 α0 σ W H1 α1 Q x := by
  cases x with
  | ok d s' => exact fun v H' α' r t' rx => q v H' α' r (t.trans t') rx
  | exc e s' => exact q
  | bad => exact q
theorem Rxs.stay {K : PySem.W.Frag} {H H' : Hp} {α α' : List Addr} {σ : Sg} (t : Stay H α H' α') {ds : List D} {vs : List V} (h : Rxs K H α σ ds vs) : Rxs K H' α' σ ds vs := Paired.mapP h fun _ _ q => q.stay t
theorem Rxs.rvs {K : PySem.W.Frag} {H : Hp} {α : List Addr} {σ : Sg} : ∀ {ds : List D} {vs : List V}, Rxs K H α σ ds vs → ds.all noOwn = true → Rvs K H α ds vs
  | [], _, .nil, _ => Rvs.nil
  | d :: ds, _, .cons a b, n => by
    rw [List.all_cons, Bool.and_eq_true] at n
    exact Rvs.cons (a.rv fun i z => by rw [z] at n; simp [noOwn] at n) (Rxs.rvs b n.2)
theorem Rxs.of {K : PySem.W.Frag} {H : Hp} {α : List Addr} {σ : Sg} : ∀ {ds : List D} {vs : List V}, Rvs K H α ds vs → Rxs K H α σ ds vs
  | [], _, h => by simp only [Rvs] at h; subst h; exact .nil
  | d :: ds, _, h => by
    simp only [Rvs] at h
    obtain ⟨v, r, rfl, h1, h2⟩ := h
    exact .cons (Rv.x h1) (Rxs.of h2)
theorem pa_n : PAD X [] dNil := ⟨fun W _ => ⟨_, pa_nil, fun H0 α0 σ H α s Q r q => q [] H α r (Stay.refl _ _) .nil⟩⟩
theorem pa_c {e : Expr} {es : List Expr} {fa : FE} {fr : FA} (ha : PED X e fa) (hr : PAD X es fr) (hs : starEach (e :: es) X.env = (false, eval e X.env) :: starEach es X.env := by rfl) : PAD X (e :: es) (dCons fa fr) := by
  refine ⟨fun W tk => ?_⟩
  obtain ⟨ta, pa, qa⟩ := ha.run W tk
  obtain ⟨tr, pr, qr⟩ := hr.run W tk
  refine ⟨_, pa_cons pa pr hs, fun H0 α0 σ H α s Q r q => qa H0 α0 σ H α s _ r ?_⟩
  unfold dCons at q
  cases ea : fa s with
  | bad => rw [ea] at q; exact q.elim
  | exc e s1 => rw [ea] at q; exact q
  | ok d s1 =>
    rw [ea] at q
    intro x H1 α1 r1 t1 rx
    simp only [Res.bind] at q
    refine qr H0 α0 σ H1 α1 s1 _ r1 ?_
    cases er : fr s1 with
    | bad => rw [er] at q; exact q.elim
    | exc e s2 => rw [er] at q; exact q
    | ok ds s2 =>
      rw [er] at q
      exact fun xs H2 α2 r2 t2 rxs => q (x :: xs) H2 α2 r2 (t1.trans t2) (.cons (rx.stay t2) rxs)
def dTup (fa : FA) : FE := fun s => (fa s).bind fun ds s1 => if ds.all noOwn && decide (ds.length ≤ 16777216) then .ok (.tup ds) s1 else .bad
theorem pd_tup {es : List Expr} {x1} {pos : Pos} {fa : FA} (ha : PAD X es fa) : PED X (.Tuple es x1 pos) (dTup fa) := by
  refine ⟨fun W tk => ?_⟩
  obtain ⟨ta, pa, qa⟩ := ha.run W tk
  refine ⟨_, pe_tup pa, fun H0 α0 σ H α s Q r q => qa H0 α0 σ H α s _ r ?_⟩
  unfold dTup at q
  cases ea : fa s with
  | bad => rw [ea] at q; exact q.elim
  | exc e s1 => rw [ea] at q; exact q
  | ok ds s1 =>
    rw [ea] at q
    intro xs H1 α1 r1 t1 rx
    simp only [Res.bind] at q
    split at q
    · rename_i hc
      rw [Bool.and_eq_true] at hc
      have rr := rx.rvs hc.1
      refine ⟨by rw [rr.length, sizeLine_eq]; exact of_decide_eq_true hc.2, fun p hp => ?_⟩
      exact new_tup r1 hp rr fun v H' α' r' t' rv => q v H' α' r' (t1.trans t') rv
    · exact q.elim
/-- a display of a list: a fresh one -/
def dLst (fa : FA) : FC := fun s => (fa s).bind fun ds s1 => if ds.all noOwn && decide (ds.length ≤ 16777216) then .ok (.lst ds) s1 else .bad
theorem new_lst {K : PySem.W.Frag} {H0 H : Hp} {α0 α : List Addr} {σ : Sg} {s : S} {p : Addr} {xs : List D} {vs : List V} {Q : VK} (r : Rel K H0 α0 H α σ s) (h : H p = none) (rr : Rvs K H α xs vs)
    (q : ∀ a H' α', Rel K H0 α0 H' α' σ s → Stay H α H' α' → RF K H0 H' α' σ s a (.lst xs) → Q (.ref a) H') : Q (.ref p) (upd H p (.lst vs)) := by
  have t : Stay H α (upd H p (.lst vs)) α := Stay.upd_new h
  refine q p _ α (r.new h) t ⟨⟨vs, upd_same, Rvs.stay t _ _ rr⟩, r.nota h, r.free0 h, fun i c' h1 h2 => ?_⟩
  obtain ⟨a, e1, _, _, e2⟩ := r.slots.own i c' h1
  rw [h2] at e1
  cases e1
  obtain ⟨o, e3⟩ := e2.some
  rw [h] at e3
  cases e3
theorem pf_lst {es : List Expr} {pos : Pos} {fa : FA} (ha : PAD X es fa) : PFD X (.List es pos) (dLst fa) := by
  refine ⟨fun W tk => ?_⟩
  obtain ⟨ta, pa, qa⟩ := ha.run W tk
  refine ⟨_, pe_lst pa, fun H0 α0 σ H α s Q r q => qa H0 α0 σ H α s _ r ?_⟩
  unfold dLst at q
  cases ea : fa s with
  | bad => rw [ea] at q; exact q.elim
  | exc e s1 => rw [ea] at q; exact q
  | ok ds s1 =>
    rw [ea] at q
    intro xs H1 α1 r1 t1 rx
    simp only [Res.bind] at q
    split at q
    · rename_i hc
      rw [Bool.and_eq_true] at hc
      have rr := rx.rvs hc.1
      refine ⟨by rw [rr.length, sizeLine_eq]; exact of_decide_eq_true hc.2, fun p hp => ?_⟩
      exact new_lst r1 hp rr fun v H' α' r' t' rv => q v H' α' r' (t1.trans t') rv
    · exact q.elim
/-- a fresh thing that is locked at once -/
def dFrz (f : FC) : FE := fun s => (f s).bind fun c s1 => match c with | .dead => .bad | c => .ok c.toD s1
theorem pd_f {e : Expr} {f : FC} (h : PFD X e f) : PED X e (dFrz f) := by
  refine ⟨fun W tk => ?_⟩
  obtain ⟨t, pe, qe⟩ := h.run W tk
  refine ⟨_, peGh pe, fun H0 α0 σ H α s Q r q => qe H0 α0 σ H α s _ r ?_⟩
  unfold dFrz at q
  cases ea : f s with
  | bad => rw [ea] at q; exact q.elim
  | exc e s1 => rw [ea] at q; exact q
  | ok c s1 =>
    rw [ea] at q
    intro a H1 α1 r1 t1 ⟨hc, na, n0, no⟩
    -- the step: H1 with a locked
    have stp : ∀ u o, H1 a = some u → ¬ Fixed u → Stay H1 α1 (upd H1 a (.frz o u)) α1 ∧ Rel X.K H0 α0 (upd H1 a (.frz o u)) α1 σ s1 := fun u o hu nf => by
      have t : Stay H1 α1 (upd H1 a (.frz o u)) α1 := ⟨fun b w hb fb => by
        by_cases e : b = a
        · subst e; rw [hu] at hb; cases hb; exact absurd fb nf
        · rw [upd_ne e]; exact hb, List.prefix_rfl, fun b hb => by
        by_cases e : b = a
        · subst e; rw [upd_same] at hb; cases hb
        · rw [upd_ne e] at hb; exact hb⟩
      refine ⟨t, r1.step t (fun b w hb _ hw => ?_) (fun b w hb _ hb1 => ?_)⟩
      · have e : b ≠ a := fun z => by
          subst z
          rcases hw with z | ⟨i, c', z1, z2⟩
          · exact na z
          · exact no i c' z1 z2
        rw [upd_ne e]; exact hb
      · have e : b ≠ a := fun z => by subst z; rw [n0] at hb; cases hb
        rw [upd_ne e]; exact hb1
    cases c with
    | dead => exact q.elim
    | lst xs =>
      obtain ⟨vs, hv, rr⟩ := hc
      refine .inr ⟨a, .lst vs, hv, trivial, fun o => ?_⟩
      obtain ⟨t, rl⟩ := stp _ o hv (fun z => z)
      refine q _ _ α1 rl (t1.trans t) (Rv.x (d := .lst xs) ?_)
      simp only [Rv]
      exact ⟨a, vs, rfl, .inl ⟨o, upd_same⟩, Rvs.stay t _ _ rr⟩
    | dct kvs =>
      rcases hc with ⟨kv, hv, rr⟩ | ⟨kv, hv, rr⟩
      · refine .inr ⟨a, .dK kv, hv, trivial, fun o => ?_⟩
        obtain ⟨t, rl⟩ := stp _ o hv (fun z => z)
        refine q _ _ α1 rl (t1.trans t) (Rv.x (d := .dct kvs) ?_)
        simp only [Rv]
        exact ⟨a, o, rfl, .inl ⟨kv, upd_same, Rkv.stay t _ _ rr⟩⟩
      · refine .inr ⟨a, .dT kv, hv, trivial, fun o => ?_⟩
        obtain ⟨t, rl⟩ := stp _ o hv (fun z => z)
        refine q _ _ α1 rl (t1.trans t) (Rv.x (d := .dct kvs) ?_)
        simp only [Rv]
        exact ⟨a, o, rfl, .inr ⟨kv, upd_same, RkT.stay t _ _ rr⟩⟩
    | ins C fs =>
      obtain ⟨dx, vs, hv, rr⟩ := hc
      refine .inr ⟨a, .ins C dx vs, hv, trivial, fun o => ?_⟩
      obtain ⟨t, rl⟩ := stp _ o hv (fun z => z)
      refine q _ _ α1 rl (t1.trans t) (Rv.x (d := .obj C fs) ?_)
      simp only [Rv]
      exact ⟨a, o, dx, vs, rfl, upd_same, Rfs.stay t _ _ rr⟩
end
/-! ### 17. Subscripts, slices -/
def strI (z : Str) (i : Int) : Option D := if z.length ≤ 16777216 then (atI z.cps.toList i).map fun c => .str ⟨#[c]⟩ else none
def gIx : S → D → D → Option D := fun s a b => match b with
  | .int i => (match a with
    | .tup xs => atI xs i
    | .str z => strI z i
    | a => (asL s a).bind fun xs => atI xs i)
  | _ => none
section
variable {X : Cx}
theorem ixGh {r : R2} (h : IxR X r) : IxR X (fun x y H Q => r x y H fun v H1 => Gh H1 (Q v)) :=
  fun value slice pins s σ H x y v u Q I rx ry q hs => thn (h value slice pins s σ H x y v u _ I rx ry q hs) fun _ _ e => EP.gh e
theorem Rvs.atI {K : PySem.W.Frag} {H : Hp} {α : List Addr} {ds : List D} {vs : List V} {i : Int} {d : D} (h : Rvs K H α ds vs) (e : atI ds i = some d) : ∃ v, L2.atI vs i = some v ∧ Rv K H α d v := by
  unfold L2.atI at e ⊢
  rw [h.length]
  cases ej : ixN ds.length i with
  | none => rw [ej] at e; cases e
  | some j =>
    rw [ej] at e
    simp only [Option.bind_some] at e ⊢
    exact h.at_ e
theorem os_ix : OpS X (rIx X.K) gIx := fun H0 α0 σ H α s x y a b d Q r rx ry e q => by
  unfold gIx at e
  split at e
  · rename_i i
    rw [rx_int ry]
    split at e
    · obtain ⟨p, vs, rfl, h1, r1⟩ := asT_ok rx
      obtain ⟨v, ev, rv⟩ := r1.atI e
      exact .inr (.inl ⟨p, vs, i, v, rfl, rfl, h1, ev, .inl (q _ _ _ r (Stay.refl _ _) (Rv.x rv))⟩)
    · unfold strI at e
      split at e
      · rename_i hz
        rw [← sizeLine_eq] at hz
        simp only [Option.map_eq_some_iff] at e
        obtain ⟨c, ec, rfl⟩ := e
        rw [rx_str rx]
        exact .inr (.inr ⟨_, i, c, rfl, rfl, hz, ec, .inl (q _ _ _ r (Stay.refl _ _) ox_str)⟩)
      · cases e
    · cases ea : asL s a with
      | none => rw [ea] at e; cases e
      | some xs =>
        rw [ea] at e
        simp only [Option.bind_some] at e
        obtain ⟨p, vs, rfl, h1, r1⟩ := asL_ok r rx ea
        obtain ⟨v, ev, rv⟩ := r1.atI e
        exact .inl ⟨p, vs, i, v, rfl, rfl, h1, ev, .inl (q _ _ _ r (Stay.refl _ _) (Rv.x rv))⟩
  · cases e
theorem pd_ix {a b : Expr} {pos : Pos} {fa fb : FE} (ha : PED X a fa) (hb : PED X b fb) (hs : PlainIx b := by exact fun _ _ => rfl) : PED X (.Subscript a b pos) (dOp gIx fa fb) :=
  pd_opG (fun _ _ pa pb => pe_ix (ixGh ix_seq) pa pb hs) os_ix ha hb
/-- a part of a slice -/
abbrev FO := S → Res (Option Int)
def dNo : FO := fun s => .ok none s
def dPart (f : FE) : FO := fun s => (f s).bind fun d s1 => match d with | .int i => .ok (some i) s1 | _ => .bad
structure POD (X : Cx) (e : Option Expr) (f : FO) : Prop where
  run : ∀ W, Takes X W → ∃ t, PO X e t ∧ ∀ H0 α0 σ H α s (Q : Option Int → Hp → Prop), Rel X.K H0 α0 H α σ s → (match f s with
    | .ok o s' => ∀ H' α', Rel X.K H0 α0 H' α' σ s' → Stay H α H' α' → Q o H'
    | .exc e s' => ∀ cls dd H' α', Rel X.K H0 α0 H' α' σ s' → ExR X.K H' α' e cls dd → W cls dd σ H'
    | .bad => False) → t σ H Q
theorem po_n : POD X none dNo := ⟨fun W _ => ⟨_, po_none, fun H0 α0 σ H α s Q r q => q H α r (Stay.refl _ _)⟩⟩
theorem po_s {e : Expr} {f : FE} (h : PED X e f) : POD X (some e) (dPart f) := by
  refine ⟨fun W tk => ?_⟩
  obtain ⟨t, pe, qe⟩ := h.run W tk
  refine ⟨_, po_some pe, fun H0 α0 σ H α s Q r q => qe H0 α0 σ H α s _ r ?_⟩
  unfold dPart at q
  cases ea : f s with
  | bad => rw [ea] at q; exact q.elim
  | exc e s1 => rw [ea] at q; exact q
  | ok d s1 =>
    rw [ea] at q
    intro v H1 α1 r1 t1 rv
    cases d <;> simp only [Res.bind] at q <;> try exact q.elim
    exact ⟨_, rx_int rv, q H1 α1 r1 t1⟩
def cutD (xs : List D) (lo hi : Option Int) : List D := (xs.drop (HT.sIx xs.length 0 lo)).take (HT.sIx xs.length xs.length hi - HT.sIx xs.length 0 lo)
theorem Rvs.cut {K : PySem.W.Frag} {H : Hp} {α : List Addr} {ds : List D} {vs : List V} (h : Rvs K H α ds vs) (lo hi : Option Int) : Rvs K H α (cutD ds lo hi) (cutV vs lo hi) := by
  unfold cutD cutV
  rw [h.length]
  exact (h.drop _).take _
/-- a[lo:hi] of a tuple or a list -/
def dSl (fa : FE) (fl fh : FO) : FE := fun s => (fa s).bind fun a s1 => (fl s1).bind fun l s2 => (fh s2).bind fun h s3 => match a with
  | .tup xs => .ok (.tup (cutD xs l h)) s3
  | a => (match asL s3 a with | some xs => .ok (.lst (cutD xs l h)) s3 | none => .bad)
theorem slGh {r : V → Option Int → Option Int → Hp → VK → Prop} (h : SlR X r) : SlR X (fun x lo hi H Q => r x lo hi H fun v H1 => Gh H1 (Q v)) :=
  fun pins s σ H x v vl vu lo hi sl Q I rx hs pl pu q => by
    obtain ⟨T, id, e, ty, g⟩ := h pins s σ H x v vl vu lo hi sl _ I rx hs pl pu q
    exact ⟨T, id, e, ty, thn g fun _ _ e => EP.gh e⟩
theorem cutD_whole {xs : List D} {lo hi : Option Int} (h : HT.sIx xs.length 0 lo = 0 ∧ HT.sIx xs.length xs.length hi = xs.length) : cutD xs lo hi = xs := by
  unfold cutD
  rw [h.1, h.2, List.drop_zero, Nat.sub_zero, List.take_length]
theorem pd_sl {e : Expr} {lo hi : Option Expr} {p2 pos : Pos} {fa : FE} {fl fh : FO} (ha : PED X e fa) (hl : POD X lo fl) (hh : POD X hi fh) : PED X (.Subscript e (.Slice lo hi none p2) pos) (dSl fa fl fh) := by
  refine ⟨fun W tk => ?_⟩
  obtain ⟨ta, pa, qa⟩ := ha.run W tk
  obtain ⟨tl, pl, ql⟩ := hl.run W tk
  obtain ⟨th, ph, qh⟩ := hh.run W tk
  refine ⟨_, pe_slice (slGh (sl_tupA.or sl_list)) pa pl ph, fun H0 α0 σ H α s Q r q => qa H0 α0 σ H α s _ r ?_⟩
  unfold dSl at q
  cases ea : fa s with
  | bad => rw [ea] at q; exact q.elim
  | exc e s1 => rw [ea] at q; exact q
  | ok d s1 =>
    rw [ea] at q
    intro x H1 α1 r1 t1 rx
    refine ql H0 α0 σ H1 α1 s1 _ r1 ?_
    simp only [Res.bind] at q
    cases el : fl s1 with
    | bad => rw [el] at q; exact q.elim
    | exc e s2 => rw [el] at q; exact q
    | ok l s2 =>
      rw [el] at q
      intro H2 α2 r2 t2
      refine qh H0 α0 σ H2 α2 s2 _ r2 ?_
      simp only at q
      cases eh : fh s2 with
      | bad => rw [eh] at q; exact q.elim
      | exc e s3 => rw [eh] at q; exact q
      | ok h s3 =>
        rw [eh] at q
        intro H3 α3 r3 t3
        have rx3 := rx.stay (t2.trans t3)
        have t13 := t1.trans (t2.trans t3)
        simp only at q
        split at q
        · obtain ⟨p, vs, rfl, h1, rr⟩ := asT_ok rx3
          refine .inl ⟨p, vs, rfl, h1, fun hw => ?_, fun _ p2 hp => ?_⟩
          · rw [rr.length] at hw
            rw [cutD_whole hw] at q
            exact .inl (q _ H3 α3 r3 t13 rx3)
          · exact .inl (new_tup r3 hp (rr.cut l h) fun v H' α' r' t' rv => q v H' α' r' (t13.trans t') rv)
        · split at q
          · rename_i xs eL
            obtain ⟨p, vs, rfl, h1, rr⟩ := asL_ok r3 rx3 eL
            exact .inr ⟨p, vs, rfl, h1, fun p2 hp => gh_list r3 hp (rr.cut l h) fun v H' α' r' t' rv => q v H' α' r' (t13.trans t') rv⟩
          · exact q.elim
end
end DL

namespace DL
open PySem PySem.Spec PyProof.Rows L2
/-! ### 18. Statements -/
section
variable {X : Cx}
theorem PostS.mono {K : PySem.W.Frag} {H0 : Hp} {α0 : List Addr} {W : WX} {H H1 : Hp} {α α1 : List Addr} {D : Ends} (t : Stay H α H1 α1) {x : SR} (q : PostS K H0 α0 W H α D x) : PostS K H0 α0 W H1 α1 D x := by
  cases x with
  | nx s' => exact fun σ' H' α' r t' => q σ' H' α' r (t.trans t')
  | bk s' => exact fun σ' H' α' r t' => q σ' H' α' r (t.trans t')
  | ct s' => exact fun σ' H' α' r t' => q σ' H' α' r (t.trans t')
  | rt d s' => exact q
  | rtc d s' => exact q
  | exc e s' => exact q
  | bad => exact q
def dSkip : FS := fun s => .nx s
def dSeq (f g : FS) : FS := fun s => match f s with
  | .nx s1 => g s1
  | .rt d s1 => .rt d s1
  | .rtc c s1 => .rtc c s1
  | .bk s1 => .bk s1
  | .ct s1 => .ct s1
  | .exc e s1 => .exc e s1
  | .bad => .bad
theorem sd_pass {pos : Pos} : PSD X (.Pass pos) dSkip := ⟨fun W _ => ⟨_, ps_pass, fun H0 α0 σ H α s D r q => q σ H α r (Stay.refl _ _)⟩⟩
theorem sd_nil : PSsD X [] dSkip := ⟨fun W _ => ⟨_, pss_nil, fun H0 α0 σ H α s D r q => q σ H α r (Stay.refl _ _)⟩⟩
theorem sd_one {st : Stmt} {f : FS} (h : PSD X st f) : PSsD X [st] f := ⟨fun W tk => let ⟨t, p, q⟩ := h.run W tk; ⟨t, pss_one p, q⟩⟩
theorem sd_cons {st : Stmt} {rest : List Stmt} {f g : FS} (h : PSD X st f) (hr : PSsD X rest g) : PSsD X (st :: rest) (dSeq f g) := by
  refine ⟨fun W tk => ?_⟩
  obtain ⟨t, p, q⟩ := h.run W tk
  obtain ⟨u, pu, qu⟩ := hr.run W tk
  refine ⟨_, pss_cons p pu, fun H0 α0 σ H α s D r k => q H0 α0 σ H α s { D with nx := u D } r ?_⟩
  unfold dSeq at k
  cases e : f s <;> rw [e] at k <;> try exact k
  exact fun σ' H' α' r' t' => qu H0 α0 σ' H' α' _ D r' (PostS.mono t' k)
def dBreak : FS := fun s => .bk s
def dCont : FS := fun s => .ct s
theorem sd_break {pos : Pos} : PSD X (.Break pos) dBreak := ⟨fun W _ => ⟨_, ps_break, fun H0 α0 σ H α s D r q => q σ H α r (Stay.refl _ _)⟩⟩
theorem sd_cont {pos : Pos} : PSD X (.Continue pos) dCont := ⟨fun W _ => ⟨_, ps_continue, fun H0 α0 σ H α s D r q => q σ H α r (Stay.refl _ _)⟩⟩
/-! stores to a slot -/
theorem get_set {α : Type} {l : List α} {i j : Nat} {x y : α} (h : (l.set i x)[j]? = some y) : (i = j ∧ y = x ∧ i < l.length) ∨ (i ≠ j ∧ l[j]? = some y) := by
  by_cases e : i = j
  · subst e
    by_cases hi : i < l.length
    · rw [List.getElem?_set_self hi] at h
      exact .inl ⟨rfl, (Option.some.inj h).symm, hi⟩
    · rw [List.getElem?_eq_none (by simpa using hi)] at h
      cases h
  · rw [List.getElem?_set_ne e] at h
    exact .inr ⟨e, h⟩
theorem Rel.setV {K : PySem.W.Frag} {H0 H : Hp} {α0 α : List Addr} {σ : Sg} {s : S} {i : Nat} {d : D} {v : V} (r : Rel K H0 α0 H α σ s) (h : Rv K H α d v) : Rel K H0 α0 H α (σ.set i (some v)) { s with δ := s.δ.set i (.val d) } := by
  refine ⟨r.cells, ⟨by simpa using r.slots.len, fun j x e => ?_, fun j c e => ?_, fun j k c c' a e1 e2 e3 e4 => ?_⟩, r.ot, r.nw, r.st⟩
  · rcases get_set e with ⟨rfl, e, hi⟩ | ⟨ne, e⟩
    · cases e
      exact ⟨v, by rw [List.getElem?_set_self (by rw [r.slots.len]; exact hi)], h⟩
    · obtain ⟨w, e1, e2⟩ := r.slots.val j x e
      exact ⟨w, by rw [List.getElem?_set_ne ne]; exact e1, e2⟩
  · rcases get_set e with ⟨rfl, e, hi⟩ | ⟨ne, e⟩
    · cases e
    · obtain ⟨a, e1, e2⟩ := r.slots.own j c e
      exact ⟨a, by rw [List.getElem?_set_ne ne]; exact e1, e2⟩
  · rcases get_set e1 with ⟨rfl, e, hi⟩ | ⟨ne1, e1⟩
    · cases e
    · rcases get_set e2 with ⟨rfl, e, hi⟩ | ⟨ne2, e2⟩
      · cases e
      · rw [List.getElem?_set_ne ne1] at e3
        rw [List.getElem?_set_ne ne2] at e4
        exact r.slots.inj j k c c' a e1 e2 e3 e4
theorem Rel.setO {K : PySem.W.Frag} {H0 H : Hp} {α0 α : List Addr} {σ : Sg} {s : S} {i : Nat} {c : Cell} {a : Addr} (r : Rel K H0 α0 H α σ s) (h : RF K H0 H α σ s a c) : Rel K H0 α0 H α (σ.set i (some (.ref a))) { s with δ := s.δ.set i (.own c) } := by
  obtain ⟨h1, h2, h3, h4⟩ := h
  refine ⟨r.cells, ⟨by simpa using r.slots.len, fun j x e => ?_, fun j c e => ?_, fun j k c c' b e1 e2 e3 e4 => ?_⟩, r.ot, r.nw, r.st⟩
  · rcases get_set e with ⟨rfl, e, hi⟩ | ⟨ne, e⟩
    · cases e
    · obtain ⟨w, e1, e2⟩ := r.slots.val j x e
      exact ⟨w, by rw [List.getElem?_set_ne ne]; exact e1, e2⟩
  · rcases get_set e with ⟨rfl, e, hi⟩ | ⟨ne, e⟩
    · cases e
      exact ⟨a, by rw [List.getElem?_set_self (by rw [r.slots.len]; exact hi)], h2, h3, h1⟩
    · obtain ⟨a, e1, e2⟩ := r.slots.own j c e
      exact ⟨a, by rw [List.getElem?_set_ne ne]; exact e1, e2⟩
  · rcases get_set e1 with ⟨rfl, e, hi⟩ | ⟨ne1, e1⟩
    · rcases get_set e2 with ⟨rfl, e', hi'⟩ | ⟨ne2, e2⟩
      · rfl
      · rw [List.getElem?_set_self (by rw [r.slots.len]; exact hi)] at e3
        cases e3
        rw [List.getElem?_set_ne ne2] at e4
        exact absurd e4 (h4 k c' e2)
    · rcases get_set e2 with ⟨rfl, e', hi'⟩ | ⟨ne2, e2⟩
      · rw [List.getElem?_set_self (by rw [r.slots.len]; exact hi')] at e4
        cases e4
        rw [List.getElem?_set_ne ne1] at e3
        exact absurd e3 (h4 j c e1)
      · rw [List.getElem?_set_ne ne1] at e3
        rw [List.getElem?_set_ne ne2] at e4
        exact r.slots.inj j k c c' b e1 e2 e3 e4
/-- a fresh thing becomes a shared cell -/
theorem Rel.share {K : PySem.W.Frag} {H0 H : Hp} {α0 α : List Addr} {σ : Sg} {s : S} {c : Cell} {a : Addr} (r : Rel K H0 α0 H α σ s) (h : RF K H0 H α σ s a c) :
    Rel K H0 α0 H (α ++ [a]) σ { s with μ := s.μ ++ [c] } ∧ Stay H α H (α ++ [a]) ∧ Rv K H (α ++ [a]) (.ref s.μ.length) (.ref a) := by
  obtain ⟨h1, h2, h3, h4⟩ := h
  have t : Stay H α H (α ++ [a]) := ⟨fun _ _ e _ => e, ⟨[a], rfl⟩, fun _ e => e⟩
  refine ⟨⟨⟨by simp [r.cells.len], ?_, fun n b x e1 e2 => ?_⟩, ⟨r.slots.len, fun i d e => ?_, fun i c' e => ?_, r.slots.inj⟩, r.ot, fun b hb => ?_, r.st.trans t⟩, t, ?_⟩
  · rw [List.nodup_append]
    exact ⟨r.cells.nd, by simp, fun x hx y hy => by simp at hy; subst hy; rintro rfl; exact h2 hx⟩
  · by_cases hn : n < α.length
    · rw [List.getElem?_append_left hn] at e1
      rw [List.getElem?_append_left (by show n < s.μ.length; rw [← r.cells.len]; exact hn)] at e2
      exact (r.cells.at_ n b x e1 e2).stay t (fun _ e _ => e)
    · have hl := (List.getElem?_eq_some_iff.mp e1).1
      have en : n = α.length := by simp at hl; omega
      subst en
      rw [List.getElem?_append_right (Nat.le_refl _)] at e1
      rw [r.cells.len, List.getElem?_append_right (Nat.le_refl _)] at e2
      simp at e1 e2
      subst e1 e2
      exact h1.stay t (fun _ e _ => e)
  · obtain ⟨v, e1, e2⟩ := r.slots.val i d e
    exact ⟨v, e1, Rv.stay t _ _ e2⟩
  · obtain ⟨b, e1, e2, e3, e4⟩ := r.slots.own i c' e
    refine ⟨b, e1, ?_, e3, e4.stay t (fun _ e _ => e)⟩
    rw [List.mem_append]
    rintro (z | z)
    · exact e2 z
    · simp at z
      subst z
      exact h4 i c' e e1
  · rcases List.mem_append.mp hb with z | z
    · exact r.nw b z
    · simp at z
      subst z
      exact .inr h3
  · simp only [Rv]
    exact ⟨a, by rw [← r.cells.len, List.getElem?_append_right (Nat.le_refl _)]; simp, rfl⟩
/-- name = e -/
def dAsg (i : Nat) (fa : FE) : FS := fun s => match fa s with
  | .ok d s1 => if noOwn d then .nx { s1 with δ := s1.δ.set i (.val d) } else .bad
  | .exc e s1 => .exc e s1
  | .bad => .bad
/-- name = a fresh thing, which the slot owns; which is shared from then on -/
def dAsgO (i : Nat) (fa : FC) : FS := fun s => match fa s with
  | .ok c s1 => .nx { s1 with δ := s1.δ.set i (.own c) }
  | .exc e s1 => .exc e s1
  | .bad => .bad
def dAsgR (i : Nat) (fa : FC) : FS := fun s => match fa s with
  | .ok c s1 => .nx { δ := s1.δ.set i (.val (.ref s1.μ.length)), μ := s1.μ ++ [c] }
  | .exc e s1 => .exc e s1
  | .bad => .bad
theorem noOwn_rv {K : PySem.W.Frag} {H : Hp} {α : List Addr} {σ : Sg} {d : D} {v : V} (h : Rx K H α σ d v) (n : noOwn d = true) : Rv K H α d v := h.rv fun i z => by rw [z] at n; simp [noOwn] at n
theorem sd_asg {e : Expr} {st : Stmt} {i : Nat} {fa : FE} (hp : ∀ te, PE X e te → PS X st (tAsg te (gName i))) (ha : PED X e fa) : PSD X st (dAsg i fa) := by
  refine ⟨fun W tk => ?_⟩
  obtain ⟨t, p, q⟩ := ha.run W tk
  refine ⟨_, hp t p, fun H0 α0 σ H α s D r k => q H0 α0 σ H α s _ r ?_⟩
  unfold dAsg at k
  cases ea : fa s with
  | bad => rw [ea] at k; exact k.elim
  | exc e s1 => rw [ea] at k; exact fun cls dd H' α' r' x => k cls dd σ H' α' r' x
  | ok d s1 =>
    rw [ea] at k
    simp only at k
    split at k
    · rename_i hn
      intro v H1 α1 r1 t1 rv
      exact k _ H1 α1 (r1.setV (noOwn_rv rv hn)) t1
    · exact k.elim
theorem sd_asgO {e : Expr} {st : Stmt} {i : Nat} {fa : FC} (hp : ∀ te, PE X e te → PS X st (tAsg te (gName i))) (ha : PFD X e fa) : PSD X st (dAsgO i fa) := by
  refine ⟨fun W tk => ?_⟩
  obtain ⟨t, p, q⟩ := ha.run W tk
  refine ⟨_, hp t p, fun H0 α0 σ H α s D r k => q H0 α0 σ H α s _ r ?_⟩
  unfold dAsgO at k
  cases ea : fa s with
  | bad => rw [ea] at k; exact k.elim
  | exc e s1 => rw [ea] at k; exact fun cls dd H' α' r' x => k cls dd σ H' α' r' x
  | ok c s1 =>
    rw [ea] at k
    intro a H1 α1 r1 t1 rf
    exact k _ H1 α1 (r1.setO rf) t1
theorem sd_asgR {e : Expr} {st : Stmt} {i : Nat} {fa : FC} (hp : ∀ te, PE X e te → PS X st (tAsg te (gName i))) (ha : PFD X e fa) : PSD X st (dAsgR i fa) := by
  refine ⟨fun W tk => ?_⟩
  obtain ⟨t, p, q⟩ := ha.run W tk
  refine ⟨_, hp t p, fun H0 α0 σ H α s D r k => q H0 α0 σ H α s _ r ?_⟩
  unfold dAsgR at k
  cases ea : fa s with
  | bad => rw [ea] at k; exact k.elim
  | exc e s1 => rw [ea] at k; exact fun cls dd H' α' r' x => k cls dd σ H' α' r' x
  | ok c s1 =>
    rw [ea] at k
    intro a H1 α1 r1 t1 rf
    obtain ⟨r2, t2, rv⟩ := r1.share rf
    exact k _ H1 _ (r2.setV rv) (t1.trans t2)
/-- return -/
def dRet (fa : FE) : FS := fun s => match fa s with
  | .ok d s1 => if noOwn d then .rt d s1 else .bad
  | .exc e s1 => .exc e s1
  | .bad => .bad
def dRetF (fa : FC) : FS := fun s => match fa s with
  | .ok c s1 => .rtc c s1
  | .exc e s1 => .exc e s1
  | .bad => .bad
theorem sd_ret {e : Expr} {pos : Pos} {fa : FE} (ha : PED X e fa) : PSD X (.Return (some e) pos) (dRet fa) := by
  refine ⟨fun W tk => ?_⟩
  obtain ⟨t, p, q⟩ := ha.run W tk
  refine ⟨_, ps_ret p, fun H0 α0 σ H α s D r k => q H0 α0 σ H α s _ r ?_⟩
  unfold dRet at k
  cases ea : fa s with
  | bad => rw [ea] at k; exact k.elim
  | exc e s1 => rw [ea] at k; exact fun cls dd H' α' r' x => k cls dd σ H' α' r' x
  | ok d s1 =>
    rw [ea] at k
    simp only at k
    split at k
    · rename_i hn
      exact fun v H1 α1 r1 t1 rv => k v σ H1 α1 r1 (noOwn_rv rv hn)
    · exact k.elim
theorem sd_retF {e : Expr} {pos : Pos} {fa : FC} (ha : PFD X e fa) : PSD X (.Return (some e) pos) (dRetF fa) := by
  refine ⟨fun W tk => ?_⟩
  obtain ⟨t, p, q⟩ := ha.run W tk
  refine ⟨_, ps_ret p, fun H0 α0 σ H α s D r k => q H0 α0 σ H α s _ r ?_⟩
  unfold dRetF at k
  cases ea : fa s with
  | bad => rw [ea] at k; exact k.elim
  | exc e s1 => rw [ea] at k; exact fun cls dd H' α' r' x => k cls dd σ H' α' r' x
  | ok c s1 =>
    rw [ea] at k
    exact fun a H1 α1 r1 t1 rf => k a σ H1 α1 r1 rf
def dRetN : FS := fun s => .rt .non s
theorem sd_retN {pos : Pos} : PSD X (.Return none pos) dRetN := ⟨fun W _ => ⟨_, ps_retN, fun H0 α0 σ H α s D r q => q .non σ H α r (by simp only [Rv])⟩⟩
/-- if -/
def dIfS (ft : FT) (f g : FS) : FS := fun s => match ft s with
  | .ok true s1 => f s1
  | .ok false s1 => g s1
  | .exc e s1 => .exc e s1
  | .bad => .bad
theorem sd_if {c : Expr} {a b : List Stmt} {pos : Pos} {ft : FT} {f g : FS} (hc : PTD X c ft) (ha : PSsD X a f) (hb : PSsD X b g) : PSD X (.If c a b pos) (dIfS ft f g) := by
  refine ⟨fun W tk => ?_⟩
  obtain ⟨tc, pc, qc⟩ := hc.run W tk
  obtain ⟨ta, pa, qa⟩ := ha.run W tk
  obtain ⟨tb, pb, qb⟩ := hb.run W tk
  refine ⟨_, ps_if pc pa pb, fun H0 α0 σ H α s D r k => qc H0 α0 σ H α s _ r ?_⟩
  unfold dIfS at k
  cases ec : ft s with
  | bad => rw [ec] at k; exact k.elim
  | exc e s1 => rw [ec] at k; exact fun cls dd H' α' r' x => k cls dd σ H' α' r' x
  | ok u s1 =>
    rw [ec] at k
    intro H1 α1 r1 t1
    cases u with
    | true => rw [if_pos rfl]; exact qa H0 α0 σ H1 α1 s1 D r1 (PostS.mono t1 k)
    | false => rw [if_neg (by decide)]; exact qb H0 α0 σ H1 α1 s1 D r1 (PostS.mono t1 k)
/-- an expression whose value is dropped -/
def dDrop (fa : FE) : FS := fun s => match fa s with
  | .ok _ s1 => .nx s1
  | .exc e s1 => .exc e s1
  | .bad => .bad
theorem sd_drop {e : Expr} {pos : Pos} {fa : FE} (ha : PED X e fa) (hs : swapsWith e none pos.line X.env = pure false := by rfl) : PSD X (.Expr e pos) (dDrop fa) := by
  refine ⟨fun W tk => ?_⟩
  obtain ⟨t, p, q⟩ := ha.run W tk
  refine ⟨_, ps_expr p hs, fun H0 α0 σ H α s D r k => q H0 α0 σ H α s _ r ?_⟩
  unfold dDrop at k
  cases ea : fa s with
  | bad => rw [ea] at k; exact k.elim
  | exc e s1 => rw [ea] at k; exact fun cls dd H' α' r' x => k cls dd σ H' α' r' x
  | ok d s1 =>
    rw [ea] at k
    exact fun v H1 α1 r1 t1 rv => k σ H1 α1 r1 t1
/-- while: n turns at most -/
def dWhile (ft : FT) (f : FS) : Nat → FS
  | 0, _ => .bad
  | n + 1, s => match ft s with
    | .ok true s1 => (match f s1 with
      | .nx s2 => dWhile ft f n s2
      | .ct s2 => dWhile ft f n s2
      | .bk s2 => .nx s2
      | .rt d s2 => .rt d s2
      | .rtc c s2 => .rtc c s2
      | .exc e s2 => .exc e s2
      | .bad => .bad)
    | .ok false s1 => .nx s1
    | .exc e s1 => .exc e s1
    | .bad => .bad
theorem sd_while (n : Nat) {c : Expr} {body : List Stmt} {pos : Pos} {ft : FT} {f : FS} (hp : PassesOwn (model X.prog X.w) X.A X.env X.xe) (hc : PTD X c ft) (hb : PSsD X body f) : PSD X (.While c body [] pos) (dWhile ft f n) := by
  refine ⟨fun W tk => ?_⟩
  obtain ⟨tc, pc, qc⟩ := hc.run W tk
  obtain ⟨tb, pb, qb⟩ := hb.run W tk
  refine ⟨_, ps_while hp pc pb, fun H0 α0 σ H α s D r k => ?_⟩
  refine ⟨fun m σ1 H1 => ∃ s1 α1, Rel X.K H0 α0 H1 α1 σ1 s1 ∧ PostS X.K H0 α0 W H1 α1 D (dWhile ft f m s1), ⟨n, s, α, r, k⟩, ?_⟩
  rintro m σ1 H1 ⟨s1, α1, r1, k1⟩
  refine qc H0 α0 σ1 H1 α1 s1 _ r1 ?_
  cases m with
  | zero => exact k1.elim
  | succ m =>
    unfold dWhile at k1
    cases ec : ft s1 with
    | bad => rw [ec] at k1; exact k1.elim
    | exc e s2 => rw [ec] at k1; exact fun cls dd H' α' r' x => k1 cls dd σ1 H' α' r' x
    | ok u s2 =>
      rw [ec] at k1
      intro H2 α2 r2 t2
      cases u with
      | false => rw [if_neg (by decide)]; exact k1 σ1 H2 α2 r2 t2
      | true =>
        rw [if_pos rfl]
        refine ⟨fun σ3 H3 => ∃ m', m' < m + 1 ∧ ∃ s3 α3, Rel X.K H0 α0 H3 α3 σ3 s3 ∧ PostS X.K H0 α0 W H3 α3 D (dWhile ft f m' s3), fun _ _ z => z, ?_⟩
        refine qb H0 α0 σ1 H2 α2 s2 _ r2 ?_
        simp only at k1
        cases eb : f s2 <;> rw [eb] at k1 <;> simp only at k1
        · exact fun σ3 H3 α3 r3 t3 => ⟨m, Nat.lt_succ_self m, _, α3, r3, PostS.mono (t2.trans t3) k1⟩
        · exact k1
        · exact k1
        · exact fun σ3 H3 α3 r3 t3 => k1 σ3 H3 α3 r3 (t2.trans t3)
        · exact fun σ3 H3 α3 r3 t3 => ⟨m, Nat.lt_succ_self m, _, α3, r3, PostS.mono (t2.trans t3) k1⟩
        · exact k1
        · exact k1
end
end DL

namespace DL
open PySem PySem.Spec PyProof.Rows L2
/-! ### 19. Targets, walks, for -/
abbrev FG := D → S → Option S
/-- σ' is σ but at vs -/
structure But (vs : List Nat) (σ σ' : Sg) : Prop where
  len : σ'.length = σ.length
  at_ : ∀ j, j ∉ vs → σ'[j]? = σ[j]?
theorem But.refl (vs : List Nat) (σ : Sg) : But vs σ σ := ⟨rfl, fun _ _ => rfl⟩
theorem But.trans {vs ws : List Nat} {σ σ1 σ2 : Sg} (a : But vs σ σ1) (b : But ws σ1 σ2) : But (vs ++ ws) σ σ2 := ⟨b.len.trans a.len, fun j h => by
  rw [List.mem_append, not_or] at h
  rw [b.at_ j h.2, a.at_ j h.1]⟩
theorem But.set (i : Nat) (x : Option V) (σ : Sg) : But [i] σ (σ.set i x) := ⟨List.length_set, fun j h => List.getElem?_set_ne (fun z => h (by simp [z]))⟩
structure PGD (X : Cx) (tg : Expr) (vs : List Nat) (f : FG) : Prop where
  ex : ∃ t : TG, PG X tg t ∧ ∀ H0 α0 σ H α s d v s' (Q : Sg → Hp → Prop), Rel X.K H0 α0 H α σ s → Rv X.K H α d v → f d s = some s' → (∀ σ' H', Rel X.K H0 α0 H' α σ' s' → Stay H α H' α → But vs σ σ' → Q σ' H') → t v σ H Q
/-- J gives the data ds, one a turn, as long as what is locked stays so -/
structure WalkD (K : PySem.W.Frag) (J : It) (ds : List D) (H1 : Hp) (α1 : List Addr) : Prop where
  stop : ∀ H α, Stay H1 α1 H α → J.stop ds.length H
  go : ∀ H α i d, Stay H1 α1 H α → ds[i]? = some d → J.go i H
  yld : ∀ H0 α0 H α σ s i d x H', Stay H1 α1 H α → Rel K H0 α0 H α σ s → ds[i]? = some d → J.yld i H x H' → Rel K H0 α0 H' α σ s ∧ Stay H α H' α ∧ Rv K H' α d x
def PostI (K : PySem.W.Frag) (H0 : Hp) (α0 : List Addr) (σ : Sg) (W : WX) (H : Hp) (α : List Addr) (R : It → Hp → Prop) : Res (List D) → Prop
  | .ok ds s' => ∀ J H' α', Rel K H0 α0 H' α' σ s' → Stay H α H' α' → WalkD K J ds H' α' → R J H'
  | .exc e s' => ∀ cls dd H' α', Rel K H0 α0 H' α' σ s' → ExR K H' α' e cls dd → W cls dd σ H'
  | .bad => False
structure PID (X : Cx) (tg iter : Expr) (f : FA) : Prop where
  run : ∀ W, Takes X W → ∃ t, PI X tg iter t ∧ ∀ H0 α0 σ H α s R, Rel X.K H0 α0 H α σ s → PostI X.K H0 α0 σ W H α R (f s) → t σ H R
def dFor (g : FG) (f : FS) : List D → FS
  | [], s => .nx s
  | d :: ds, s => match g d s with
    | none => .bad
    | some s1 => match f s1 with
      | .nx s2 => dFor g f ds s2
      | .ct s2 => dFor g f ds s2
      | .bk s2 => .nx s2
      | .rt d s2 => .rt d s2
      | .rtc c s2 => .rtc c s2
      | .exc e s2 => .exc e s2
      | .bad => .bad
def dForI (fi : FA) (g : FG) (f : FS) : FS := fun s => match fi s with
  | .ok ds s1 => dFor g f ds s1
  | .exc e s1 => .exc e s1
  | .bad => .bad
section
variable {X : Cx}
theorem sd_for {tg iter : Expr} {body : List Stmt} {pos : Pos} {fi : FA} {g : FG} {f : FS} {ws : List Nat} (hp : PassesOwn (model X.prog X.w) X.A X.env X.xe) (hc : X.calm = true) (hi : PID X tg iter fi) (hg : PGD X tg ws g) (hb : PSsD X body f)
    (hs : ∀ x, foldedSetIterable iter X.env x = pure x := by intro _; rfl) : PSD X (.For tg iter body [] pos) (dForI fi g f) := by
  refine ⟨fun W tk => ?_⟩
  obtain ⟨ti, pi, qi⟩ := hi.run W tk
  obtain ⟨t, pg, qg⟩ := hg.ex
  obtain ⟨tb, pb, qb⟩ := hb.run W tk
  refine ⟨_, ps_for hp hc pi pg pb hs, fun H0 α0 σ H α s D r k => qi H0 α0 σ H α s _ r ?_⟩
  unfold dForI at k
  cases ei : fi s with
  | bad => rw [ei] at k; exact k.elim
  | exc e s1 => rw [ei] at k; exact fun cls dd H' α' r' x => k cls dd σ H' α' r' x
  | ok ds s1 =>
    rw [ei] at k
    intro J H1 α1 r1 t1 w
    refine ⟨fun i m σ' H' => i + m = ds.length ∧ ∃ s' α', Rel X.K H0 α0 H' α' σ' s' ∧ Stay H1 α1 H' α' ∧ PostS X.K H0 α0 W H' α' D (dFor g f (ds.drop i) s'), ⟨ds.length, Nat.zero_add _, s1, α1, r1, Stay.refl _ _, PostS.mono t1 k⟩, ?_⟩
    rintro i m σ' H' ⟨hm, s', α', r', t', k'⟩
    cases m with
    | zero =>
      have e : i = ds.length := by omega
      subst e
      rw [List.drop_length] at k'
      exact .inl ⟨w.stop H' α' t', k' σ' H' α' r' (Stay.refl _ _)⟩
    | succ m =>
      have hi : i < ds.length := by omega
      have ed := List.getElem?_eq_getElem hi
      rw [List.drop_eq_getElem_cons hi] at k'
      refine .inr ⟨w.go H' α' i _ t' ed, fun σ2 H2 => ∃ m', m' < m + 1 ∧ (i + 1) + m' = ds.length ∧ ∃ s2 α2, Rel X.K H0 α0 H2 α2 σ2 s2 ∧ Stay H1 α1 H2 α2 ∧ PostS X.K H0 α0 W H2 α2 D (dFor g f (ds.drop (i + 1)) s2), fun _ _ z => z, fun x H2 hy => ?_⟩
      obtain ⟨r2, t2, rv⟩ := w.yld H0 α0 H' α' σ' s' i _ x H2 t' r' ed hy
      unfold dFor at k'
      cases eg : g ds[i] s' with
      | none => rw [eg] at k'; exact k'.elim
      | some s3 =>
        rw [eg] at k'
        refine qg H0 α0 σ' H2 α' s' _ x s3 _ r2 rv eg fun σ3 H3 r3 t3 _ => ?_
        refine qb H0 α0 σ3 H3 α' s3 _ r3 ?_
        simp only at k'
        have t23 := t2.trans t3
        cases eb : f s3 <;> rw [eb] at k' <;> simp only at k'
        · exact fun σ4 H4 α4 r4 t4 => ⟨m, Nat.lt_succ_self m, by omega, _, α4, r4, (t'.trans t23).trans t4, PostS.mono (t23.trans t4) k'⟩
        · exact k'
        · exact k'
        · exact fun σ4 H4 α4 r4 t4 => k' σ4 H4 α4 r4 (t23.trans t4)
        · exact fun σ4 H4 α4 r4 t4 => ⟨m, Nat.lt_succ_self m, by omega, _, α4, r4, (t'.trans t23).trans t4, PostS.mono (t23.trans t4) k'⟩
        · exact k'
        · exact k'
/-! targets -/
def gNm (i : Nat) : FG := fun d s => some { s with δ := s.δ.set i (.val d) }
theorem gd_name {i : Nat} {tg : Expr} (h : PG X tg (gName i)) : PGD X tg [i] (gNm i) := ⟨_, h, fun H0 α0 σ H α s d v s' Q r rv e k => by
  cases e
  exact k _ H (r.setV rv) (Stay.refl _ _) (But.set _ _ _)⟩
abbrev FGs := List D → S → Option S
structure PGsD (X : Cx) (tgs : List Expr) (ws : List Nat) (f : FGs) : Prop where
  ex : ∃ t : TGs, PGs X tgs t ∧ ∀ H0 α0 σ H α s ds vs s' (Q : Sg → Hp → Prop), Rel X.K H0 α0 H α σ s → Rvs X.K H α ds vs → f ds s = some s' → (∀ σ' H', Rel X.K H0 α0 H' α σ' s' → Stay H α H' α → But ws σ σ' → Q σ' H') → t vs σ H Q
def gN : FGs := fun ds s => match ds with | [] => some s | _ => none
def gC (g : FG) (r : FGs) : FGs := fun ds s => match ds with | [] => none | d :: ds => (g d s).bind fun s1 => r ds s1
def gT (r : FGs) : FG := fun d s => match d with | .tup ds => r ds s | _ => none
theorem gd_nil : PGsD X [] [] gN := ⟨_, pgs_nil, fun H0 α0 σ H α s ds vs s' Q r rv e k => by
  unfold gN at e
  split at e
  · cases e
    simp only [Rvs] at rv
    exact ⟨rv, k σ H r (Stay.refl _ _) (But.refl _ _)⟩
  · cases e⟩
theorem gd_cons {e : Expr} {es : List Expr} {g : FG} {r : FGs} {ws ws' : List Nat} (h1 : PGD X e ws g) (h2 : PGsD X es ws' r) (hs : (assignEach (e :: es) X.env).map (·.2) = assign e X.env :: (assignEach es X.env).map (·.2) := by rfl) : PGsD X (e :: es) (ws ++ ws') (gC g r) := by
  obtain ⟨t1, p1, q1⟩ := h1.ex
  obtain ⟨t2, p2, q2⟩ := h2.ex
  refine ⟨_, pgs_cons p1 p2 hs, fun H0 α0 σ H α s ds vs s' Q rl rv e k => ?_⟩
  unfold gC at e
  split at e
  · cases e
  · rename_i d ds
    simp only [Rvs] at rv
    obtain ⟨v, vs, rfl, h1, h2⟩ := rv
    cases eg : g d s with
    | none => rw [eg] at e; cases e
    | some s1 =>
      rw [eg] at e
      refine ⟨v, vs, rfl, q1 H0 α0 σ H α s d v s1 _ rl h1 eg fun σ1 H1 r1 t1 b1 => ?_⟩
      exact q2 H0 α0 σ1 H1 α s1 ds vs s' Q r1 (Rvs.stay t1 _ _ h2) e fun σ2 H2 r2 t2 b2 => k σ2 H2 r2 (t1.trans t2) (b1.trans b2)
theorem gd_tup {es : List Expr} {k : Nat} {pos : Pos} {r : FGs} {n : Nat} {ws : List Nat} (hc : X.calm = true) (h : PGsD X es ws r) (hn : (assignEach es X.env).length = n := by rfl) (hst : (assignEach es X.env).findIdx? (·.1) = none := by rfl) (hl : es.length = n := by rfl)
    (hr : ∀ ds s s', r ds s = some s' → ds.length = n := by intro ds s s' e; simp only [gC, gN] at e; repeat (first | (split at e; first | cases e | skip) | (simp only [Option.bind_eq_some_iff] at e; obtain ⟨_, _, e⟩ := e)); all_goals first | rfl | (cases e) | simp_all) : PGD X (.Tuple es k pos) ws (gT r) := by
  obtain ⟨t, p, q⟩ := h.ex
  refine ⟨_, pg_tup hc p hn hst, fun H0 α0 σ H α s d v s' Q rl rv e k => ?_⟩
  unfold gT at e
  split at e
  · rename_i ds
    simp only [Rv] at rv
    obtain ⟨a, vs, rfl, hs, rr⟩ := rv
    exact ⟨a, vs, rfl, hs, by rw [rr.length]; exact hr _ _ _ e, q H0 α0 σ H α s ds vs s' Q rl rr e k⟩
  · cases e
/-- target = e -/
def dAsgG (fa : FE) (g : FG) : FS := fun s => match fa s with
  | .ok d s1 => if noOwn d then (match g d s1 with | some s2 => .nx s2 | none => .bad) else .bad
  | .exc e s1 => .exc e s1
  | .bad => .bad
theorem sd_asgG {tg e : Expr} {st : Stmt} {fa : FE} {g : FG} {ws : List Nat} (hp : ∀ te t, PE X e te → PG X tg t → PS X st (tAsg te t)) (ha : PED X e fa) (hg : PGD X tg ws g) : PSD X st (dAsgG fa g) := by
  refine ⟨fun W tk => ?_⟩
  obtain ⟨t, p, q⟩ := ha.run W tk
  obtain ⟨u, pu, qu⟩ := hg.ex
  refine ⟨_, hp t u p pu, fun H0 α0 σ H α s D r k => q H0 α0 σ H α s _ r ?_⟩
  unfold dAsgG at k
  cases ea : fa s with
  | bad => rw [ea] at k; exact k.elim
  | exc e s1 => rw [ea] at k; exact fun cls dd H' α' r' x => k cls dd σ H' α' r' x
  | ok d s1 =>
    rw [ea] at k
    simp only at k
    split at k
    · rename_i hn
      intro v H1 α1 r1 t1 rv
      split at k
      · rename_i s2 eg
        exact qu H0 α0 σ H1 α1 s1 d v s2 _ r1 (noOwn_rv rv hn) eg fun σ' H' r' t' _ => k σ' H' α1 r' (t1.trans t')
      · exact k.elim
    · exact k.elim
/-- a, b = x, y -/
def dPar (i j : Nat) (fa : FA) : FS := fun s => match fa s with
  | .ok [a, b] s1 => if noOwn a && noOwn b then .nx { s1 with δ := (s1.δ.set i (.val a)).set j (.val b) } else .bad
  | .exc e s1 => .exc e s1
  | _ => .bad
theorem sd_par {es : List Expr} {st : Stmt} {i j : Nat} {fa : FA} (hp : ∀ ta, PA X es ta → PS X st (tPar i j ta)) (ha : PAD X es fa) : PSD X st (dPar i j fa) := by
  refine ⟨fun W tk => ?_⟩
  obtain ⟨t, p, q⟩ := ha.run W tk
  refine ⟨_, hp t p, fun H0 α0 σ H α s D r k => q H0 α0 σ H α s _ r ?_⟩
  unfold dPar at k
  cases ea : fa s with
  | bad => rw [ea] at k; exact k.elim
  | exc e s1 => rw [ea] at k; exact fun cls dd H' α' r' x => k cls dd σ H' α' r' x
  | ok ds s1 =>
    rw [ea] at k
    intro vs H1 α1 r1 t1 rv
    match ds, vs, rv with
    | [], _, _ => exact k.elim
    | [_], _, _ => exact k.elim
    | [a, b], [v, w], .cons ra (.cons rb .nil) =>
      simp only at k
      split at k
      · rename_i hn
        rw [Bool.and_eq_true] at hn
        exact ⟨v, w, rfl, k _ H1 α1 ((r1.setV (noOwn_rv ra hn.1)).setV (noOwn_rv rb hn.2)) t1⟩
      · exact k.elim
    | _ :: _ :: _ :: _, _, _ => exact k.elim
/-! walks -/
def fixSeq : D → Option (List D) | .tup xs => some xs | .lst xs => some xs | _ => none
def dIter (fa : FE) : FA := fun s => (fa s).bind fun d s1 => match fixSeq d with | some xs => .ok xs s1 | none => .bad
theorem walk_fixT {K : PySem.W.Frag} {H : Hp} {α : List Addr} {a : Addr} {xs : List D} {vs : List V} (h : SqT K H a vs) (rr : Rvs K H α xs vs) : WalkD K (Itt K a) xs H α := by
  refine ⟨fun H' α' t => ⟨vs, t.sqT h, by rw [rr.length]; exact Nat.le_refl _⟩, fun H' α' i d t e => ?_, fun H0 α0 H' α' σ s i d x H2 t r e y => ?_⟩
  · obtain ⟨v, ev, _⟩ := rr.at_ e
    exact ⟨vs, v, t.sqT h, ev⟩
  · obtain ⟨rfl, y⟩ := y
    obtain ⟨v, ev, rv⟩ := rr.at_ e
    have := y vs (t.sqT h)
    rw [ev] at this
    cases this
    exact ⟨r, Stay.refl _ _, Rv.stay t _ _ rv⟩
theorem walk_fixL {K : PySem.W.Frag} {H : Hp} {α : List Addr} {a : Addr} {xs : List D} {vs : List V} (h : SqF K H a vs) (rr : Rvs K H α xs vs) : WalkD K (Itl K a) xs H α := by
  refine ⟨fun H' α' t => ⟨vs, (t.sqF h).sq, by rw [rr.length]; exact Nat.le_refl _⟩, fun H' α' i d t e => ?_, fun H0 α0 H' α' σ s i d x H2 t r e y => ?_⟩
  · obtain ⟨v, ev, _⟩ := rr.at_ e
    exact ⟨vs, v, (t.sqF h).sq, ev⟩
  · obtain ⟨rfl, y⟩ := y
    obtain ⟨v, ev, rv⟩ := rr.at_ e
    have := y vs (t.sqF h).sq
    rw [ev] at this
    cases this
    exact ⟨r, Stay.refl _ _, Rv.stay t _ _ rv⟩
/-- over a list or a tuple, whichever comes -/
def iSeq (K : PySem.W.Frag) (tl : TE) : TI := fun σ H R => tl σ H fun x H1 => (∃ a, x = .ref a ∧ (∃ xs, SqL K H1 a xs) ∧ R (Itl K a) H1) ∨ ∃ a, x = .ref a ∧ (∃ xs, SqT K H1 a xs) ∧ R (Itt K a) H1
theorem PIorT {tg e : Expr} {tl : TE} (h : PE X e tl) : PI X tg e (iSeq X.K tl) := by
  refine ⟨fun pins s σ H R I q => thn (h.run pins s σ H _ I q) fun u s1 ⟨x, H1, I1, rx, q1⟩ => ?_⟩
  rcases q1 with ⟨a, rfl, ⟨xs, hl⟩, qR⟩ | ⟨a, rfl, ⟨xs, hl⟩, qR⟩
  · cases rx
    have one : PE X e (fun σ' H' Q => Q (.ref a) H1 ∧ σ' = σ ∧ H' = H) → True := fun _ => trivial
    obtain ⟨its, rv, pl, _⟩ := I1.list hl
    refine wpAny_pyIter_list pl.isList ?_
    exact pi_one (tk := s1.toks) I1 { cls := .type "list_iterator", data := .fields #[.ref a, .int 0 0] } (turn_list a _) ⟨_, Heap.get?_push_size _ rfl, rfl, rfl⟩ qR
  · cases rx
    obtain ⟨its, rv, ⟨o, ho, hc, n, hd⟩, _⟩ := I1.tuple hl
    refine wpAny_pyIter_tuple ⟨o, ho, hc, n, hd⟩ ?_
    exact pi_one (tk := s1.toks) I1 { cls := .type "tuple_iterator", data := .fields #[.ref a, .int 0 0] } (turn_tuple a _) ⟨_, Heap.get?_push_size _ rfl, rfl, rfl⟩ qR
theorem id_seq {tg e : Expr} {fa : FE} (ha : PED X e fa) : PID X tg e (dIter fa) := by
  refine ⟨fun W tk => ?_⟩
  obtain ⟨t, p, q⟩ := ha.run W tk
  refine ⟨_, PIorT p, fun H0 α0 σ H α s R r k => q H0 α0 σ H α s _ r ?_⟩
  unfold dIter at k
  cases ea : fa s with
  | bad => rw [ea] at k; exact k.elim
  | exc e s1 => rw [ea] at k; exact k
  | ok d s1 =>
    rw [ea] at k
    intro v H1 α1 r1 t1 rv
    simp only [Res.bind] at k
    cases d <;> simp only [fixSeq] at k <;> try exact k.elim
    · obtain ⟨a, vs, rfl, h1, rr⟩ := asT_ok rv
      exact .inr ⟨a, rfl, ⟨vs, h1⟩, k _ H1 α1 r1 t1 (walk_fixT h1 rr)⟩
    · have rv' : Rv X.K H1 α1 (.lst _) v := rv
      simp only [Rv] at rv'
      obtain ⟨a, vs, rfl, h1, rr⟩ := rv'
      exact .inl ⟨a, rfl, ⟨vs, h1.sq⟩, k _ H1 α1 r1 t1 (walk_fixL h1 rr)⟩
/-- range(n), range(a, b) -/
def rngD (lo : Int) (n : Nat) : List D := (List.range n).map fun i => .int (lo + (i : Nat))
theorem walk_rng {K : PySem.W.Frag} {H : Hp} {α : List Addr} {lo : Int} {n : Nat} : WalkD K (Itr lo n) (rngD lo n) H α := by
  have hl : (rngD lo n).length = n := by simp [rngD]
  refine ⟨fun H' α' t => by rw [hl]; exact Nat.le_refl n, fun H' α' i d t e => ?_, fun H0 α0 H' α' σ s i d x H2 t r e y => ?_⟩
  · have := (List.getElem?_eq_some_iff.mp e).1
    rw [hl] at this
    exact this
  · obtain ⟨rfl, rfl⟩ := y
    refine ⟨r, Stay.refl _ _, ?_⟩
    unfold rngD at e
    rw [List.getElem?_map] at e
    cases er : (List.range n)[i]? with
    | none => rw [er] at e; cases e
    | some j =>
      rw [er] at e
      have hj := List.getElem?_range (n := n) (i := i) (by
        have := (List.getElem?_eq_some_iff.mp er).1
        simpa using this)
      rw [hj] at er
      cases er
      cases e
      simp only [Rv]
def smallI (i : Int) : Bool := decide (-(2 ^ 62) ≤ i) && decide (i < 2 ^ 62)
def dRng1 (fa : FA) : FA := fun s => (fa s).bind fun ds s1 => match ds with | [.int j] => if smallI j then .ok (rngD 0 j.toNat) s1 else .bad | _ => .bad
def dRng2 (fa : FA) : FA := fun s => (fa s).bind fun ds s1 => match ds with | [.int i, .int j] => if smallI i && smallI j then .ok (rngD i (j - i).toNat) s1 else .bad | _ => .bad
theorem id_rng1 {tg a : Expr} {p pos : Pos} {fa : FA} (hg : Gl X "range") (hm : X.mg "range" = none) (ha : PAD X [a] fa) (hs : starEach [a] X.env = [(false, eval a X.env)] := by rfl) : PID X tg (.Call (.Name "range" p) [a] [] pos) (dRng1 fa) := by
  refine ⟨fun W tk => ?_⟩
  obtain ⟨t, pa, q⟩ := ha.run W tk
  refine ⟨_, pi_range1 hg hm pa hs, fun H0 α0 σ H α s R r k => q H0 α0 σ H α s _ r ?_⟩
  unfold dRng1 at k
  cases ea : fa s with
  | bad => rw [ea] at k; exact k.elim
  | exc e s1 => rw [ea] at k; exact k
  | ok ds s1 =>
    rw [ea] at k
    intro vs H1 α1 r1 t1 rv
    simp only [Res.bind] at k
    split at k
    · split at k
      · rename_i j hj
        unfold smallI at hj
        rw [Bool.and_eq_true] at hj
        cases rv with
        | cons ra rb =>
          cases rb
          exact ⟨j, by rw [rx_int ra], of_decide_eq_true hj.1, of_decide_eq_true hj.2, k _ H1 α1 r1 t1 walk_rng⟩
      · exact k.elim
    · exact k.elim
theorem id_rng2 {tg a b : Expr} {p pos : Pos} {fa : FA} (hg : Gl X "range") (hm : X.mg "range" = none) (ha : PAD X [a, b] fa) (hs : starEach [a, b] X.env = [(false, eval a X.env), (false, eval b X.env)] := by rfl) (hs2 : starEach [b] X.env = [(false, eval b X.env)] := by rfl) : PID X tg (.Call (.Name "range" p) [a, b] [] pos) (dRng2 fa) := by
  refine ⟨fun W tk => ?_⟩
  obtain ⟨t, pa, q⟩ := ha.run W tk
  refine ⟨_, pi_range2 hg hm pa hs hs2, fun H0 α0 σ H α s R r k => q H0 α0 σ H α s _ r ?_⟩
  unfold dRng2 at k
  cases ea : fa s with
  | bad => rw [ea] at k; exact k.elim
  | exc e s1 => rw [ea] at k; exact k
  | ok ds s1 =>
    rw [ea] at k
    intro vs H1 α1 r1 t1 rv
    simp only [Res.bind] at k
    split at k
    · split at k
      · rename_i i j hj
        unfold smallI at hj
        simp only [Bool.and_eq_true, decide_eq_true_eq] at hj
        cases rv with
        | cons ra rb =>
          cases rb with
          | cons rb rc =>
            cases rc
            exact ⟨i, j, by rw [rx_int ra, rx_int rb], ⟨hj.1.1, hj.1.2, hj.2.1, hj.2.2⟩, k _ H1 α1 r1 t1 walk_rng⟩
      · exact k.elim
    · exact k.elim
end
end DL

namespace DL
open PySem PySem.Spec PyProof.Rows L2
/-! ### 20. Defs: what one promises, its body, its call -/
structure StayC (H : Hp) (α : List Addr) (H' : Hp) (α' : List Addr) : Prop where
  st : Stay H α H' α'
  ot : ∀ a o, H a = some o → a ∉ α → H' a = some o
  nw : ∀ a ∈ α', a ∈ α ∨ H a = none
def PostC (K : PySem.W.Frag) (H : Hp) (α : List Addr) (Q : VK) (E : XK) : CR → Prop
  | .ok d μ' => ∀ v H' α', StayC H α H' α' → RelC K H' α' μ' → Rv K H' α' d v → Q v H'
  | .okc c μ' => ∀ a H' α', StayC H α H' α' → RelC K H' α' μ' → CellOk K H' α' a c → a ∉ α' → H a = none → Q (.ref a) H'
  | .exc e μ' => ∀ cls dd H' α', StayC H α H' α' → RelC K H' α' μ' → ExR K H' α' e cls dd → E cls dd H'
  | .bad => False
/-- the promise of a def of n parameters that does what F does -/
def spD (K : PySem.W.Frag) (n : Nat) (F : FF) : Sp := fun vs H Q E => vs.length = n ∧ ∃ α ds μ, RelC K H α μ ∧ Rvs K H α ds vs ∧ PostC K H α Q E (F ds μ)
/-- the body's run: N slots, the arguments first -/
def runF (f : FS) (N : Nat) : FF := fun ds μ => match f ⟨ds.map .val ++ List.replicate (N - ds.length) .no, μ⟩ with
  | .nx s => .ok .non s.μ
  | .rt d s => .ok d s.μ
  | .rtc c s => .okc c s.μ
  | .exc e s => .exc e s.μ
  | _ => .bad
section
variable {K : PySem.W.Frag}
theorem Rel.start {H : Hp} {α : List Addr} {μ : List Cell} {ds : List D} {vs : List V} {N : List Str} (rc : RelC K H α μ) (rr : Rvs K H α ds vs) : Rel K H α H α (start N vs) ⟨ds.map .val ++ List.replicate (N.length - ds.length) .no, μ⟩ := by
  have hl := rr.length
  refine ⟨rc, ⟨by simp [L2.start, hl], fun i d e => ?_, fun i c e => ?_, fun i j c c' a e => ?_⟩, fun _ _ h _ => h, fun _ h => .inl h, Stay.refl _ _⟩
  · unfold L2.start
    by_cases hi : i < ds.length
    · rw [List.getElem?_append_left (by simpa using hi), List.getElem?_map] at e
      cases ed : ds[i]? with
      | none => rw [ed] at e; cases e
      | some x =>
        rw [ed] at e
        cases e
        obtain ⟨v, ev, rv⟩ := rr.at_ ed
        exact ⟨v, by rw [List.getElem?_append_left (by simpa [hl] using hi), List.getElem?_map, ev]; rfl, rv⟩
    · rw [List.getElem?_append_right (by simpa using hi), List.getElem?_replicate] at e
      split at e <;> cases e
  all_goals
    by_cases hi : i < ds.length
    · rw [List.getElem?_append_left (by simpa using hi), List.getElem?_map] at e
      cases ed : ds[i]? with
      | none => rw [ed] at e; cases e
      | some x => rw [ed] at e; cases e
    · rw [List.getElem?_append_right (by simpa using hi), List.getElem?_replicate] at e
      split at e <;> cases e
theorem Rel.stayC {H0 H : Hp} {α0 α : List Addr} {σ : Sg} {s : S} (r : Rel K H0 α0 H α σ s) : StayC H0 α0 H α := ⟨r.st, r.ot, r.nw⟩
/-- behind a call -/
theorem Rel.after {H0 H H' : Hp} {α0 α α' : List Addr} {σ : Sg} {s : S} {μ' : List Cell} (r : Rel K H0 α0 H α σ s) (t : StayC H α H' α') (c : RelC K H' α' μ') : Rel K H0 α0 H' α' σ { s with μ := μ' } := by
  refine ⟨c, ⟨r.slots.len, fun i d e => ?_, fun i x e => ?_, r.slots.inj⟩, fun a o h n => ?_, fun a h => ?_, r.st.trans t.st⟩
  · obtain ⟨v, e1, e2⟩ := r.slots.val i d e
    exact ⟨v, e1, Rv.stay t.st _ _ e2⟩
  · obtain ⟨a, e1, e2, e3, e4⟩ := r.slots.own i x e
    refine ⟨a, e1, fun z => ?_, e3, e4.stay t.st (fun o h _ => t.ot a o h e2)⟩
    rcases t.nw a z with z | z
    · exact e2 z
    · obtain ⟨o, h⟩ := e4.some
      rw [z] at h
      cases h
  · refine t.ot a o (r.ot a o h n) fun z => ?_
    rcases r.nw a z with z | z
    · exact n z
    · rw [z] at h; cases h
  · rcases t.nw a h with z | z
    · exact r.nw a z
    · exact .inr (r.st.dom a z)
end
/-- a def's promise kept wherever no guard stands on the stack (so that what is shown of data can be told) -/
structure FnG (P : Program) (w : World) (K : PySem.W.Frag) (mg : Str → Option Value) (base : Heap) (k : Nat) (f : Addr) (fd : FuncData) (ps : List Str) (sp : Sp) : Prop where
  len : ∀ vs H Q E, sp vs H Q E → vs.length = ps.length
  run : ∀ (A : Around) (out : List Env) (s : Shared) (H : Hp) (args : Args) (us : List Value) (vs : List V) (Q : VK) (E : XK), Room k A → A.guards = some [] → Env0 P w K mg base A out s H → BindsTo s fd args (ps.zip us) → Vals vs us → sp vs H Q E →
    codeAny (model P w) A (.call (.ref f) args) (L2.CR (L2.CX P w) out P w H s Q E) s
theorem FnG.imp {P : Program} {w : World} {K : PySem.W.Frag} {mg : Str → Option Value} {base : Heap} {k : Nat} {f : Addr} {fd : FuncData} {ps : List Str} {sp sp' : Sp} (F : FnG P w K mg base k f fd ps sp) (h : ∀ vs H Q E, sp' vs H Q E → sp vs H Q E) : FnG P w K mg base k f fd ps sp' :=
  ⟨fun vs H Q E q => F.len vs H Q E (h vs H Q E q), fun A out s H args us vs Q E hr hg e0 hb hv q => F.run A out s H args us vs Q E hr hg e0 hb hv (h vs H Q E q)⟩
theorem FnG.mono {P : Program} {w : World} {K : PySem.W.Frag} {mg : Str → Option Value} {base : Heap} {j k : Nat} {f : Addr} {fd : FuncData} {ps : List Str} {sp : Sp} (F : FnG P w K mg base j f fd ps sp) (h : j ≤ k) : FnG P w K mg base k f fd ps sp :=
  ⟨F.len, fun A out s H args us vs Q E hr hg e0 hb hv q => F.run A out s H args us vs Q E (hr.mono h) hg e0 hb hv q⟩
theorem fng_of {P : Program} {w : World} {K : PySem.W.Frag} {mg : Str → Option Value} {base : Heap} {k : Nat} {x qual : Str} {st : Stmt} {f : Addr} {fd : FuncData} {N ps : List Str} {sp : Sp} (F : Fun K x qual st f fd) (S : FnScope N ps (defScope st)) (len : ∀ vs H Q E, sp vs H Q E → vs.length = ps.length)
    (hbody : ∀ (cdv : Value) (A : Around) (out : List Env) (s : Shared) (H : Hp) (vs : List V) (Q : VK) (E : XK), Room k (A.deeper (envOfC qual (defScope st) s.heap.objs.size f cdv)) → A.guards = some [] → sp vs H Q E →
      ∃ t, PSs (cxOf (L2.CX P w) P w K mg base N qual (defScope st) f cdv A out s H E) (defBody st) t ∧ t { nx := fun _ H' => Q .non H', rt := Q } (L2.start N vs) H) : FnG P w K mg base (k + 1) f fd ps sp := by
  obtain ⟨oc, od, kV, doc, pm, an, cdv, ct, osl, efd, lk, hcd⟩ := F.ex
  subst efd
  refine ⟨len, ?_⟩
  intro A out s H args us vs Q E hr hg e0 hb rv hsp
  have inK : K.In s.heap := e0.mod.kin.keeps (fun b o e => (e0.bs b o e).1)
  have nolim : s.heap.NoLimit := e0.mod.nolimit.keeps (fun b o e => (e0.bs b o e).1)
  have kinds : ∀ y ∈ ps.zip us, (defScope st).names.lookup y.1 = some .local ∨ ((defScope st).names.lookup y.1 = some .cell ∧ ((cellsFrom (s.heap.objs.size + 1) (defScope st).names []).lookup y.1).isSome = true) := by
    rintro ⟨n, v⟩ hy
    rcases S.par n (List.of_mem_zip hy).1 with z | z
    · exact .inl z
    · exact .inr ⟨z, PySem.W.cellsFrom_some _ _ _ (.inl z)⟩
  refine codeAny_call_function hr.depth (inK _ _ lk) rfl S.co S.gen rfl (PySem.W.codeRec_of inK hcd) (hb _ _ _ _ ?_)
  refine wpAny_newFunctionEnv_cells S.kind kinds ?_
  intro fenv env s1 ic
  subst env
  refine ⟨nolim.keeps ic.toInCall.keep, codeAny_func ?_⟩
  obtain ⟨t, pt, qt⟩ := hbody cdv A out s H vs Q E (hr.deeper _) hg hsp
  have I := inv_start (CX := L2.CX P w) (E := E) (cd := cdv) (f := f) (qual := qual) S hr.hd e0 (len _ _ _ _ hsp) rv ic
  have ends : ∀ {σ' : Sg} {H' : Hp} {s' : Shared} {v : V} {u : Value}, Inv (cxOf (L2.CX P w) P w K mg base N qual (defScope st) f cdv A out s H E) [] σ' H' s' → RelV v u → Q v H' → CE out P w H s Q u s' := by
    intro σ' H' s' v u J r q
    exact ⟨v, H', J.os, J.bare, J.base, J.hok, r, q⟩
  refine wpAny_mono (pt.run [] s1 (L2.start N vs) H _ I qt) ?_ (fun e s' z => z)
  intro fl s' z
  cases fl with
  | next =>
    obtain ⟨σ', H', J, q⟩ := z
    exact ends (v := .non) (u := .none) J rfl q
  | brk =>
    obtain ⟨_, _, _, q⟩ := z
    exact q.elim
  | cont =>
    obtain ⟨_, _, _, q⟩ := z
    exact q.elim
  | ret u =>
    obtain ⟨v, σ', H', J, r, q⟩ := z
    exact ends J r q
section
variable {X : Cx} {k : Nat} {f : Addr} {fd : FuncData} {ps : List Str} {sp : Sp} {E : Sg → XK} {x : Str} {p pos : Pos} {e : Expr} {es : List Expr} {t : TA}
theorem run_fnG {pins : List (Addr × Obj)} {σ : Sg} {H : Hp} {s : Shared} {Q : VK} {us : List Value} {vs : List V} (F : FnG X.prog X.w X.K X.mg X.base k f fd ps sp) (hr : Room k X.A) (hg : X.A.guards = some []) (hb : Binds X.K fd ps []) (hx : PassesAt (L2.CX X.prog X.w) X σ (E σ))
    (I : Inv X pins σ H s) (r : Vals vs us) (h : sp vs H Q (E σ)) : wpAny (model X.prog X.w) X.A (call (.ref f) us) (EP X pins σ Q) X.xe s := by
  have nl : (us ++ ([] : List Value)).length = ps.length := by
    rw [List.append_nil, ← r.length]
    exact F.len vs H Q (E σ) h
  have bt := hb s us I.kIn nl
  rw [List.append_nil] at bt
  refine wpAny_call (codeAny_mono (F.run X.A X.stack s H ⟨us, []⟩ us vs Q (E σ) hr hg I.env0 bt r h) ?_)
  rintro (er | fl) s' z
  · exact hx pins H s er s' I z
  · cases fl with
    | ret u => exact I.after z
    | next => exact z.elim
    | brk => exact z.elim
    | cont => exact z.elim
theorem pe_callG (F : FnG X.prog X.w X.K X.mg X.base k f fd ps sp) (hr : Room k X.A) (hgu : X.A.guards = some []) (hg : Gl X x) (hm : X.mg x = some (.ref f)) (hk : PySem.W.keepIn X.K (.ref f) = true) (hb : Binds X.K fd ps []) (hx : ∀ σ, PassesAt (L2.CX X.prog X.w) X σ (E σ))
    (ha : PA X (e :: es) t) (hdb : (x == ("__debug__" : Str)) = false := by decide) (he : starEach (e :: es) X.env = (false, eval e X.env) :: starEach es X.env := by rfl) (hpl : (backTo pos (starEach es X.env)).any (·.1) = false := by rfl) :
    PE X (.Call (.Name x p) (e :: es) [] pos) (tCallS sp E t) := by
  constructor
  intro pins s σ H Q I h
  refine wpAny_Call_Name_kw (ld_glob I hg hm (PySem.W.callWith_K (h₀ := X.base) I.ok.mod.kin hk (thn (ha.run pos pins s σ H _ I h) ?_) he hpl) hdb)
  rintro us s1 ⟨vs, H1, I1, r, q⟩
  exact ⟨I1.kIn, run_fnG F hr hgu hb (hx σ) I1 r q⟩
end
/-- what a written def is: at f, with its data, the level k -/
structure FnD (P : Program) (w : World) (K : PySem.W.Frag) (mg : Str → Option Value) (base : Heap) (x : Str) (k : Nat) (n : Nat) (F : FF) : Prop where
  ex : ∃ f fd ps, mg x = some (.ref f) ∧ PySem.W.keepIn K (.ref f) = true ∧ FnG P w K mg base k f fd ps (spD K n F) ∧ Binds K fd ps []
/-- a promise that says less -/
theorem spD.imp {K : PySem.W.Frag} {n : Nat} {F G : FF} (h : ∀ ds μ, ds.length = n → G ds μ ≠ .bad → F ds μ = G ds μ) : ∀ vs H Q E, spD K n G vs H Q E → spD K n F vs H Q E := fun vs H Q E ⟨hl, α, ds, μ, rc, rr, q⟩ => by
  refine ⟨hl, α, ds, μ, rc, rr, ?_⟩
  rw [h ds μ (by rw [← rr.length]; exact hl) (fun z => by rw [z] at q; exact q)]
  exact q
theorem FnD.imp {P : Program} {w : World} {K : PySem.W.Frag} {mg : Str → Option Value} {base : Heap} {x : Str} {k n : Nat} {F G : FF} (f : FnD P w K mg base x k n F) (h : ∀ ds μ, ds.length = n → G ds μ ≠ .bad → F ds μ = G ds μ) : FnD P w K mg base x k n G := by
  obtain ⟨a, fd, ps, h1, h2, h3, h4⟩ := f.ex
  exact ⟨a, fd, ps, h1, h2, h3.imp (spD.imp h), h4⟩
theorem FnD.mono {P : Program} {w : World} {K : PySem.W.Frag} {mg : Str → Option Value} {base : Heap} {x : Str} {j k n : Nat} {F : FF} (f : FnD P w K mg base x j n F) (h : j ≤ k) : FnD P w K mg base x k n F := by
  obtain ⟨a, fd, ps, h1, h2, h3, h4⟩ := f.ex
  exact ⟨a, fd, ps, h1, h2, h3.mono h, h4⟩
/-- the context of a def's body -/
structure BodyX (P : Program) (w : World) (K : PySem.W.Frag) (mg : Str → Option Value) (base : Heap) (N : List Str) (sc : Scope) (k : Nat) (X : Cx) : Prop where
  prog : X.prog = P
  w : X.w = w
  K : X.K = K
  mg : X.mg = mg
  base : X.base = base
  room : Room k X.A
  gu : X.A.guards = some []
/-- THE RULE for a def: its body does what g does, in whatever context -/
theorem fnD {P : Program} {w : World} {K : PySem.W.Frag} {mg : Str → Option Value} {base : Heap} {x qual : Str} {st : Stmt} {f : Addr} {fd : FuncData} {N ps : List Str} {k : Nat} (F : Fun K x qual st f fd) (hm : mg x = some (.ref f)) (hb : Binds K fd ps []) (S : FnScope N ps (defScope st))
    (G : FF) (hbody : ∀ (cdv : Value) (A : Around) (outer : List Env) (s : Shared) (H : Hp) (E : XK), Room k (A.deeper (envOfC qual (defScope st) s.heap.objs.size f cdv)) → A.guards = some [] →
      ∀ ds μ, ds.length = ps.length → G ds μ ≠ .bad → ∃ g, PSsD (cxOf (L2.CX P w) P w K mg base N qual (defScope st) f cdv A outer s H E) (defBody st) g ∧ runF g N.length ds μ = G ds μ) : FnD P w K mg base x (k + 1) ps.length G := by
  refine ⟨f, fd, ps, hm, F.kp, fng_of F S (fun vs H Q E h => h.1) (fun cdv A outer s H vs Q E hr hgu h => ?_), hb⟩
  obtain ⟨hl, α, ds, μ, rc, rr, q⟩ := h
  have hld : ds.length = ps.length := by rw [← rr.length]; exact hl
  obtain ⟨g, hg, eg⟩ := hbody cdv A outer s H E hr hgu ds μ hld (fun z => by rw [z] at q; exact q)
  have tk : Takes (cxOf (L2.CX P w) P w K mg base N qual (defScope st) f cdv A outer s H E) (fun cls d _ H' => E cls d H') := takes_of (E := E) (E₁ := fun e' s'' => L2.CX P w outer H s E e' s'') rfl rfl rfl rfl
  obtain ⟨t, pt, qt⟩ := hg.run _ tk
  refine ⟨t, pt, qt H α (start N vs) H α _ _ (Rel.start rc rr) ?_⟩
  rw [← eg] at q
  unfold runF at q
  cases e : g ⟨ds.map .val ++ List.replicate (N.length - ds.length) .no, μ⟩ <;> rw [e] at q <;> simp only at q
  · exact fun σ' H' α' r' _ => q .non H' α' r'.stayC r'.cells (by simp only [Rv])
  · exact fun v σ' H' α' r' rv => q v H' α' r'.stayC r'.cells rv
  · exact fun a σ' H' α' r' rf => q a H' α' r'.stayC r'.cells rf.1 rf.2.1 rf.2.2.1
  · exact q.elim
  · exact q.elim
  · exact fun cls dd σ' H' α' r' x => q cls dd H' α' r'.stayC r'.cells x
  · exact q.elim
/-! calls -/
def dCall (F : FF) (fa : FA) : FE := fun s => (fa s).bind fun ds s1 => if ds.all noOwn then (match F ds s1.μ with
  | .ok d μ' => .ok d { s1 with μ := μ' }
  | .exc e μ' => .exc e { s1 with μ := μ' }
  | _ => .bad) else .bad
def dCallF (F : FF) (fa : FA) : FC := fun s => (fa s).bind fun ds s1 => if ds.all noOwn then (match F ds s1.μ with
  | .okc c μ' => .ok c { s1 with μ := μ' }
  | .exc e μ' => .exc e { s1 with μ := μ' }
  | _ => .bad) else .bad
section
variable {X : Cx} {x : Str} {k n : Nat} {F : FF} {p pos : Pos}
theorem call_core {es : List Expr} {fa : FA} {W : WX} {t : TA} {α0 : List Addr} {H0 : Hp} (qa : ∀ H0 α0 σ H α s Q, Rel X.K H0 α0 H α σ s → PostA X.K H0 α0 σ W H α Q (fa s) → t σ H Q) (hn : n = es.length) (hlen : ∀ s ds s1, fa s = .ok ds s1 → ds.length = es.length)
    {σ : Sg} {H : Hp} {α : List Addr} {s : S} {Q : VK} (r : Rel X.K H0 α0 H α σ s) (q : PostE X.K H0 α0 σ W H α Q (dCall F fa s)) : tCallS (spD X.K n F) (WE W) t σ H Q := by
  refine qa H0 α0 σ H α s _ r ?_
  unfold dCall at q
  cases ea : fa s with
  | bad => rw [ea] at q; exact q.elim
  | exc e s1 => rw [ea] at q; exact q
  | ok ds s1 =>
    rw [ea] at q
    intro vs H1 α1 r1 t1 rv
    simp only [Res.bind] at q
    split at q
    · rename_i hno
      have rr := rv.rvs hno
      refine ⟨by rw [rr.length, hlen _ _ _ ea, hn], α1, ds, s1.μ, r1.cells, rr, ?_⟩
      cases eF : F ds s1.μ <;> rw [eF] at q <;> simp only at q
      · exact fun v H' α' tc c rv => q v H' α' (r1.after tc c) (t1.trans tc.st) (Rv.x rv)
      · exact q.elim
      · exact fun cls dd H' α' tc c x => q cls dd H' α' (r1.after tc c) x
      · exact q.elim
    · exact q.elim
theorem call_coreF {es : List Expr} {fa : FA} {W : WX} {t : TA} {α0 : List Addr} {H0 : Hp} (qa : ∀ H0 α0 σ H α s Q, Rel X.K H0 α0 H α σ s → PostA X.K H0 α0 σ W H α Q (fa s) → t σ H Q) (hn : n = es.length) (hlen : ∀ s ds s1, fa s = .ok ds s1 → ds.length = es.length)
    {σ : Sg} {H : Hp} {α : List Addr} {s : S} {Q : VK} (r : Rel X.K H0 α0 H α σ s) (q : PostF X.K H0 α0 σ W H α Q (dCallF F fa s)) : tCallS (spD X.K n F) (WE W) t σ H Q := by
  refine qa H0 α0 σ H α s _ r ?_
  unfold dCallF at q
  cases ea : fa s with
  | bad => rw [ea] at q; exact q.elim
  | exc e s1 => rw [ea] at q; exact q
  | ok ds s1 =>
    rw [ea] at q
    intro vs H1 α1 r1 t1 rv
    simp only [Res.bind] at q
    split at q
    · rename_i hno
      have rr := rv.rvs hno
      refine ⟨by rw [rr.length, hlen _ _ _ ea, hn], α1, ds, s1.μ, r1.cells, rr, ?_⟩
      cases eF : F ds s1.μ <;> rw [eF] at q <;> simp only at q
      · exact q.elim
      · rename_i c μ'
        intro a H' α' tc cc hc na hn
        refine q a H' α' (r1.after tc cc) (t1.trans tc.st) ⟨hc, na, r1.free0 hn, fun i c' e1 e2 => ?_⟩
        obtain ⟨b, e3, e4, e5, e6⟩ := r1.slots.own i c' e1
        rw [e2] at e3
        cases e3
        obtain ⟨o, h⟩ := e6.some
        rw [hn] at h
        cases h
      · exact fun cls dd H' α' tc c x => q cls dd H' α' (r1.after tc c) x
      · exact q.elim
    · exact q.elim
/-- a list of arguments has their number -/
structure PALen (es : List Expr) (fa : FA) : Prop where
  len : ∀ s ds s1, fa s = .ok ds s1 → ds.length = es.length
theorem al_n : PALen [] dNil := ⟨fun s ds s1 h => by cases h; rfl⟩
theorem al_c {e : Expr} {es : List Expr} {fa : FE} {fr : FA} (h : PALen es fr) : PALen (e :: es) (dCons fa fr) := ⟨fun s ds s1 q => by
  unfold dCons at q
  cases ea : fa s with
  | bad => rw [ea] at q; cases q
  | exc e s1 => rw [ea] at q; cases q
  | ok d s2 =>
    rw [ea] at q
    simp only [Res.bind] at q
    cases er : fr s2 with
    | bad => rw [er] at q; cases q
    | exc e s1 => rw [er] at q; cases q
    | ok ds2 s3 =>
      rw [er] at q
      cases q
      simp [h.len _ _ _ er]⟩
theorem pd_call {e : Expr} {es : List Expr} {fa : FA} (f : FnD X.prog X.w X.K X.mg X.base x k n F) (hr : Room k X.A) (hgu : X.A.guards = some []) (hg : Gl X x) (ha : PAD X (e :: es) fa) (hl : PALen (e :: es) fa) (hn : n = (e :: es).length := by rfl) (hdb : (x == ("__debug__" : Str)) = false := by decide)
    (he : starEach (e :: es) X.env = (false, eval e X.env) :: starEach es X.env := by rfl) (hpl : (backTo pos (starEach es X.env)).any (·.1) = false := by rfl) : PED X (.Call (.Name x p) (e :: es) [] pos) (dCall F fa) := by
  obtain ⟨a, fd, ps, h1, h2, h3, h4⟩ := f.ex
  refine ⟨fun W tk => ?_⟩
  obtain ⟨t, pa, qa⟩ := ha.run W tk
  exact ⟨_, pe_callG h3 hr hgu hg h1 h2 h4 (fun σ => passAt tk σ) pa hdb he hpl, fun H0 α0 σ H α s Q r q => call_core qa hn hl.len r q⟩
theorem pf_call {e : Expr} {es : List Expr} {fa : FA} (f : FnD X.prog X.w X.K X.mg X.base x k n F) (hr : Room k X.A) (hgu : X.A.guards = some []) (hg : Gl X x) (ha : PAD X (e :: es) fa) (hl : PALen (e :: es) fa) (hn : n = (e :: es).length := by rfl) (hdb : (x == ("__debug__" : Str)) = false := by decide)
    (he : starEach (e :: es) X.env = (false, eval e X.env) :: starEach es X.env := by rfl) (hpl : (backTo pos (starEach es X.env)).any (·.1) = false := by rfl) : PFD X (.Call (.Name x p) (e :: es) [] pos) (dCallF F fa) := by
  obtain ⟨a, fd, ps, h1, h2, h3, h4⟩ := f.ex
  refine ⟨fun W tk => ?_⟩
  obtain ⟨t, pa, qa⟩ := ha.run W tk
  exact ⟨_, pe_callG h3 hr hgu hg h1 h2 h4 (fun σ => passAt tk σ) pa hdb he hpl, fun H0 α0 σ H α s Q r q => call_coreF qa hn hl.len r q⟩
end
/-! ### 21. Calls of built-ins -/
/-- the built-in f does g: over the machine -/
def BI (X : Cx) (f : Value) (g : S → List D → Option D) : Prop :=
  ∀ (pins : List (Addr × Obj)) (s : Shared) (σ0 : Sg) (H : Hp) (xs : List V) (us : List Value) (Q : VK) (H0 : Hp) (σ : Sg) (α0 α : List Addr) (st : S) (ds : List D) (d : D), Inv X pins σ0 H s → Rel X.K H0 α0 H α σ st → Rxs X.K H α σ ds xs → Vals xs us → g st ds = some d →
    (∀ v H' α', Rel X.K H0 α0 H' α' σ st → Stay H α H' α' → Rx X.K H' α' σ d v → Q v H') → wpAny (model X.prog X.w) X.A (call f us) (EP X pins σ0 Q) X.xe s
def rBI (K : PySem.W.Frag) (g : S → List D → Option D) : List V → Hp → VK → Prop := fun xs H Q => ∃ H0 σ α0 α st ds d, Rel K H0 α0 H α σ st ∧ Rxs K H α σ ds xs ∧ g st ds = some d ∧ ∀ v H' α', Rel K H0 α0 H' α' σ st → Stay H α H' α' → Rx K H' α' σ d v → Q v H'
theorem BI.call {X : Cx} {f : Value} {g : S → List D → Option D} (h : BI X f g) : CallR X f (rBI X.K g) := fun pins s σ0 H xs us Q I rv ⟨H0, σ, α0, α, st, ds, d, rl, rx, eg, q⟩ => h pins s σ0 H xs us Q H0 σ α0 α st ds d I rl rx rv eg q
/-- from a rule by values -/
theorem BI.of {X : Cx} {f : Value} {r : List V → Hp → VK → Prop} {g : S → List D → Option D} (hc : CallR X f r)
    (h : ∀ (H0 : Hp) (α0 : List Addr) (σ : Sg) (H : Hp) (α : List Addr) (s : S) (xs : List V) (ds : List D) (d : D) (Q : VK), Rel X.K H0 α0 H α σ s → Rxs X.K H α σ ds xs → g s ds = some d →
      (∀ v H' α', Rel X.K H0 α0 H' α' σ s → Stay H α H' α' → Rx X.K H' α' σ d v → Q v H') → r xs H fun v H1 => Gh H1 (Q v)) : BI X f g :=
  fun pins s σ0 H xs us Q H0 σ α0 α st ds d I rl rx rv eg q => callGh hc pins s σ0 H xs us Q I rv (h H0 α0 σ H α st xs ds d Q rl rx eg q)
theorem BI.or {X : Cx} {f : Value} {g g' : S → List D → Option D} (h : BI X f g) (h' : BI X f g') : BI X f (fun s ds => (g s ds).or (g' s ds)) := fun pins s σ0 H xs us Q H0 σ α0 α st ds d I rl rx rv eg q => by
  dsimp only at eg
  cases e : g st ds with
  | some d' =>
    rw [e] at eg
    obtain rfl : d' = d := Option.some.inj eg
    exact h pins s σ0 H xs us Q H0 σ α0 α st ds d' I rl rx rv e q
  | none =>
    rw [e] at eg
    have eg : g' st ds = some d := eg
    exact h' pins s σ0 H xs us Q H0 σ α0 α st ds d I rl rx rv eg q
def dB (g : S → List D → Option D) (fa : FA) : FE := fun s => (fa s).bind fun ds s1 => match g s1 ds with | some d => .ok d s1 | none => .bad
section
variable {X : Cx} {x : Str} {p pos : Pos} {e : Expr} {es : List Expr} {fa : FA} {g : S → List D → Option D} {id T : String}
theorem bi_core {t : TA} {W : WX} {H0 : Hp} {α0 : List Addr} (qa : ∀ H0 α0 σ H α s Q, Rel X.K H0 α0 H α σ s → PostA X.K H0 α0 σ W H α Q (fa s) → t σ H Q) {σ : Sg} {H : Hp} {α : List Addr} {s : S} {Q : VK} (r : Rel X.K H0 α0 H α σ s) (q : PostE X.K H0 α0 σ W H α Q (dB g fa s)) : tCB (rBI X.K g) t σ H Q := by
  refine qa H0 α0 σ H α s _ r ?_
  unfold dB at q
  cases ea : fa s with
  | bad => rw [ea] at q; exact q.elim
  | exc e s1 => rw [ea] at q; exact q
  | ok ds s1 =>
    rw [ea] at q
    intro vs H1 α1 r1 t1 rv
    simp only [Res.bind] at q
    split at q
    · rename_i d eg
      exact ⟨H0, σ, α0, α1, s1, ds, d, r1, rv, eg, fun v H' α' r' t' rx => q v H' α' r' (t1.trans t') rx⟩
    · exact q.elim
theorem pd_b (hc : BI X (.builtin id) g) (hg : Gl X x) (hm : X.mg x = none) (hv : bootBuiltins x = some (.builtin id)) (ha : PAD X (e :: es) fa) (hn : x ≠ "__name__" := by decide) (hdb : (x == ("__debug__" : Str)) = false := by decide)
    (he : starEach (e :: es) X.env = (false, eval e X.env) :: starEach es X.env := by rfl) (hpl : (backTo pos (starEach es X.env)).any (·.1) = false := by rfl) : PED X (.Call (.Name x p) (e :: es) [] pos) (dB g fa) := by
  refine ⟨fun W tk => ?_⟩
  obtain ⟨t, pa, qa⟩ := ha.run W tk
  exact ⟨_, pe_callB hc.call hg hm hv pa hn hdb he hpl, fun H0 α0 σ H α s Q r q => bi_core qa r q⟩
theorem pd_ty (hc : BI X (.type T) g) (hg : Gl X x) (hm : X.mg x = none) (hv : bootBuiltins x = some (.type T)) (ha : PAD X (e :: es) fa) (hn : x ≠ "__name__" := by decide) (hdb : (x == ("__debug__" : Str)) = false := by decide)
    (he : starEach (e :: es) X.env = (false, eval e X.env) :: starEach es X.env := by rfl) (hpl : (backTo pos (starEach es X.env)).any (·.1) = false := by rfl) : PED X (.Call (.Name x p) (e :: es) [] pos) (dB g fa) := by
  refine ⟨fun W tk => ?_⟩
  obtain ⟨t, pa, qa⟩ := ha.run W tk
  exact ⟨_, pe_callTy hc.call hg hm hv pa hn hdb he hpl, fun H0 α0 σ H α s Q r q => bi_core qa r q⟩
end
end DL

namespace DL
open PySem PySem.Spec PyProof.Rows L2
/-! ### 22. The built-ins -/
def gLen : S → List D → Option D := fun s ds => match ds with
  | [.str z] => if z.length ≤ 16777216 then some (.int z.length) else none
  | [d] => (asSeq s d).map fun xs => .int xs.length
  | _ => none
def gAbs : S → List D → Option D := fun _ ds => match ds with | [.int i] => some (.int (if i < 0 then -i else i)) | _ => none
def gMax2 : S → List D → Option D := fun _ ds => match ds with | [.int i, .int j] => some (.int (if j > i then j else i)) | _ => none
def gMin2 : S → List D → Option D := fun _ ds => match ds with | [.int i, .int j] => some (.int (if j < i then j else i)) | _ => none
def gInt : S → List D → Option D := fun _ ds => match ds with | [.int i] => some (.int i) | [.bl b] => some (.int (if b then 1 else 0)) | _ => none
def gTuple : S → List D → Option D := fun s ds => match ds with | [d] => (asSeq s d).map .tup | _ => none
def intD : D → Option Int | .int i => some i | _ => none
def intsD (xs : List D) : Option (List Int) := xs.mapM intD
def gSum : S → List D → Option D := fun s ds => match ds with | [d] => (asL s d).bind fun xs => (intsD xs).map fun ns => .int ns.sum | _ => none
/-- what is shown of data -/
def viaOwn : D → Bool | .own _ | .ref _ => true | _ => false
def shownD (s : S) (d : D) : Option Str := (toPyS s d).bind fun p => if p.showable && ((!viaOwn d && noL d) || !p.hasDict) && decide (p.depth ≤ 60) && decide (p.shown.length ≤ 16777216) then some p.shown else none
def gRepr : S → List D → Option D := fun s ds => match ds with | [d] => (shownD s d).map .str | _ => none
def gStr : S → List D → Option D := fun s ds => match ds with | [.str x] => some (.str x) | [d] => (shownD s d).map .str | _ => none
def tyD (s : S) : D → Option String
  | .non => some "NoneType"
  | .bl _ => some "bool"
  | .int _ => some "int"
  | .str _ => some "str"
  | .tup _ => some "tuple"
  | .lst _ => some "list"
  | .dct _ => some "dict"
  | .own i => (match cellAt s (.own i) with | some (.lst _) => some "list" | some (.dct _) => some "dict" | _ => none)
  | .ref i => (match cellAt s (.ref i) with | some (.lst _) => some "list" | some (.dct _) => some "dict" | _ => none)
  | _ => none
def gIsi : S → List D → Option D := fun s ds => match ds with | [d, .ty n] => (tyD s d).bind fun t => (kitB t n).map .bl | _ => none
def truthP (s : S) (xs : List D) : Option (List PyData) := (toPyL xs).bind fun ps => if PyData.plainAll ps && ps.all (fun p => match p with | .str x => decide (x.length ≤ 16777216) | .list l => decide (l.length ≤ 16777216) | .tuple l => decide (l.length ≤ 16777216) | _ => true) then some ps else none
def gAll : S → List D → Option D := fun s ds => match ds with | [d] => (asL s d).bind fun xs => (truthP s xs).map fun ps => .bl (ps.all PyData.truthy) | _ => none
def gAny : S → List D → Option D := fun s ds => match ds with | [d] => (asL s d).bind fun xs => (truthP s xs).map fun ps => .bl (ps.any PyData.truthy) | _ => none
section
variable {X : Cx}
theorem Rxs.one {K : PySem.W.Frag} {H : Hp} {α : List Addr} {σ : Sg} {d : D} {vs : List V} (h : Rxs K H α σ [d] vs) : ∃ v, vs = [v] ∧ Rx K H α σ d v := by
  cases h with
  | cons a b => cases b; exact ⟨_, rfl, a⟩
theorem Rxs.two {K : PySem.W.Frag} {H : Hp} {α : List Addr} {σ : Sg} {d e : D} {vs : List V} (h : Rxs K H α σ [d, e] vs) : ∃ v w, vs = [v, w] ∧ Rx K H α σ d v ∧ Rx K H α σ e w := by
  cases h with
  | cons a b =>
    obtain ⟨w, rfl, q⟩ := Rxs.one b
    exact ⟨_, w, rfl, a, q⟩
theorem bi_len : BI X (.builtin "len") gLen := .of L2.call_len fun H0 α0 σ H α s xs ds d Q r rx e q => by
  unfold gLen at e
  split at e
  · obtain ⟨v, rfl, rv⟩ := rx.one
    split at e
    · rename_i hz
      rw [← sizeLine_eq] at hz
      cases e
      rw [rx_str rv]
      exact ⟨_, _, rfl, ⟨hz, rfl⟩, .inl (q _ _ _ r (Stay.refl _ _) ox_int)⟩
    · cases e
  · obtain ⟨v, rfl, rv⟩ := rx.one
    simp only [Option.map_eq_some_iff] at e
    obtain ⟨ys, e, rfl⟩ := e
    obtain ⟨a, vs, rfl, hs, rr⟩ := asSeq_ok r rv e
    refine ⟨_, ys.length, rfl, ?_, .inl (q _ _ _ r (Stay.refl _ _) ox_int)⟩
    rcases hs with hs | hs
    · exact .inl ⟨vs, hs, rr.length.symm⟩
    · exact .inr ⟨vs, hs, rr.length.symm⟩
  · cases e
theorem bi_abs : BI X (.builtin "abs") gAbs := .of L2.call_abs fun H0 α0 σ H α s xs ds d Q r rx e q => by
  unfold gAbs at e
  split at e
  · obtain ⟨v, rfl, rv⟩ := rx.one
    cases e
    rw [rx_int rv]
    exact ⟨_, rfl, .inl (q _ _ _ r (Stay.refl _ _) ox_int)⟩
  · cases e
theorem bi_max2 (hc : X.calm = true) : BI X (.builtin "max") gMax2 := .of (L2.call_max2 hc) fun H0 α0 σ H α s xs ds d Q r rx e q => by
  unfold gMax2 at e
  split at e
  · obtain ⟨v, w, rfl, rv, rw⟩ := rx.two
    cases e
    rw [rx_int rv, rx_int rw]
    exact ⟨_, _, rfl, .inl (q _ _ _ r (Stay.refl _ _) ox_int)⟩
  · cases e
theorem bi_min2 (hc : X.calm = true) : BI X (.builtin "min") gMin2 := .of (L2.call_min2 hc) fun H0 α0 σ H α s xs ds d Q r rx e q => by
  unfold gMin2 at e
  split at e
  · obtain ⟨v, w, rfl, rv, rw⟩ := rx.two
    cases e
    rw [rx_int rv, rx_int rw]
    exact ⟨_, _, rfl, .inl (q _ _ _ r (Stay.refl _ _) ox_int)⟩
  · cases e
theorem bi_int : BI X (.type "int") gInt := .of L2.call_int1 fun H0 α0 σ H α s xs ds d Q r rx e q => by
  unfold gInt at e
  split at e
  · obtain ⟨v, rfl, rv⟩ := rx.one
    cases e
    rw [rx_int rv]
    exact .inl ⟨_, rfl, .inl (q _ _ _ r (Stay.refl _ _) ox_int)⟩
  · obtain ⟨v, rfl, rv⟩ := rx.one
    cases e
    rw [rx_bl rv]
    exact .inr ⟨_, rfl, .inl (q _ _ _ r (Stay.refl _ _) ox_int)⟩
  · cases e
theorem bi_tuple : BI X (.type "tuple") gTuple := .of L2.call_tuple_of fun H0 α0 σ H α s xs ds d Q r rx e q => by
  unfold gTuple at e
  split at e
  · rename_i dd
    obtain ⟨v, rfl, rv⟩ := rx.one
    simp only [Option.map_eq_some_iff] at e
    obtain ⟨ys, e, rfl⟩ := e
    have key : ∀ d, asL s d = some ys → Rx X.K H α σ d v → ∃ p ys', [v] = [V.ref p] ∧ ((SqL X.K H p ys' ∧ ∀ l, H l = none → Gh (upd H l (.tup ys')) (Q (.ref l))) ∨ (SqT X.K H p ys' ∧ Gh H (Q (.ref p)))) := fun d e rv => by
      obtain ⟨a, vs, rfl, hs, rr⟩ := asL_ok r rv e
      exact ⟨a, vs, rfl, .inl ⟨hs, fun l hl => .inl (new_tup r hl rr q)⟩⟩
    unfold asSeq at e
    split at e
    · cases e
      obtain ⟨a, vs, rfl, hs, rr⟩ := asT_ok rv
      exact ⟨a, vs, rfl, .inr ⟨hs, .inl (q _ _ _ r (Stay.refl _ _) rv)⟩⟩
    · exact key _ e rv
  · cases e
theorem rvs_ints {K : PySem.W.Frag} {H : Hp} {α : List Addr} : ∀ (ys : List D) {ns : List Int} {vs : List V}, intsD ys = some ns → Rvs K H α ys vs → vs = ns.map V.int
  | [], ns, vs, e, r => by
    unfold intsD at e
    simp only [List.mapM_nil, Option.pure_def, Option.some.injEq] at e
    subst e
    show vs = []
    simpa only [Rvs] using r
  | y :: ys, ns, vs, e, r => by
    unfold intsD at e
    rw [List.mapM_cons] at e
    simp only [Option.bind_eq_bind, Option.bind_eq_some_iff, Option.pure_def, Option.some.injEq] at e
    obtain ⟨i, ei, ns2, e3, rfl⟩ := e
    simp only [Rvs] at r
    obtain ⟨v, r2, rfl, h1, h2⟩ := r
    have := rvs_ints ys (ns := ns2) e3 h2
    subst this
    unfold intD at ei
    split at ei
    · cases ei
      simp only [Rv] at h1
      subst h1
      rfl
    · cases ei
theorem bi_sum (hc : X.calm = true) : BI X (.builtin "sum") gSum := .of (L2.cr_sum hc) fun H0 α0 σ H α s xs ds d Q r rx e q => by
  unfold gSum at e
  split at e
  · obtain ⟨v, rfl, rv⟩ := rx.one
    simp only [Option.bind_eq_some_iff, Option.map_eq_some_iff] at e
    obtain ⟨ys, e1, ns, e2, rfl⟩ := e
    obtain ⟨a, vs, rfl, hs, rr⟩ := asL_ok r rv e1
    obtain rfl := rvs_ints ys e2 rr
    exact ⟨a, ns, rfl, hs, .inl (q _ _ _ r (Stay.refl _ _) ox_int)⟩
  · cases e
theorem hreads {pins : List (Addr × Obj)} {s : Shared} {σ0 σ : Sg} {H H0 : Hp} {α0 α : List Addr} {st : S} {d : D} {v : V} {u : Value} {p : PyData} (I : Inv X pins σ0 H s) (rl : Rel X.K H0 α0 H α σ st) (h : Rx X.K H α σ d v) (r : RelV v u) (e : toPyS st d = some p)
    (n : ((!viaOwn d && noL d) || !p.hasDict) = true) : ∃ as, Reads s.heap u p as ∧ (p.hasDict = true → sysModules ∉ as) := by
  cases hd : p.hasDict with
  | false =>
    obtain ⟨as, q⟩ := rx_reads I rl h r e
    exact ⟨as, q, fun z => nomatch z⟩
  | true =>
    rw [hd] at n
    simp only [Bool.not_true, Bool.or_false, Bool.and_eq_true, Bool.not_eq_true'] at n
    cases d <;> simp only [viaOwn, Bool.false_eq_true, false_and, reduceCtorEq] at n
    all_goals
      obtain ⟨as, q, k⟩ := reads_ok I _ v u p h r e
      exact ⟨as, q, fun _ => k n.2⟩
theorem bi_repr (hgu : X.A.guards = some []) (hu : X.A.units + 65 < cLine) : BI X (.builtin "repr") gRepr := by
  intro pins s σ0 H xs us Q H0 σ α0 α st ds d I rl rx rv eg q
  unfold gRepr at eg
  split at eg
  · rename_i dd
    simp only [Option.map_eq_some_iff] at eg
    obtain ⟨z, eg, rfl⟩ := eg
    unfold shownD at eg
    simp only [Option.bind_eq_some_iff] at eg
    obtain ⟨p, ep, eg⟩ := eg
    split at eg
    · rename_i hc
      cases eg
      simp only [Bool.and_eq_true, decide_eq_true_eq] at hc
      obtain ⟨⟨⟨h1, h2⟩, h3⟩, h4⟩ := hc
      rw [← sizeLine_eq] at h4
      obtain ⟨v, rfl, rx1⟩ := rx.one
      obtain ⟨u, rfl, rv1⟩ := vals1 rv
      obtain ⟨as, rd, hs⟩ := hreads I rl rx1 rv1 ep h2
      have fin : ∀ t, EP X pins σ0 Q (.str p.shown t) { s with toks := s.toks + 1 } := fun t => ⟨.str p.shown, H, I.tok _, ⟨t, rfl⟩, q _ H α rl (Stay.refl _ _) ox_str⟩
      cases rd with
      | none => exact PySem.P.repr_of_none (fin _)
      | bool b => exact PySem.P.repr_of_bool (by simpa only [PyData.shown] using fin _)
      | int i t => exact PySem.P.repr_of_int (by simpa [PyData.showable] using h1) (by simpa only [PyData.shown] using fin _)
      | str y t => exact PySem.P.repr_of_str (by simpa only [PyData.shown] using fin _) (by simpa only [PyData.shown] using h4)
      | list a1 a2 a3 a4 =>
        refine repr_of_reads' (.list a1 a2 a3 a4) h1 hs hgu (by omega) (fun _ _ e => e) (fun h' tk u hk => ?_) h4
        exact ⟨.str _, H, I.kept hk, ⟨_, rfl⟩, q _ H α rl (Stay.refl _ _) ox_str⟩
      | tuple a1 a2 a3 a4 =>
        refine repr_of_reads' (.tuple a1 a2 a3 a4) h1 hs hgu (by omega) (fun _ _ e => e) (fun h' tk u hk => ?_) h4
        exact ⟨.str _, H, I.kept hk, ⟨_, rfl⟩, q _ H α rl (Stay.refl _ _) ox_str⟩
      | dict a1 a2 a3 a4 a5 =>
        refine repr_of_reads' (.dict a1 a2 a3 a4 a5) h1 hs hgu (by omega) (fun _ _ e => e) (fun h' tk u hk => ?_) h4
        exact ⟨.str _, H, I.kept hk, ⟨_, rfl⟩, q _ H α rl (Stay.refl _ _) ox_str⟩
    · cases eg
  · cases eg
/-- the type of a value -/
theorem kit_d {pins : List (Addr × Obj)} {s : Shared} {σ0 σ : Sg} {H H0 : Hp} {α0 α : List Addr} {st : S} {d : D} {v : V} {u : Value} {T : String} (I : Inv X pins σ0 H s) (rl : Rel X.K H0 α0 H α σ st) (h : Rx X.K H α σ d v) (r : RelV v u) (e : tyD st d = some T) :
    ∃ P : Heap → Prop, PySem.W.KitX X.K u (.type T) P ∧ P s.heap ∧ u ≠ .builtin "__main__.__loader__#opaque" := by
  have viaC : ∀ (a : Addr) (c : Cell), CellOk X.K H α a c → (match c with | .lst _ => some "list" | .dct _ => some "dict" | _ => none) = some T → ∃ P : Heap → Prop, PySem.W.KitX X.K (.ref a) (.type T) P ∧ P s.heap ∧ (Value.ref a) ≠ .builtin "__main__.__loader__#opaque" := by
    intro a c hc e
    cases c <;> simp only [Option.some.injEq, reduceCtorEq] at e
    · subst e
      obtain ⟨vs, ha, _⟩ := hc
      exact kit_of I (x := .ref a) rfl (.base (.lst ha))
    · subst e
      rcases hc with ⟨kv, ha, _⟩ | ⟨kv, ha, _⟩
      · exact kit_of I (x := .ref a) rfl (.base (.dK ha))
      · exact kit_of I (x := .ref a) rfl (.base (.dT ha))
  cases d <;> simp only [tyD, Option.some.injEq, reduceCtorEq] at e
  case non => subst e; rw [rx_non h] at r; exact kit_of I r (.base .non)
  case bl b => subst e; rw [rx_bl h] at r; exact kit_of I r (.base (.bl b))
  case int i => subst e; rw [rx_int h] at r; exact kit_of I r (.base (.int i))
  case str i => subst e; rw [rx_str h] at r; exact kit_of I r (.base (.str i))
  case ref n =>
    have h' : Rv X.K H α (.ref n) v := h
    simp only [Rv] at h'
    obtain ⟨a, ha, rfl⟩ := h'
    cases r
    simp only [cellAt] at e
    cases hc : st.μ[n]? with
    | none => rw [hc] at e; cases e
    | some c =>
      rw [hc] at e
      exact viaC a c (rl.cells.at_ n a c ha hc) (by cases c <;> simpa using e)
  case own n =>
    have h' : σ[n]? = some (some v) := h
    simp only [cellAt] at e
    cases hc : st.δ[n]? with
    | none => rw [hc] at e; simp at e
    | some c =>
      rw [hc] at e
      cases c with
      | no => simp at e
      | val _ => simp at e
      | own c =>
        obtain ⟨a, ha, _, _, q⟩ := rl.slots.own n c hc
        rw [h'] at ha
        cases ha
        cases r
        exact viaC a c q (by cases c <;> simpa using e)
  case tup xs =>
    subst e
    obtain ⟨a, vs, rfl, hs, _⟩ := asT_ok h
    rcases hs with (hs | ⟨o, hs⟩) | ⟨o, its, n, hk, hc, _⟩
    · exact kit_of I r (.base (.tup hs))
    · exact kit_of I r (.fTuple hs)
    · exact kit_of I r (.kTuple hk hc)
  case lst xs =>
    subst e
    have h' : Rv X.K H α (.lst xs) v := h
    simp only [Rv] at h'
    obtain ⟨a, vs, rfl, hs, _⟩ := h'
    rcases hs with ⟨o, hs⟩ | ⟨o, its, n, hk, hc, _⟩
    · exact kit_of I r (.base (.frz hs))
    · exact kit_of I r (.kList hk hc)
  case dct kvs =>
    subst e
    have h' : Rv X.K H α (.dct kvs) v := h
    simp only [Rv] at h'
    obtain ⟨a, o, rfl, ⟨kv, hf, _⟩ | ⟨kv, hf, _⟩⟩ := h'
    · exact kit_of I r (.fDict hf)
    · cases (show u = Value.ref a from r)
      obtain ⟨_, _, _, _, _, o2, es, ep, h1, h2, _⟩ := (show ObjOk X.prog X.w H s.heap a (.frz o (.dT kv)) from I.hok a _ hf)
      exact ⟨_, PySem.W.kitx_dict, ⟨o2, h1, h2.1⟩, fun z => nomatch z⟩
theorem bi_isi : BI X (.builtin "isinstance") gIsi := by
  intro pins s σ0 H xs us Q H0 σ α0 α st ds d I rl rx rv eg q
  unfold gIsi at eg
  split at eg
  · simp only [Option.bind_eq_some_iff, Option.map_eq_some_iff] at eg
    obtain ⟨T, et, b, eb, rfl⟩ := eg
    obtain ⟨v, w, rfl, rx1, rx2⟩ := rx.two
    obtain ⟨u1, u2, rfl, rv1, rv2⟩ := vals2 rv
    have h2 : Rv X.K H α (.ty _) w := rx2
    simp only [Rv] at h2
    subst h2
    cases (show u2 = Value.type _ from rv2)
    obtain ⟨P, Z, p, hx⟩ := kit_d I rl rx1 rv1 et
    exact PySem.W.kia_one Z I.kIn p (kit_ty eb) hx fun tk => ⟨.bl b, H, I.tok tk, rfl, q _ H α rl (Stay.refl _ _) ox_bl⟩
  · cases eg
theorem fits_of {ps : List PyData} (h : (ps.all fun p => match p with | .str x => decide (x.length ≤ 16777216) | .list l => decide (l.length ≤ 16777216) | .tuple l => decide (l.length ≤ 16777216) | _ => true) = true) : ∀ x ∈ ps, x.fits63 := by
  intro x hx
  have := List.all_eq_true.mp h x hx
  cases x <;> simp only [decide_eq_true_eq] at this <;> simp only [PyData.fits63] <;> first | trivial | omega
theorem bi_all (hc : X.calm = true) : BI X (.builtin "all") gAll := by
  intro pins s σ0 H xs us Q H0 σ α0 α st ds d I rl rx rv eg q
  unfold gAll at eg
  split at eg
  · simp only [Option.bind_eq_some_iff, Option.map_eq_some_iff] at eg
    obtain ⟨ys, e1, ps, e2, rfl⟩ := eg
    unfold truthP at e2
    simp only [Option.bind_eq_some_iff] at e2
    obtain ⟨ps', e2, e3⟩ := e2
    split at e3
    · rename_i hh
      cases e3
      rw [Bool.and_eq_true] at hh
      obtain ⟨v, rfl, rx1⟩ := rx.one
      obtain ⟨u, rfl, rv1⟩ := vals1 rv
      obtain ⟨a, vs, rfl, hs, rr⟩ := asL_ok rl rx1 e1
      cases (show u = Value.ref a from rv1)
      obtain ⟨its, rv2, hl, _⟩ := I.list hs
      obtain ⟨as, rd, _⟩ := readsL_ok I ys vs its ps rr rv2 e2
      exact PySem.W.all_list_data (I.ok.hd hc) hl.isList (by simpa using rd) hh.1 (fits_of hh.2) fun h' tk hk => ⟨.bl _, H, I.kept hk, rfl, q _ H α rl (Stay.refl _ _) ox_bl⟩
    · cases e3
  · cases eg
theorem bi_any (hc : X.calm = true) : BI X (.builtin "any") gAny := by
  intro pins s σ0 H xs us Q H0 σ α0 α st ds d I rl rx rv eg q
  unfold gAny at eg
  split at eg
  · simp only [Option.bind_eq_some_iff, Option.map_eq_some_iff] at eg
    obtain ⟨ys, e1, ps, e2, rfl⟩ := eg
    unfold truthP at e2
    simp only [Option.bind_eq_some_iff] at e2
    obtain ⟨ps', e2, e3⟩ := e2
    split at e3
    · rename_i hh
      cases e3
      rw [Bool.and_eq_true] at hh
      obtain ⟨v, rfl, rx1⟩ := rx.one
      obtain ⟨u, rfl, rv1⟩ := vals1 rv
      obtain ⟨a, vs, rfl, hs, rr⟩ := asL_ok rl rx1 e1
      cases (show u = Value.ref a from rv1)
      obtain ⟨its, rv2, hl, _⟩ := I.list hs
      obtain ⟨as, rd, _⟩ := readsL_ok I ys vs its ps rr rv2 e2
      exact PySem.W.any_list_data (I.ok.hd hc) hl.isList (by simpa using rd) hh.1 (fits_of hh.2) fun h' tk hk => ⟨.bl _, H, I.kept hk, rfl, q _ H α rl (Stay.refl _ _) ox_bl⟩
    · cases e3
  · cases eg
end
end DL

namespace DL
open PySem PySem.Spec PyProof.Rows L2
/-! ### 23. Walks over lists and tuples mixed: enumerate, zip -/
def SqB (b : Bool) (K : PySem.W.Frag) (H : Hp) (a : Addr) (xs : List V) : Prop := match b with | true => SqL K H a xs | false => SqT K H a xs
def ItB (b : Bool) (h : Heap) (it a : Addr) (i : Nat) : Prop := match b with | true => h.IsListIter it a i | false => h.IsTupleIter it a i
def IsB (b : Bool) (h : Heap) (a : Addr) (its : Array Value) : Prop := match b with | true => h.IsList a its | false => h.IsTuple a its
def oIt (b : Bool) (a : Addr) : Obj := match b with | true => { cls := .type "list_iterator", data := .fields #[.ref a, .int 0 0] } | false => { cls := .type "tuple_iterator", data := .fields #[.ref a, .int 0 0] }
theorem ItB.keep {b : Bool} {h h' : Heap} {it a : Addr} {i : Nat} (q : ItB b h it a i) (k : ∀ o, h.get? it = some o → h'.get? it = some o) : ItB b h' it a i := by
  cases b <;> obtain ⟨o, ho, r⟩ := q <;> exact ⟨o, k o ho, r⟩
theorem ItB.obj {b : Bool} {h : Heap} {it a : Addr} {i : Nat} (q : ItB b h it a i) : ∃ o, h.get? it = some o ∧ ∀ v, o.data ≠ .cell v := by
  cases b <;> obtain ⟨o, ho, hc, hd⟩ := q <;> exact ⟨o, ho, fun v z => by rw [hd] at z; cases z⟩
theorem ItB.new {b : Bool} {h : Heap} {it a : Addr} (q : h.get? it = some (oIt b a)) : ItB b h it a 0 := by
  cases b <;> exact ⟨_, q, rfl, rfl⟩
theorem IsB.keep {b : Bool} {h h' : Heap} {a : Addr} {its : Array Value} (q : IsB b h a its) (k : ∀ o, h.get? a = some o → h'.get? a = some o) : IsB b h' a its := by
  cases b <;> obtain ⟨o, ho, r⟩ := q <;> exact ⟨o, k o ho, r⟩
theorem IsB.lt {b : Bool} {h : Heap} {a : Addr} {its : Array Value} (q : IsB b h a its) : a < h.objs.size := by
  cases b <;> obtain ⟨o, ho, r⟩ := q <;> exact Heap.lt_size ho
theorem beginsB (b : Bool) (a : Addr) (its : Array Value) : Begins (.ref a) (oIt b a) fun h => IsB b h a its := by
  cases b
  · exact begins_tuple a its
  · exact begins_list a its
theorem nlt {a n : Nat} (k : Nat) (h : a < n) : a ≠ n + k := by omega
theorem nad {n : Nat} (i j : Nat) (h : i ≠ j) : n + i ≠ n + j := by omega
theorem lad {n c : Nat} (k : Nat) (h : c = n + k) : n ≤ c := by omega
theorem nle {a n : Nat} (h : a < n) (h' : n ≤ a) : False := by omega
theorem mem2 {a b c : Addr} (h : c ∈ [a, b]) : c = a ∨ c = b := by simpa using h
theorem drawsB {prog : Program} {w : World} {A : Around} (b : Bool) (hh : A.handled = none) (it a : Addr) (hne : a ≠ it) (its : Array Value) :
    Draws prog w A it [it, a] its.size (fun i v => its[i]? = some v) (fun i h => ItB b h it a i ∧ IsB b h a its) := by
  cases b
  · exact Draws.tuple hh it a hne its
  · exact Draws.list hh it a hne its
section
variable {X : Cx} {pins : List (Addr × Obj)} {σ : Sg} {H : Hp} {s : Shared}
theorem inv_seqB {b : Bool} {a : Addr} {xs : List V} (I : Inv X pins σ H s) (h : SqB b X.K H a xs) : ∃ its : List Value, Vals xs its ∧ IsB b s.heap a its.toArray := by
  cases b
  · obtain ⟨its, r, p, _⟩ := I.tuple h
    exact ⟨its, r, p⟩
  · obtain ⟨its, r, p, _⟩ := I.list h
    exact ⟨its, r, p.isList⟩
theorem SqB.inj {b : Bool} {a : Addr} {xs ys : List V} (I : Inv X pins σ H s) (h : SqB b X.K H a xs) (h' : SqB b X.K H a ys) : xs = ys := by
  cases b
  · exact I.tuple_inj h h'
  · exact I.list_inj h h'
end
/-- each item in a new pair with its place -/
def JEn (b : Bool) (K : PySem.W.Frag) (a : Addr) : It :=
  ⟨fun i H => ∃ (xs : List V) (x : V), SqB b K H a xs ∧ xs[i]? = some x, fun i H v H' => ∃ T x, v = .ref T ∧ H T = none ∧ H' = upd H T (.tup [.int (i : Nat), x]) ∧ ∀ xs, SqB b K H a xs → xs[i]? = some x, fun i H => ∃ xs : List V, SqB b K H a xs ∧ xs.length = i⟩
theorem turn_enB {P : Program} {w : World} {K : PySem.W.Frag} {elts : List Expr} {kk : Nat} {tpos : Pos} (b : Bool) (a e it : Addr) :
    Turn P w K (.Tuple elts kk tpos) (JEn b K a) [e, it] e (fun i h => (∃ old, IsEnum h e it (0 + ((i : Nat) : Int)) old) ∧ ItB b h it a i ∧ e ≠ it ∧ a ≠ e ∧ a ≠ it) where
  mem := by simp
  obj := fun i h st c hc => by
    obtain ⟨⟨old, he⟩, hi, _⟩ := st
    rcases mem2 hc with rfl | rfl
    · exact ⟨_, he, fun v q => nomatch q⟩
    · exact hi.obj
  keep := fun i h h' st k => by
    obtain ⟨⟨old, he⟩, hi, hne⟩ := st
    exact ⟨⟨old, k e (by simp) _ he⟩, hi.keep fun o q => k it (by simp) o q, hne⟩
  item := by
    intro X hP hw hK hc i pins s σ H E I hf st hg
    subst hP hw hK
    obtain ⟨⟨old, he⟩, hit, hne, nae, nai⟩ := st
    obtain ⟨xs, x, hq, hx⟩ := hg
    obtain ⟨its, rv, p⟩ := inv_seqB I hq
    obtain ⟨u, hu, ru⟩ := rv.get hx
    have hi : i < its.toArray.size := by
      have := (List.getElem?_eq_some_iff.mp hu).1
      simpa using this
    refine (GoesN.enumFrom (elts := elts) (x1 := kk) (pos := tpos) 0 (drawsB (prog := X.prog) (w := X.w) (A := X.A.in1) b (I.ok.hd hc) it a nai its.toArray) e hne (by simp [hne]; exact fun z => nae z.symm) (by simp)).goes i s _ E hi ⟨⟨old, he⟩, hit, p⟩ ?_
    rintro v h' tk ⟨T, t, y, rfl, hT, hy, hTup⟩ ⟨he', hit', p'⟩ hk htk
    have ey : y = u := by
      rw [List.getElem?_toArray, hu] at hy
      exact (Option.some.inj hy).symm
    subst ey
    obtain ⟨oT, h1, h2, n, h3⟩ := hTup
    have new : ObjOk X.prog X.w (upd H T (.tup [.int (i : Nat), x])) h' T (.tup [.int (i : Nat), x]) :=
      ⟨by show 2 ≤ sizeLine; decide, [.int (0 + (i : Int)) t, y], .cons ⟨t, by rw [Int.zero_add]⟩ (.cons ru .nil), ⟨oT, h1, h2, n, h3⟩⟩
    have hn : H T = none := I.hok.fresh hT
    have I1 : Inv X pins σ (upd H T (.tup [.int (i : Nat), x])) { s with heap := h', toks := tk } := I.turnedNew (ch := [e, it]) hk hf hT new
    refine ⟨.ref T, _, I1, rfl, ⟨T, x, rfl, hn, rfl, fun ys hys => by rw [SqB.inj I hys hq]; exact hx⟩, ⟨he', hit', hne, nae, nai⟩, fun c hc => ?_⟩
    rw [upd_ne]
    · exact (hf c hc).1
    · intro z
      subst z
      have : c < s.heap.objs.size := by
        rcases mem2 hc with rfl | rfl
        · exact Heap.lt_size he
        · exact Heap.lt_size hit.obj.choose_spec.1
      exact nle this hT
  done := by
    intro X hP hw hK hc i pins s σ H E I hf st hg
    subst hP hw hK
    obtain ⟨⟨old, he⟩, hit, hne, nae, nai⟩ := st
    obtain ⟨xs, hq, hx⟩ := hg
    obtain ⟨its, rv, p⟩ := inv_seqB I hq
    have hi : i = its.toArray.size := by
      have := rv.length
      simp
      omega
    subst hi
    exact (GoesN.enumFrom (elts := elts) (x1 := kk) (pos := tpos) 0 (drawsB (prog := X.prog) (w := X.w) (A := X.A.in1) b (I.ok.hd hc) it a nai its.toArray) e hne (by simp [hne]; exact fun z => nae z.symm) (by simp)).stops s (fun s1 => Inv X pins σ H s1) E ⟨⟨old, he⟩, hit, p⟩
      fun h' tk hk htk => I.turnedL (ch := [e, it]) hk hf
  self := fun A i s Q E st h => let ⟨⟨_, he⟩, _⟩ := st; wpAny_pyIter_enum he h
/-- two sources, the items in new pairs -/
def JZp (b c : Bool) (K : PySem.W.Frag) (a d : Addr) : It :=
  ⟨fun i H => ∃ (xs ys : List V) (x y : V), SqB b K H a xs ∧ SqB c K H d ys ∧ xs[i]? = some x ∧ ys[i]? = some y,
    fun i H v H' => ∃ T x y, v = .ref T ∧ H T = none ∧ H' = upd H T (.tup [x, y]) ∧ (∀ xs, SqB b K H a xs → xs[i]? = some x) ∧ ∀ ys, SqB c K H d ys → ys[i]? = some y,
    fun i H => ∃ xs ys : List V, SqB b K H a xs ∧ SqB c K H d ys ∧ min xs.length ys.length = i⟩
theorem turn_zpB {P : Program} {w : World} {K : PySem.W.Frag} {elts : List Expr} {kk : Nat} {tpos : Pos} (b c : Bool) {a d z TI TO i1 i2 : Addr} (D : ZipSep2 z TI TO i1 i2 [i1, a] [i2, d]) (na : a ≠ i1) (nd : d ≠ i2) :
    Turn P w K (.Tuple elts kk tpos) (JZp b c K a d) [z, TI, TO, i1, i2] z (fun i h => IsZip h z TI TO .none ∧ IsTupOf2 h TI (.ref i1) (.ref i2) ∧ (∃ x y, IsTupOf2 h TO x y) ∧ ItB b h i1 a i ∧ ItB c h i2 d i) where
  mem := by simp
  obj := fun i h st q hq => by
    obtain ⟨hz, hTI, ⟨x, y, hTO⟩, h1, h2⟩ := st
    simp only [List.mem_cons, List.not_mem_nil, or_false] at hq
    rcases hq with rfl | rfl | rfl | rfl | rfl
    · exact ⟨_, hz, fun v q => nomatch q⟩
    · exact ⟨_, hTI, fun v q => nomatch q⟩
    · exact ⟨_, hTO, fun v q => nomatch q⟩
    · exact h1.obj
    · exact h2.obj
  keep := fun i h h' st k => by
    obtain ⟨hz, hTI, ⟨x, y, hTO⟩, h1, h2⟩ := st
    exact ⟨k z (by simp) _ hz, k TI (by simp) _ hTI, ⟨x, y, k TO (by simp) _ hTO⟩, h1.keep fun o q => k i1 (by simp) o q, h2.keep fun o q => k i2 (by simp) o q⟩
  item := by
    intro X hP hw hK hc i pins s σ H E I hf st hg
    subst hP hw hK
    obtain ⟨hz, hTI, ⟨x0, y0, hTO⟩, h1, h2⟩ := st
    obtain ⟨xs, ys, x, y, hqx, hqy, hx, hy⟩ := hg
    obtain ⟨its, rv, p⟩ := inv_seqB I hqx
    obtain ⟨its2, rv2, p2⟩ := inv_seqB I hqy
    obtain ⟨u, hu, ru⟩ := rv.get hx
    obtain ⟨u2, hu2, ru2⟩ := rv2.get hy
    have hi : i < min its.toArray.size its2.toArray.size := by
      have h1 := (List.getElem?_eq_some_iff.mp hu).1
      have h2 := (List.getElem?_eq_some_iff.mp hu2).1
      simp
      omega
    refine (GoesN.zip2 (elts := elts) (x1 := kk) (pos := tpos) D (drawsB (prog := X.prog) (w := X.w) (A := X.A.in1) b (I.ok.hd hc) i1 a na its.toArray) (drawsB (prog := X.prog) (w := X.w) (A := X.A.in1) c (I.ok.hd hc) i2 d nd its2.toArray)).goes i s _ E hi ⟨hz, hTI, ⟨x0, y0, hTO⟩, ⟨h1, p⟩, h2, p2⟩ ?_
    rintro v h' tk ⟨T, y1, y2, rfl, hT, hy1, hy2, hTup⟩ ⟨hz', hTI', hTO', ⟨h1', _⟩, h2', _⟩ hk htk
    have e1 : y1 = u := by
      rw [List.getElem?_toArray, hu] at hy1
      exact (Option.some.inj hy1).symm
    have e2 : y2 = u2 := by
      rw [List.getElem?_toArray, hu2] at hy2
      exact (Option.some.inj hy2).symm
    subst e1 e2
    obtain ⟨oT, k1, k2, n, k3⟩ := hTup
    have new : ObjOk X.prog X.w (upd H T (.tup [x, y])) h' T (.tup [x, y]) := ⟨by show 2 ≤ sizeLine; decide, [y1, y2], .cons ru (.cons ru2 .nil), ⟨oT, k1, k2, n, k3⟩⟩
    have hn : H T = none := I.hok.fresh hT
    have I1 : Inv X pins σ (upd H T (.tup [x, y])) { s with heap := h', toks := tk } := I.turnedNew (ch := [z, TO, i1, i2]) hk (fun q hq => hf q (by simp only [List.mem_cons, List.not_mem_nil, or_false] at hq ⊢; rcases hq with z | z | z | z <;> simp [z])) hT new
    refine ⟨.ref T, _, I1, rfl, ⟨T, x, y, rfl, hn, rfl, fun ys hys => by rw [SqB.inj I hys hqx]; exact hx, fun ys hys => by rw [SqB.inj I hys hqy]; exact hy⟩, ⟨hz', hTI', hTO', h1', h2'⟩, fun q hq => ?_⟩
    rw [upd_ne]
    · exact (hf q hq).1
    · intro e
      subst e
      have : q < s.heap.objs.size := by
        simp only [List.mem_cons, List.not_mem_nil, or_false] at hq
        rcases hq with rfl | rfl | rfl | rfl | rfl
        · exact Heap.lt_size hz
        · exact Heap.lt_size hTI
        · exact Heap.lt_size hTO
        · exact Heap.lt_size h1.obj.choose_spec.1
        · exact Heap.lt_size h2.obj.choose_spec.1
      exact nle this hT
  done := by
    intro X hP hw hK hc i pins s σ H E I hf st hg
    subst hP hw hK
    obtain ⟨hz, hTI, ⟨x0, y0, hTO⟩, h1, h2⟩ := st
    obtain ⟨xs, ys, hqx, hqy, hi⟩ := hg
    obtain ⟨its, rv, p⟩ := inv_seqB I hqx
    obtain ⟨its2, rv2, p2⟩ := inv_seqB I hqy
    have hi : i = min its.toArray.size its2.toArray.size := by
      have h1 := rv.length
      have h2 := rv2.length
      simp
      omega
    subst hi
    exact (GoesN.zip2 (elts := elts) (x1 := kk) (pos := tpos) D (drawsB (prog := X.prog) (w := X.w) (A := X.A.in1) b (I.ok.hd hc) i1 a na its.toArray) (drawsB (prog := X.prog) (w := X.w) (A := X.A.in1) c (I.ok.hd hc) i2 d nd its2.toArray)).stops s (fun s1 => Inv X pins σ H s1) E ⟨hz, hTI, ⟨x0, y0, hTO⟩, ⟨h1, p⟩, h2, p2⟩
      fun h' tk hk htk => I.turnedL (ch := [z, TO, i1, i2]) hk (fun q hq => hf q (by simp only [List.mem_cons, List.not_mem_nil, or_false] at hq ⊢; rcases hq with z | z | z | z <;> simp [z]))
  self := fun A i s Q E st h => wpAny_pyIter_zip st.1 h
/-! the iterators -/
theorem meets_enum1 {v : Value} {o : Obj} {P : Heap → Prop} (B : Begins v o P) :
    Meets (Builtin.«enumerate.__new__» ⟨[.type "enumerate", v], []⟩) (fun _ R s => P s.heap ∧
      R (.ok (.ret (.ref (s.heap.push o).objs.size))) { s with heap := (s.heap.push o).push { cls := .type "enumerate", data := .fields #[.none, .bool false, .ref s.heap.objs.size, rawInt 0, .none, .none] } }) :=
  .of_wp fun prog w A R s h => by
    obtain ⟨hp, g, d, tk, os⟩ := s
    obtain ⟨h1, h⟩ := h
    have hsub := sub_enumerate
    have q1 : ∀ {A' : Around} {E : Value → Shared → Prop} {Q : Value → Shared → Prop}, Q (.ref hp.objs.size) ⟨hp.push o, g, d, tk, os⟩ → wpAny (model prog w) A' (pyIter v) Q E ⟨hp, g, d, tk, os⟩ :=
      fun q => B.iter prog w _ _ ⟨hp, g, d, tk, os⟩ _ h1 q
    wp_walk using q1
    refine wpAny_stack_any fun st => wpAny_pure ?_
    split
    · rename_i c _ _ _ _ _
      cases (c == Value.type "enumerate")
      · wp_walk using q1
        exact ⟨_, rfl, h⟩
      · wp_walk using q1
        exact ⟨_, rfl, h⟩
    · wp_walk using q1
      exact ⟨_, rfl, h⟩
theorem enum1_begins {prog : Program} {w : World} {A : Around} {E : Value → Shared → Prop} {s : Shared} {v : Value} {o : Obj} {P : Heap → Prop} {Q : Value → Shared → Prop} (B : Begins v o P) (h1 : P s.heap)
    (h : ∀ h', IsEnum h' (s.heap.objs.size + 1) s.heap.objs.size 0 .none → h'.get? s.heap.objs.size = some o → h'.objs.size = s.heap.objs.size + 2 →
      (∀ b o, s.heap.get? b = some o → h'.get? b = some o) → Q (.ref (s.heap.objs.size + 1)) { s with heap := h' }) :
    wpAny (model prog w) A (call (.type "enumerate") [v]) Q E s := by
  refine callType_new F.called_enumerate (by decide) (F.typeCall_enumerate_1 _) (F.newCall_enumerate_1 _) (fun obj => F.args_object_init_2 obj _) F.entry_enumerate_new (meets_enum1 B) ⟨h1, ?_⟩
  have hz : (s.heap.push o).objs.size = s.heap.objs.size + 1 := Heap.size_push ..
  show _ ∧ _
  rw [hz]
  have he : IsEnum ((s.heap.push o).push { cls := .type "enumerate", data := .fields #[.none, .bool false, .ref s.heap.objs.size, rawInt 0, .none, .none] }) (s.heap.objs.size + 1) s.heap.objs.size 0 .none := by
    have := Heap.get?_push_size (s.heap.push o) (o := { cls := .type "enumerate", data := .fields #[.none, .bool false, .ref s.heap.objs.size, rawInt 0, .none, .none] }) rfl
    rw [hz] at this
    exact this
  exact ⟨⟨_, he, rfl⟩, h _ he (Heap.get?_push_of_some _ (Heap.get?_push_size _ B.free)) (by rw [Heap.size_push, hz]) fun b o x => Heap.get?_push_of_some _ (Heap.get?_push_of_some _ x)⟩
def iEnB (K : PySem.W.Frag) (ta : TA) : TI := fun σ H R => ta σ H fun vs H1 => ∃ (b : Bool) (a : Addr) (xs : List V), vs = [.ref a] ∧ SqB b K H1 a xs ∧ R (JEn b K a) H1
theorem pi_enB {X : Cx} {e : Expr} {ta : TA} {p pos tpos : Pos} {elts : List Expr} {kk : Nat} (hg : Gl X "enumerate") (hm : X.mg "enumerate" = none) (ha : PA X [e] ta) (hs : starEach [e] X.env = [(false, eval e X.env)] := by rfl) :
    PI X (.Tuple elts kk tpos) (.Call (.Name "enumerate" p) [e] [] pos) (iEnB X.K ta) := by
  refine ⟨fun pins s σ H R I h => ?_⟩
  refine Call_ (ld_blt I hg hm boot_enumerate (PyProof.Rows.callWith_type1 (thn (ha.run pos pins s σ H _ I h) fun us s1 ⟨vs, H1, I1, r1, q1⟩ => ?_) hs rfl))
  obtain ⟨b, a, xs, rfl, hq, q⟩ := q1
  obtain ⟨u, rfl, ru⟩ := vals1 r1
  cases ru
  obtain ⟨its, rv, p⟩ := inv_seqB I1 hq
  have hlt := p.lt
  refine enum1_begins (beginsB b a its.toArray) p fun h' he hit hz hk => wpAny_pyIter_enum he ?_
  have I2 : Inv X pins σ H1 { s1 with heap := h' } := I1.kept (t' := s1.toks) hk
  refine ⟨s1.heap.objs.size + 1, [s1.heap.objs.size + 1, s1.heap.objs.size], _, _, H1, rfl, I2, turn_enB b a (s1.heap.objs.size + 1) s1.heap.objs.size, ⟨⟨.none, he⟩, .new hit, Nat.succ_ne_self _, nlt 1 hlt, nlt 0 hlt⟩, fun c hc => ?_, q⟩
  have hle : s1.heap.objs.size ≤ c := by
    rcases mem2 hc with z | z
    · exact lad 1 z
    · exact lad 0 z
  exact I1.fpOk hle (I1.hok.fresh hle)
def iZpB (K : PySem.W.Frag) (ta : TA) : TI := fun σ H R => ta σ H fun vs H1 => ∃ (b c : Bool) (a d : Addr) (xs ys : List V), vs = [.ref a, .ref d] ∧ SqB b K H1 a xs ∧ SqB c K H1 d ys ∧ R (JZp b c K a d) H1
theorem pi_zpB {X : Cx} {e e2 : Expr} {ta : TA} {p pos tpos : Pos} {elts : List Expr} {kk : Nat} (hg : Gl X "zip") (hm : X.mg "zip" = none) (ha : PA X [e, e2] ta)
    (hs : starEach [e, e2] X.env = (false, eval e X.env) :: starEach [e2] X.env := by rfl) (hpl : (backTo pos (starEach [e2] X.env)).any (·.1) = false := by rfl) :
    PI X (.Tuple elts kk tpos) (.Call (.Name "zip" p) [e, e2] [] pos) (iZpB X.K ta) := by
  refine ⟨fun pins s σ H R I h => ?_⟩
  refine Call_ (ld_blt I hg hm PyProof.Rows.boot_zip (PyProof.Rows.callWith_type1 (thn (ha.run pos pins s σ H _ I h) fun us s1 ⟨vs, H1, I1, r1, q1⟩ => ?_) hs hpl))
  obtain ⟨b, c, a, d, xs, ys, rfl, hq, hq2, q⟩ := q1
  obtain ⟨u, u2, rfl, ru, ru2⟩ := vals2 r1
  cases ru
  cases ru2
  obtain ⟨its, rv, p⟩ := inv_seqB I1 hq
  obtain ⟨its2, rv2, p2⟩ := inv_seqB I1 hq2
  have hlt := p.lt
  have hlt2 := p2.lt
  refine zip_begins2 (beginsB b a its.toArray) (beginsB c d its2.toArray) p p2 fun h' hz hTI hTO hi1 hi2 hsz hk => wpAny_pyIter_zip hz ?_
  have I2 : Inv X pins σ H1 { s1 with heap := h' } := I1.kept (t' := s1.toks) hk
  refine ⟨s1.heap.objs.size + 4, [s1.heap.objs.size + 4, s1.heap.objs.size + 2, s1.heap.objs.size + 3, s1.heap.objs.size, s1.heap.objs.size + 1], _, _, H1, rfl, I2, turn_zpB b c (a := a) (d := d) ⟨nad 2 4 (by decide), nad 3 4 (by decide), nad 2 3 (by decide), nad 2 0 (by decide), by simp, ?_, ?_, nad 2 1 (by decide), by simp, ?_, ?_, ?_, ?_⟩ (nlt 0 hlt) (nlt 1 hlt2), ⟨hz, hTI, ⟨_, _, hTO⟩, .new hi1, .new hi2⟩, fun q hq => ?_, q⟩
  all_goals try (intro z; rcases mem2 z with z | z)
  · exact nad 4 0 (by decide) z
  · exact nlt 4 hlt z.symm
  · exact nad 3 0 (by decide) z
  · exact nlt 3 hlt z.symm
  · exact nad 4 1 (by decide) z
  · exact nlt 4 hlt2 z.symm
  · exact nad 3 1 (by decide) z
  · exact nlt 3 hlt2 z.symm
  · exact nad 0 1 (by decide) z
  · exact nlt 0 hlt2 z.symm
  · exact nad 1 0 (by decide) z
  · exact nlt 1 hlt z.symm
  have hle : s1.heap.objs.size ≤ q := by
    simp only [List.mem_cons, List.not_mem_nil, or_false] at hq
    rcases hq with z | z | z | z | z
    · exact lad 4 z
    · exact lad 2 z
    · exact lad 3 z
    · exact lad 0 z
    · exact lad 1 z
  exact I1.fpOk hle (I1.hok.fresh hle)
end DL

namespace DL
open PySem PySem.Spec PyProof.Rows L2
/-! ### 24. Slots taken away, locked, put back -/
section
variable {K : PySem.W.Frag} {H0 H H' : Hp} {α0 α α' : List Addr} {σ σ' : Sg} {s s' : S}
/-- slots that are told less of -/
theorem Rel.less (r : Rel K H0 α0 H α σ s) {δ : List Slot} (hl : δ.length = s.δ.length) (h : ∀ (i : Nat) (sl : Slot), δ[i]? = some sl → sl = .no ∨ (s.δ[i]? = some sl ∧ σ'[i]? = σ[i]?)) (hs : σ'.length = σ.length) : Rel K H0 α0 H α σ' { s with δ := δ } := by
  refine ⟨r.cells, ⟨by rw [hs, r.slots.len, hl], fun i d e => ?_, fun i c e => ?_, fun i j c c' a e1 e2 e3 e4 => ?_⟩, r.ot, r.nw, r.st⟩
  · rcases h i _ e with z | ⟨z, w⟩
    · cases z
    · rw [w]; exact r.slots.val i d z
  · rcases h i _ e with z | ⟨z, w⟩
    · cases z
    · rw [w]; exact r.slots.own i c z
  · rcases h i _ e1 with z | ⟨z1, w1⟩
    · cases z
    · rcases h j _ e2 with z | ⟨z2, w2⟩
      · cases z
      · rw [w1] at e3
        rw [w2] at e4
        exact r.slots.inj i j c c' a z1 z2 e3 e4
theorem Rel.setNo (r : Rel K H0 α0 H α σ s) (i : Nat) : Rel K H0 α0 H α σ { s with δ := s.δ.set i .no } :=
  r.less (by simp) (fun j sl e => by
    rcases get_set e with ⟨_, e, _⟩ | ⟨_, e⟩
    · exact .inl e
    · exact .inr ⟨e, rfl⟩) rfl
/-- a fresh thing is locked -/
theorem Rel.frz {c : Cell} {a : Addr} (r : Rel K H0 α0 H α σ s) (h : RF K H0 H α σ s a c) (nd : ∀ h : c = .dead, False) :
    ∃ u, H a = some u ∧ Mut (some u) ∧ ∀ o, Rel K H0 α0 (upd H a (.frz o u)) α σ s ∧ Stay H α (upd H a (.frz o u)) α ∧ Rv K (upd H a (.frz o u)) α c.toD (.ref a) := by
  obtain ⟨hc, na, n0, no⟩ := h
  have stp : ∀ u o, H a = some u → ¬ Fixed u → Stay H α (upd H a (.frz o u)) α ∧ Rel K H0 α0 (upd H a (.frz o u)) α σ s := fun u o hu nf => by
    have t : Stay H α (upd H a (.frz o u)) α := ⟨fun b w hb fb => by
      by_cases e : b = a
      · subst e; rw [hu] at hb; cases hb; exact absurd fb nf
      · rw [upd_ne e]; exact hb, List.prefix_rfl, fun b hb => by
      by_cases e : b = a
      · subst e; rw [upd_same] at hb; cases hb
      · rw [upd_ne e] at hb; exact hb⟩
    refine ⟨t, r.step t (fun b w hb _ hw => ?_) (fun b w hb _ hb1 => ?_)⟩
    · have e : b ≠ a := fun z => by
        subst z
        rcases hw with z | ⟨i, c', z1, z2⟩
        · exact na z
        · exact no i c' z1 z2
      rw [upd_ne e]; exact hb
    · have e : b ≠ a := fun z => by subst z; rw [n0] at hb; cases hb
      rw [upd_ne e]; exact hb1
  cases c with
  | dead => exact (nd rfl).elim
  | lst xs =>
    obtain ⟨vs, hv, rr⟩ := hc
    refine ⟨.lst vs, hv, trivial, fun o => ?_⟩
    obtain ⟨t, rl⟩ := stp _ o hv (fun z => z)
    refine ⟨rl, t, ?_⟩
    simp only [Cell.toD, Rv]
    exact ⟨a, vs, rfl, .inl ⟨o, upd_same⟩, Rvs.stay t _ _ rr⟩
  | dct kvs =>
    rcases hc with ⟨kv, hv, rr⟩ | ⟨kv, hv, rr⟩
    · refine ⟨.dK kv, hv, trivial, fun o => ?_⟩
      obtain ⟨t, rl⟩ := stp _ o hv (fun z => z)
      refine ⟨rl, t, ?_⟩
      simp only [Cell.toD, Rv]
      exact ⟨a, o, rfl, .inl ⟨kv, upd_same, Rkv.stay t _ _ rr⟩⟩
    · refine ⟨.dT kv, hv, trivial, fun o => ?_⟩
      obtain ⟨t, rl⟩ := stp _ o hv (fun z => z)
      refine ⟨rl, t, ?_⟩
      simp only [Cell.toD, Rv]
      exact ⟨a, o, rfl, .inr ⟨kv, upd_same, RkT.stay t _ _ rr⟩⟩
  | ins C fs =>
    obtain ⟨dx, vs, hv, rr⟩ := hc
    refine ⟨.ins C dx vs, hv, trivial, fun o => ?_⟩
    obtain ⟨t, rl⟩ := stp _ o hv (fun z => z)
    refine ⟨rl, t, ?_⟩
    simp only [Cell.toD, Rv]
    exact ⟨a, o, dx, vs, rfl, upd_same, Rfs.stay t _ _ rr⟩
/-- the thing of a slot, given up by it -/
theorem Rel.giveUp {i : Nat} {c : Cell} (r : Rel K H0 α0 H α σ s) (e : s.δ[i]? = some (.own c)) : ∃ a, σ[i]? = some (some (.ref a)) ∧ Rel K H0 α0 H α σ { s with δ := s.δ.set i .no } ∧ RF K H0 H α σ { s with δ := s.δ.set i .no } a c := by
  obtain ⟨a, h1, h2, h3, h4⟩ := r.slots.own i c e
  refine ⟨a, h1, r.setNo i, h4, h2, h3, fun j c' e2 e3 => ?_⟩
  rcases get_set e2 with ⟨_, z, _⟩ | ⟨ne, z⟩
  · cases z
  · exact ne (r.slots.inj i j c c' a e z h1 e3)
end
/-- slot i's thing is locked for good -/
def frzAt (i : Nat) (s : S) : Option S := match s.δ[i]? with
  | some (.own .dead) => none
  | some (.own c) => some { s with δ := s.δ.set i (.val c.toD) }
  | _ => some s
def dFrzS (i : Nat) (f : FS) : FS := fun s => match f s with
  | .nx s' => (match frzAt i s' with | some s2 => .nx s2 | none => .bad)
  | r => r
theorem psGh {X : Cx} {st : Stmt} {t : TS} (h : PS X st t) : PS X st (fun D σ H => t { D with nx := fun σ' H' => Gh H' (D.nx σ') } σ H) :=
  ⟨fun pins s σ H D I q => thn (h.run pins s σ H _ I q) fun fl s1 z => by
    cases fl with
    | next =>
      obtain ⟨σ', H', I', g⟩ := z
      obtain ⟨H2, J, q⟩ := DL.Inv.gh I' g
      exact ⟨σ', H2, J, q⟩
    | ret u => exact z
    | brk => exact z
    | cont => exact z⟩
section
variable {X : Cx}
theorem frzAt_ok {K : PySem.W.Frag} {H0 H : Hp} {α0 α : List Addr} {σ : Sg} {s s2 : S} {i : Nat} {Q : Sg → Hp → Prop} (r : Rel K H0 α0 H α σ s) (e : frzAt i s = some s2) (q : ∀ H', Rel K H0 α0 H' α σ s2 → Stay H α H' α → Q σ H') : Gh H (Q σ) := by
  unfold frzAt at e
  split at e
  · cases e
  · rename_i c nd hc
    cases e
    obtain ⟨a, h1, h2, h3⟩ := r.giveUp hc
    obtain ⟨u, hu, mu, k⟩ := h2.frz h3 nd
    refine .inr ⟨a, u, hu, mu, fun o => ?_⟩
    obtain ⟨r2, t, rv⟩ := k o
    have r3 := r2.setV (i := i) rv
    have es : σ.set i (some (.ref a)) = σ := by
      apply List.ext_getElem?
      intro j
      by_cases hj : i = j
      · subst hj
        rw [h1, List.getElem?_set_self (List.getElem?_eq_some_iff.mp h1).1]
      · rw [List.getElem?_set_ne hj]
    rw [es] at r3
    simp only [List.set_set] at r3
    exact q _ r3 t
  · cases e
    exact .inl (q H r (Stay.refl _ _))
theorem sd_frz (i : Nat) {st : Stmt} {f : FS} (h : PSD X st f) : PSD X st (dFrzS i f) := by
  refine ⟨fun W tk => ?_⟩
  obtain ⟨t, p, q⟩ := h.run W tk
  refine ⟨_, psGh p, fun H0 α0 σ H α s D r k => q H0 α0 σ H α s _ r ?_⟩
  unfold dFrzS at k
  cases ef : f s <;> rw [ef] at k
  case nx s' =>
    simp only at k
    intro σ' H' α' r' t'
    cases e : frzAt i s' with
    | none => rw [e] at k; exact k.elim
    | some s2 =>
      rw [e] at k
      exact frzAt_ok r' e fun H2 r2 t2 => k σ' H2 α' r2 (t'.trans t2)
  all_goals exact k
/-! what is never reached -/
theorem sd_bad {st : Stmt} : PSD X st (fun _ => .bad) := ⟨fun W _ => ⟨fun _ _ _ => False, ⟨fun _ _ _ _ _ _ h => h.elim⟩, fun _ _ _ _ _ _ _ _ q => q.elim⟩⟩
theorem pd_bad {e : Expr} : PED X e (fun _ => .bad) := ⟨fun W _ => ⟨fun _ _ _ => False, ⟨fun _ _ _ _ _ _ h => h.elim⟩, fun _ _ _ _ _ _ _ _ q => q.elim⟩⟩
end
/-! ### 25. Walks over enumerate, zip -/
def enD : Nat → List D → List D
  | _, [] => []
  | k, d :: ds => .tup [.int k, d] :: enD (k + 1) ds
def zpD : List D → List D → List D
  | a :: as, b :: bs => .tup [a, b] :: zpD as bs
  | _, _ => []
theorem enD_at : ∀ (ds : List D) (k i : Nat), (enD k ds)[i]? = ds[i]?.map fun d => .tup [.int ((k + i : Nat) : Int), d]
  | [], k, i => by simp [enD]
  | d :: ds, k, 0 => by simp [enD]
  | d :: ds, k, i + 1 => by
    simp only [enD, List.getElem?_cons_succ]
    rw [enD_at ds (k + 1) i, show k + 1 + i = k + (i + 1) from by omega]
theorem enD_len : ∀ (ds : List D) (k : Nat), (enD k ds).length = ds.length
  | [], k => rfl
  | d :: ds, k => by simp [enD, enD_len ds (k + 1)]
theorem zpD_at : ∀ (as bs : List D) (i : Nat) (d : D), (zpD as bs)[i]? = some d → ∃ a b, as[i]? = some a ∧ bs[i]? = some b ∧ d = .tup [a, b]
  | [], _, i, d, h => by simp [zpD] at h
  | _ :: _, [], i, d, h => by simp [zpD] at h
  | a :: as, b :: bs, 0, d, h => by simp [zpD] at h; exact ⟨a, b, rfl, rfl, h.symm⟩
  | a :: as, b :: bs, i + 1, d, h => by
    simp only [zpD, List.getElem?_cons_succ] at h
    simpa using zpD_at as bs i d h
theorem zpD_len : ∀ (as bs : List D), (zpD as bs).length = min as.length bs.length
  | [], bs => by simp [zpD]
  | _ :: _, [] => by simp [zpD]
  | a :: as, b :: bs => by
    simp only [zpD, List.length_cons, zpD_len as bs]
    omega
section
variable {K : PySem.W.Frag} {H H' : Hp} {α α' : List Addr} {σ : Sg}
theorem SqB.stay {b : Bool} {a : Addr} {vs : List V} (t : Stay H α H' α') (h : match b with | true => SqF K H a vs | false => SqT K H a vs) : SqB b K H' a vs := by
  cases b
  · exact t.sqT h
  · exact (t.sqF h).sq
theorem fixSeq_ok {d : D} {v : V} {xs : List D} (h : Rx K H α σ d v) (e : fixSeq d = some xs) : ∃ (b : Bool) (a : Addr) (vs : List V), v = .ref a ∧ (match b with | true => SqF K H a vs | false => SqT K H a vs) ∧ Rvs K H α xs vs := by
  cases d <;> simp only [fixSeq, Option.some.injEq, reduceCtorEq] at e
  case tup ys =>
    subst e
    obtain ⟨a, vs, h1, h2, h3⟩ := asT_ok h
    exact ⟨false, a, vs, h1, h2, h3⟩
  case lst ys =>
    subst e
    have h' : Rv K H α (.lst ys) v := h
    simp only [Rv] at h'
    obtain ⟨a, vs, h1, h2, h3⟩ := h'
    exact ⟨true, a, vs, h1, h2, h3⟩
theorem walk_en {b : Bool} {a : Addr} {vs : List V} {xs : List D} (h : match b with | true => SqF K H a vs | false => SqT K H a vs) (rr : Rvs K H α xs vs) : WalkD K (JEn b K a) (enD 0 xs) H α := by
  refine ⟨fun H' α' t => ⟨vs, SqB.stay t h, by rw [enD_len, rr.length]⟩, fun H' α' i d t e => ?_, fun H0 α0 H' α' σ s i d x H2 t r e y => ?_⟩
  · rw [enD_at] at e
    simp only [Option.map_eq_some_iff] at e
    obtain ⟨d', e, rfl⟩ := e
    obtain ⟨v, ev, _⟩ := rr.at_ e
    exact ⟨vs, v, SqB.stay t h, ev⟩
  · rw [enD_at] at e
    simp only [Option.map_eq_some_iff] at e
    obtain ⟨d', e, rfl⟩ := e
    obtain ⟨T, w, rfl, hT, rfl, y⟩ := y
    obtain ⟨v, ev, rv⟩ := rr.at_ e
    have := y vs (SqB.stay t h)
    rw [ev] at this
    cases this
    have t2 : Stay H' α' (upd H' T (.tup [.int (i : Nat), w])) α' := Stay.upd_new hT
    refine ⟨r.new hT, t2, ?_⟩
    simp only [Rv]
    refine ⟨T, _, rfl, .inl (.inl upd_same), .cons ?_ (.single (Rv.stay (t.trans t2) _ _ rv))⟩
    simp only [Rv, Nat.zero_add]
theorem walk_zp {b c : Bool} {a d : Addr} {vs ws : List V} {xs ys : List D} (h : match b with | true => SqF K H a vs | false => SqT K H a vs) (rr : Rvs K H α xs vs) (h' : match c with | true => SqF K H d ws | false => SqT K H d ws) (rr' : Rvs K H α ys ws) : WalkD K (JZp b c K a d) (zpD xs ys) H α := by
  refine ⟨fun H' α' t => ⟨vs, ws, SqB.stay t h, SqB.stay t h', by rw [zpD_len, rr.length, rr'.length]⟩, fun H' α' i e t q => ?_, fun H0 α0 H' α' σ s i e x H2 t r q y => ?_⟩
  · obtain ⟨d1, d2, q1, q2, rfl⟩ := zpD_at _ _ _ _ q
    obtain ⟨v, ev, _⟩ := rr.at_ q1
    obtain ⟨w, ew, _⟩ := rr'.at_ q2
    exact ⟨vs, ws, v, w, SqB.stay t h, SqB.stay t h', ev, ew⟩
  · obtain ⟨d1, d2, q1, q2, rfl⟩ := zpD_at _ _ _ _ q
    obtain ⟨T, w1, w2, rfl, hT, rfl, y1, y2⟩ := y
    obtain ⟨v, ev, rv⟩ := rr.at_ q1
    obtain ⟨w, ew, rw⟩ := rr'.at_ q2
    have z1 := y1 vs (SqB.stay t h)
    have z2 := y2 ws (SqB.stay t h')
    rw [ev] at z1
    rw [ew] at z2
    cases z1
    cases z2
    have t2 : Stay H' α' (upd H' T (.tup [w1, w2])) α' := Stay.upd_new hT
    refine ⟨r.new hT, t2, ?_⟩
    simp only [Rv]
    exact ⟨T, _, rfl, .inl (.inl upd_same), .cons (Rv.stay (t.trans t2) _ _ rv) (.single (Rv.stay (t.trans t2) _ _ rw))⟩
end
def dIterEn (fa : FA) : FA := fun s => (fa s).bind fun ds s1 => match ds with | [d] => (match fixSeq d with | some xs => .ok (enD 0 xs) s1 | none => .bad) | _ => .bad
def dIterZp (fa : FA) : FA := fun s => (fa s).bind fun ds s1 => match ds with | [d, e] => (match fixSeq d, fixSeq e with | some xs, some ys => .ok (zpD xs ys) s1 | _, _ => .bad) | _ => .bad
section
variable {X : Cx}
theorem id_en {e : Expr} {fa : FA} {p pos tpos : Pos} {elts : List Expr} {kk : Nat} (ha : PAD X [e] fa) (hg : Gl X "enumerate") (hm : X.mg "enumerate" = none) (hs : starEach [e] X.env = [(false, eval e X.env)] := by rfl) : PID X (.Tuple elts kk tpos) (.Call (.Name "enumerate" p) [e] [] pos) (dIterEn fa) := by
  refine ⟨fun W tk => ?_⟩
  obtain ⟨t, pa, qa⟩ := ha.run W tk
  refine ⟨_, pi_enB hg hm pa hs, fun H0 α0 σ H α s R r q => qa H0 α0 σ H α s _ r ?_⟩
  unfold dIterEn at q
  cases ea : fa s with
  | bad => rw [ea] at q; exact q.elim
  | exc e s1 => rw [ea] at q; exact q
  | ok ds s1 =>
    rw [ea] at q
    intro vs H1 α1 r1 t1 rv
    simp only [Res.bind] at q
    split at q
    · rename_i d
      obtain ⟨v, rfl, rx⟩ := rv.one
      cases ef : fixSeq d with
      | none => rw [ef] at q; exact q.elim
      | some xs =>
        rw [ef] at q
        obtain ⟨b, a, vs, rfl, h1, rr⟩ := fixSeq_ok rx ef
        exact ⟨b, a, vs, rfl, SqB.stay (Stay.refl H1 α1) h1, q _ H1 α1 r1 t1 (walk_en h1 rr)⟩
    · exact q.elim
theorem id_zp {e e2 : Expr} {fa : FA} {p pos tpos : Pos} {elts : List Expr} {kk : Nat} (ha : PAD X [e, e2] fa) (hg : Gl X "zip") (hm : X.mg "zip" = none) (hs : starEach [e, e2] X.env = (false, eval e X.env) :: starEach [e2] X.env := by rfl) (hpl : (backTo pos (starEach [e2] X.env)).any (·.1) = false := by rfl) :
    PID X (.Tuple elts kk tpos) (.Call (.Name "zip" p) [e, e2] [] pos) (dIterZp fa) := by
  refine ⟨fun W tk => ?_⟩
  obtain ⟨t, pa, qa⟩ := ha.run W tk
  refine ⟨_, pi_zpB hg hm pa hs hpl, fun H0 α0 σ H α s R r q => qa H0 α0 σ H α s _ r ?_⟩
  unfold dIterZp at q
  cases ea : fa s with
  | bad => rw [ea] at q; exact q.elim
  | exc e s1 => rw [ea] at q; exact q
  | ok ds s1 =>
    rw [ea] at q
    intro vs H1 α1 r1 t1 rv
    simp only [Res.bind] at q
    split at q
    · rename_i d e
      obtain ⟨v, w, rfl, rx, ry⟩ := rv.two
      cases ef : fixSeq d with
      | none => rw [ef] at q; exact q.elim
      | some xs =>
        cases eg : fixSeq e with
        | none => rw [ef, eg] at q; exact q.elim
        | some ys =>
          rw [ef, eg] at q
          obtain ⟨b, a, vs, rfl, h1, rr⟩ := fixSeq_ok rx ef
          obtain ⟨c, a2, ws, rfl, h2, rr2⟩ := fixSeq_ok ry eg
          exact ⟨b, c, a, a2, vs, ws, rfl, SqB.stay (Stay.refl H1 α1) h1, SqB.stay (Stay.refl H1 α1) h2, q _ H1 α1 r1 t1 (walk_zp h1 rr h2 rr2)⟩
    · exact q.elim
end
end DL

namespace DL
open PySem PySem.Spec PyProof.Rows L2
/-! ### 26. List comprehensions -/
def wipeD (δ : List Slot) : List Nat → List Slot
  | [] => δ
  | v :: vs => (wipeD δ vs).set v .no
def backD (δ0 δ : List Slot) : List Nat → List Slot
  | [] => δ
  | v :: vs => (backD δ0 δ vs).set v (match δ0[v]? with | some sl => sl | none => .no)
def isOwn (δ : List Slot) (v : Nat) : Bool := match δ[v]? with | some (.own _) => true | _ => false
def dLcGo (vs : List Nat) (g : FG) (ft : FT) (fe : FE) : List D → S → Res (List D)
  | [], s => .ok [] s
  | d :: ds, s => match g d { s with δ := wipeD s.δ vs } with
    | none => .bad
    | some s1 => match ft s1 with
      | .ok true s2 => (match fe s2 with
        | .ok y s3 => if noOwn y then (dLcGo vs g ft fe ds { δ := backD s.δ s3.δ vs, μ := s3.μ }).bind fun ys s4 => .ok (y :: ys) s4 else .bad
        | _ => .bad)
      | .ok false s2 => dLcGo vs g ft fe ds { δ := backD s.δ s2.δ vs, μ := s2.μ }
      | _ => .bad
def dLc (vs : List Nat) (fi : FA) (g : FG) (ft : FT) (fe : FE) : FC := fun s => (fi s).bind fun ds s1 => if ds.length ≤ 16777216 && vs.all (fun v => !isOwn s1.δ v) then (match dLcGo vs g ft fe ds s1 with | .ok ys s2 => .ok (.lst ys) s2 | _ => .bad) else .bad
theorem wipeD_len (δ : List Slot) : ∀ vs : List Nat, (wipeD δ vs).length = δ.length
  | [] => rfl
  | v :: vs => by simp [wipeD, wipeD_len δ vs]
theorem wipeD_at {δ : List Slot} {i : Nat} {sl : Slot} : ∀ {vs : List Nat}, (wipeD δ vs)[i]? = some sl → (i ∈ vs ∧ sl = .no) ∨ (i ∉ vs ∧ δ[i]? = some sl)
  | [], h => .inr ⟨by simp, h⟩
  | v :: vs, h => by
    rcases get_set h with ⟨rfl, e, _⟩ | ⟨ne, e⟩
    · exact .inl ⟨by simp, e⟩
    · rcases wipeD_at e with ⟨a, b⟩ | ⟨a, b⟩
      · exact .inl ⟨by simp [a], b⟩
      · exact .inr ⟨by simp [a]; exact fun z => ne z.symm, b⟩
theorem backD_len (δ0 δ : List Slot) : ∀ vs : List Nat, (backD δ0 δ vs).length = δ.length
  | [] => rfl
  | v :: vs => by simp [backD, backD_len δ0 δ vs]
theorem backD_at {δ0 δ : List Slot} {i : Nat} {sl : Slot} : ∀ {vs : List Nat}, (backD δ0 δ vs)[i]? = some sl → (i ∈ vs ∧ (δ0[i]? = some sl ∨ sl = .no)) ∨ (i ∉ vs ∧ δ[i]? = some sl)
  | [], h => .inr ⟨by simp, h⟩
  | v :: vs, h => by
    rcases get_set h with ⟨rfl, e, _⟩ | ⟨ne, e⟩
    · refine .inl ⟨by simp, ?_⟩
      cases hd : δ0[v]? with
      | none => rw [hd] at e; exact .inr e
      | some s0 => rw [hd] at e; exact .inl (by rw [e])
    · rcases backD_at e with ⟨a, b⟩ | ⟨a, b⟩
      · exact .inl ⟨by simp [a], b⟩
      · exact .inr ⟨by simp [a]; exact fun z => ne z.symm, b⟩
theorem isOwn_no {δ : List Slot} {v : Nat} (h : isOwn δ v = false) {c : Cell} : δ[v]? ≠ some (.own c) := fun z => by
  unfold isOwn at h
  rw [z] at h
  cases h
section
variable {K : PySem.W.Frag} {H0 H H' : Hp} {α0 α α' : List Addr} {σ σ' : Sg} {s s' : S}
theorem wipe_at {σ : Sg} {i : Nat} : ∀ {vs : List Nat}, i ∉ vs → (wipe σ vs)[i]? = σ[i]?
  | [], _ => rfl
  | v :: vs, h => by
    simp only [List.mem_cons, not_or] at h
    unfold wipe
    rw [List.getElem?_set_ne (fun z => h.1 z.symm)]
    exact wipe_at h.2
theorem wipe_len (σ : Sg) : ∀ vs : List Nat, (wipe σ vs).length = σ.length
  | [] => rfl
  | v :: vs => by unfold wipe; rw [List.length_set, wipe_len σ vs]
theorem wipe_but {vs ws : List Nat} (b : But ws σ σ') (h : ∀ i ∈ ws, i ∈ vs) : wipe σ' vs = wipe σ vs := by
  apply List.ext_getElem?
  intro i
  by_cases hi : i ∈ vs
  · have key : ∀ (τ : Sg) (us : List Nat), i ∈ us → i < τ.length → (wipe τ us)[i]? = some none := by
      intro τ us
      induction us with
      | nil => intro h; simp at h
      | cons u us ih =>
        intro h hl
        unfold wipe
        by_cases e : u = i
        · subst e
          rw [List.getElem?_set_self (by rw [wipe_len]; exact hl)]
        · rw [List.getElem?_set_ne e]
          exact ih ((List.mem_cons.mp h).resolve_left fun z => e z.symm) hl
    by_cases hl : i < σ.length
    · rw [key σ' vs hi (by rw [b.len]; exact hl), key σ vs hi hl]
    · rw [List.getElem?_eq_none (by rw [wipe_len, b.len]; omega), List.getElem?_eq_none (by rw [wipe_len]; omega)]
  · rw [wipe_at hi, wipe_at hi]
    exact b.at_ i fun z => hi (h i z)
theorem wipe_wipe (σ : Sg) (vs : List Nat) : L2.wipe (L2.wipe σ vs) vs = L2.wipe σ vs := wipe_but (ws := vs) ⟨wipe_len _ _, fun j h => wipe_at h⟩ fun _ h => h
theorem Rel.wipe (r : Rel K H0 α0 H α σ s) (vs : List Nat) : Rel K H0 α0 H α (L2.wipe σ vs) { s with δ := wipeD s.δ vs } :=
  r.less (wipeD_len _ _) (fun i sl e => by
    rcases wipeD_at e with ⟨_, z⟩ | ⟨n, z⟩
    · exact .inl z
    · exact .inr ⟨z, wipe_at n⟩) (wipe_len _ _)
/-- the block's names given back -/
theorem Rel.back {vs ws : List Nat} (r : Rel K H0 α0 H α σ s) (no : ∀ v ∈ vs, isOwn s.δ v = false) (t : Stay H α H' α') (r' : Rel K H0 α0 H' α' σ' s') (b : But ws (L2.wipe σ vs) σ') (h : ∀ i ∈ ws, i ∈ vs) :
    Rel K H0 α0 H' α' σ { δ := backD s.δ s'.δ vs, μ := s'.μ } := by
  have hs : ∀ i, i ∉ vs → σ'[i]? = σ[i]? := fun i hi => by rw [b.at_ i (fun z => hi (h i z)), wipe_at hi]
  refine ⟨r'.cells, ⟨by rw [backD_len, ← r'.slots.len, b.len, wipe_len], fun i d e => ?_, fun i c e => ?_, fun i j c c' a e1 e2 e3 e4 => ?_⟩, r'.ot, r'.nw, r'.st⟩
  · rcases backD_at e with ⟨hi, z | z⟩ | ⟨hi, z⟩
    · obtain ⟨v, e1, e2⟩ := r.slots.val i d z
      exact ⟨v, e1, Rv.stay t _ _ e2⟩
    · cases z
    · rw [← hs i hi]
      exact r'.slots.val i d z
  · rcases backD_at e with ⟨hi, z | z⟩ | ⟨hi, z⟩
    · exact (isOwn_no (no i hi) z).elim
    · cases z
    · rw [← hs i hi]
      exact r'.slots.own i c z
  · rcases backD_at e1 with ⟨hi, z | z⟩ | ⟨hi, z1⟩
    · exact (isOwn_no (no i hi) z).elim
    · cases z
    · rcases backD_at e2 with ⟨hj, z | z⟩ | ⟨hj, z2⟩
      · exact (isOwn_no (no j hj) z).elim
      · cases z
      · rw [← hs i hi] at e3
        rw [← hs j hj] at e4
        exact r'.slots.inj i j c c' a z1 z2 e3 e4
theorem back_no {δ0 δ : List Slot} {vs : List Nat} (no : ∀ v ∈ vs, isOwn δ0 v = false) : ∀ v ∈ vs, isOwn (backD δ0 δ vs) v = false := fun v hv => by
  cases e : (backD δ0 δ vs)[v]? with
  | none => unfold isOwn; rw [e]
  | some sl =>
    unfold isOwn
    rw [e]
    rcases backD_at e with ⟨_, z | z⟩ | ⟨n, _⟩
    · have := no v hv
      unfold isOwn at this
      rw [z] at this
      exact this
    · rw [z]
    · exact (n hv).elim
/-- a new thing at p that the run leaves alone: it stands in the def's entry heap -/
theorem Rel.pin {p : Addr} {o : HO} (r : Rel K H0 α0 H α σ s) (h : H p = none) (nf : ¬ Fixed o) : Rel K (upd H0 p o) α0 (upd H p o) α σ s := by
  have h0 := r.free0 h
  have r1 := r.new (o := o) h
  refine ⟨r1.cells, ⟨r1.slots.len, r1.slots.val, fun i c e => ?_, r1.slots.inj⟩, fun a u e n => ?_, fun a ha => ?_, ⟨fun a u e f => ?_, r1.st.pre, fun a e => ?_⟩⟩
  · obtain ⟨a, e1, e2, e3, e4⟩ := r1.slots.own i c e
    obtain ⟨a', e1', _, _, e4'⟩ := r.slots.own i c e
    rw [e1] at e1'
    cases e1'
    obtain ⟨o', ho⟩ := e4'.some
    exact ⟨a, e1, e2, by rw [upd_ne (fun z => by subst z; rw [h] at ho; cases ho)]; exact e3, e4⟩
  · by_cases z : a = p
    · subst z
      rw [upd_same] at e ⊢
      exact e
    · rw [upd_ne z] at e ⊢
      exact r.ot a u e n
  · rcases r.nw a ha with z | z
    · exact .inl z
    · refine .inr ?_
      rw [upd_ne]
      · exact z
      · rintro rfl
        exact r.nota h ha
  · by_cases z : a = p
    · subst z
      rw [upd_same] at e
      cases e
      exact (nf f).elim
    · rw [upd_ne z] at e ⊢
      exact r.st.im a u e f
  · by_cases z : a = p
    · subst z
      rw [upd_same] at e
      cases e
    · rw [upd_ne z] at e ⊢
      exact r.st.dom a e
theorem Rel.pinned {p : Addr} {o : HO} (r : Rel K (upd H0 p o) α0 H α σ s) (n : p ∉ α0) : H p = some o := r.ot p o upd_same n
/-- the pinned thing changes -/
theorem Rel.repin {p : Addr} {o o' : HO} (r : Rel K (upd H0 p o) α0 H α σ s) (n : p ∉ α0) (nf : ¬ Fixed o) (nf' : ¬ Fixed o') : Rel K (upd H0 p o') α0 (upd H p o') α σ s ∧ Stay H α (upd H p o') α := by
  have hp := r.pinned n
  have na : p ∉ α := fun z => by
    rcases r.nw p z with w | w
    · exact n w
    · rw [upd_same] at w; cases w
  have t : Stay H α (upd H p o') α := ⟨fun a u e f => by
    by_cases z : a = p
    · subst z
      rw [hp] at e
      cases e
      exact (nf f).elim
    · rw [upd_ne z]; exact e, List.prefix_rfl, fun a e => by
    by_cases z : a = p
    · subst z
      rw [upd_same] at e
      cases e
    · rw [upd_ne z] at e; exact e⟩
  refine ⟨⟨⟨r.cells.len, r.cells.nd, fun m a c e1 e2 => ?_⟩, ⟨r.slots.len, fun i d e => ?_, fun i c e => ?_, r.slots.inj⟩, fun a u e m => ?_, fun a ha => ?_, ⟨fun a u e f => ?_, r.st.pre, fun a e => ?_⟩⟩, t⟩
  · refine (r.cells.at_ m a c e1 e2).stay t fun u hu _ => ?_
    rw [upd_ne]
    · exact hu
    · rintro rfl
      exact na (List.mem_of_getElem? e1)
  · obtain ⟨v, e1, e2⟩ := r.slots.val i d e
    exact ⟨v, e1, Rv.stay t _ _ e2⟩
  · obtain ⟨a, e1, e2, e3, e4⟩ := r.slots.own i c e
    have ne : a ≠ p := by
      rintro rfl
      rw [upd_same] at e3
      cases e3
    rw [upd_ne ne] at e3
    refine ⟨a, e1, e2, by rw [upd_ne ne]; exact e3, e4.stay t fun u hu _ => ?_⟩
    rw [upd_ne ne]
    exact hu
  · by_cases z : a = p
    · subst z
      rw [upd_same] at e ⊢
      exact e
    · rw [upd_ne z] at e ⊢
      exact r.ot a u (by rw [upd_ne z]; exact e) m
  · rcases r.nw a ha with z | z
    · exact .inl z
    · refine .inr ?_
      have ne : a ≠ p := by
        rintro rfl
        exact na ha
      rw [upd_ne ne] at z ⊢
      exact z
  · by_cases z : a = p
    · subst z
      rw [upd_same] at e
      cases e
      exact (nf' f).elim
    · rw [upd_ne z] at e ⊢
      exact r.st.im a u (by rw [upd_ne z]; exact e) f
  · by_cases z : a = p
    · subst z
      rw [upd_same] at e
      cases e
    · rw [upd_ne z] at e ⊢
      have := r.st.dom a e
      rw [upd_ne z] at this
      exact this
theorem Rel.unpin {p : Addr} {o : HO} (r : Rel K (upd H0 p o) α0 H α σ s) (h0 : H0 p = none) : Rel K H0 α0 H α σ s := by
  refine ⟨r.cells, ⟨r.slots.len, r.slots.val, fun i c e => ?_, r.slots.inj⟩, fun a u e m => ?_, fun a ha => ?_, ⟨fun a u e f => ?_, r.st.pre, fun a e => ?_⟩⟩
  · obtain ⟨a, e1, e2, e3, e4⟩ := r.slots.own i c e
    refine ⟨a, e1, e2, ?_, e4⟩
    by_cases z : a = p
    · subst z; exact h0
    · rw [upd_ne z] at e3; exact e3
  · have z : a ≠ p := by rintro rfl; rw [h0] at e; cases e
    exact r.ot a u (by rw [upd_ne z]; exact e) m
  · rcases r.nw a ha with w | w
    · exact .inl w
    · by_cases z : a = p
      · subst z; exact .inr h0
      · rw [upd_ne z] at w; exact .inr w
  · have z : a ≠ p := by rintro rfl; rw [h0] at e; cases e
    exact r.st.im a u (by rw [upd_ne z]; exact e) f
  · have w := r.st.dom a e
    by_cases z : a = p
    · subst z; exact h0
    · rw [upd_ne z] at w; exact w
theorem Rel.pinRF {p : Addr} {o : HO} {c : Cell} (r : Rel K (upd H0 p o) α0 H α σ s) (h0 : H0 p = none) (n : p ∉ α0) (hc : CellOk K H α p c) : RF K H0 H α σ s p c := by
  refine ⟨hc, fun z => ?_, h0, fun i c' e1 e2 => ?_⟩
  · rcases r.nw p z with w | w
    · exact n w
    · rw [upd_same] at w; cases w
  · obtain ⟨a, e3, e4, e5, e6⟩ := r.slots.own i c' e1
    rw [e2] at e3
    cases e3
    rw [upd_same] at e5
    cases e5
end
/-! tests of a clause -/
structure PTsD (X : Cx) (ifs : List Expr) (f : FT) : Prop where
  run : ∀ W, Takes X W → ∃ t, PTs X ifs t ∧ ∀ H0 α0 σ H α s Q, Rel X.K H0 α0 H α σ s → PostT X.K H0 α0 σ W H α Q (f s) → t σ H Q
def dYes : FT := fun s => .ok true s
theorem td_nil {X : Cx} : PTsD X [] dYes := ⟨fun W _ => ⟨_, pts_nil, fun H0 α0 σ H α s Q r q => q H α r (Stay.refl _ _)⟩⟩
theorem td_one {X : Cx} {c : Expr} {f : FT} (h : PTD X c f) : PTsD X [c] f := ⟨fun W tk => let ⟨t, p, q⟩ := h.run W tk; ⟨t, pts_one p, q⟩⟩
structure Blk where
  s : Shared
  H : Hp
  C : Addr
  cl : List (Str × Addr)
  fp : List Addr
abbrev CxB (X : Cx) (scope : Scope) (b : Blk) : Cx := X.blk b.s b.H scope (compEnvC scope b.cl b.C X.env) b.fp
section
variable {X : Cx} {elt tg iter : Expr} {ifs : List Expr} {scope : Scope} {own : List (Str × Nat)} {pos : Pos} {fi : FA} {g : FG} {ft : FT} {fe : FE} {ws : List Nat}
theorem lc_ex (hi : PID X tg iter fi) (hw : ws.all (fun i => (own.map (·.2)).contains i) = true) (hg : ∀ b, PGD (CxB X scope b) tg ws g) (ht : ∀ b, PTsD (CxB X scope b) ifs ft) (he : ∀ b, PED (CxB X scope b) elt fe) (W : WX) (tk : Takes X W) :
    ∃ wi tg' tt te, PI X tg iter wi ∧ (∀ b, PG (CxB X scope b) tg tg') ∧ (∀ b, PTs (CxB X scope b) ifs tt) ∧ (∀ b, PE (CxB X scope b) elt te) ∧ ∀ H0 α0 σ H α s Q, Rel X.K H0 α0 H α σ s → PostF X.K H0 α0 σ W H α Q (dLc (own.map (·.2)) fi g ft fe s) → tLc wi tg' tt te (own.map (·.2)) σ H Q := by
  obtain ⟨wi, pi, qi⟩ := hi.run W tk
  have hg' := fun b => (hg b).ex
  have ht' := fun b => (ht b).run _ Takes.none
  have he' := fun b => (he b).run _ Takes.none
  obtain ⟨tg1, hg2⟩ := Classical.axiomOfChoice hg'
  obtain ⟨tt1, ht2⟩ := Classical.axiomOfChoice ht'
  obtain ⟨te1, he2⟩ := Classical.axiomOfChoice he'
  have pg := fun b => (hg2 b).1
  have qg := fun b => (hg2 b).2
  have pt := fun b => (ht2 b).1
  have qt := fun b => (ht2 b).2
  have pe := fun b => (he2 b).1
  have qe := fun b => (he2 b).2
  refine ⟨wi, fun v σ H Q => ∀ b, tg1 b v σ H Q, fun σ H Q => ∀ b, tt1 b σ H Q, fun σ H Q => ∀ b, te1 b σ H Q, pi, fun b => ⟨fun pins s v u σ H Q I r h => (pg b).run pins s v u σ H Q I r (h b)⟩, fun b => ⟨fun pins s σ H Q I h => (pt b).run pins s σ H Q I (h b)⟩, fun b => ⟨fun pins s σ H Q I h => (pe b).run pins s σ H Q I (h b)⟩, fun H0 α0 σ H α s Q r q => qi H0 α0 σ H α s _ r ?_⟩
  unfold dLc at q
  cases ei : fi s with
  | bad => rw [ei] at q; exact q.elim
  | exc e s1 => rw [ei] at q; exact q
  | ok ds s1 =>
    rw [ei] at q
    intro J H1 α1 r1 t1 w
    simp only [Res.bind] at q
    split at q
    · rename_i hc
      rw [Bool.and_eq_true, decide_eq_true_eq] at hc
      obtain ⟨hl, hno⟩ := hc
      have no1 : ∀ v ∈ own.map (·.2), isOwn s1.δ v = false := fun v hv => by simpa using List.all_eq_true.mp hno v hv
      have hws : ∀ i ∈ ws, i ∈ own.map (·.2) := fun i h => by simpa using List.all_eq_true.mp hw i h
      generalize own.map (·.2) = vs at *
      intro Dd hD
      have h0 : H0 Dd = none := r1.free0 hD
      have n0 : Dd ∉ α0 := fun z => r1.nota hD (r1.st.pre.subset z)
      refine ⟨fun i m H => i + m = ds.length ∧ ∃ s' α' acc vacc, Rel X.K (upd H0 Dd (.lst vacc)) α0 H α' σ s' ∧ Stay H1 α1 H α' ∧ Rvs X.K H α' acc vacc ∧ acc.length ≤ i ∧ (∀ v ∈ vs, isOwn s'.δ v = false) ∧
        PostF X.K H0 α0 σ W H α' Q (match dLcGo vs g ft fe (ds.drop i) s' with | .ok ys s2 => .ok (.lst (acc ++ ys)) s2 | _ => .bad), ⟨ds.length, Nat.zero_add _, s1, α1, [], [], r1.pin hD (fun z => z), Stay.upd_new hD, .nil, Nat.zero_le _, no1, ?_⟩, ?_⟩
      · rw [List.drop_zero]
        have q2 : PostF X.K H0 α0 σ W H α Q (match dLcGo vs g ft fe ds s1 with | .ok ys s2 => .ok (.lst ys) s2 | _ => .bad) := q
        cases eg : dLcGo vs g ft fe ds s1 <;> rw [eg] at q2 <;> simp only [List.nil_append] at q2 ⊢
        · exact fun a H' α' r' t' rf => q2 a H' α' r' (t1.trans ((Stay.upd_new hD).trans t')) rf
        · exact q2
        · exact q2
      · rintro i m H2 ⟨hm, s', α', acc, vacc, rl, st, ra, hai, no, k⟩
        cases m with
        | zero =>
          have e : i = ds.length := by omega
          subst e
          rw [List.drop_length] at k
          simp only [dLcGo, List.append_nil] at k
          refine .inl ⟨w.stop H2 α' st, k Dd H2 α' (rl.unpin h0) (Stay.refl _ _) (rl.pinRF h0 n0 ⟨vacc, rl.pinned n0, ra⟩)⟩
        | succ m =>
          have hi : i < ds.length := by omega
          have ed := List.getElem?_eq_getElem hi
          rw [List.drop_eq_getElem_cons hi] at k
          refine .inr ⟨w.go H2 α' i _ st ed, fun H' => ∃ m', m' < m + 1 ∧ (i + 1) + m' = ds.length ∧ ∃ s' α' acc vacc, Rel X.K (upd H0 Dd (.lst vacc)) α0 H' α' σ s' ∧ Stay H1 α1 H' α' ∧ Rvs X.K H' α' acc vacc ∧ acc.length ≤ i + 1 ∧ (∀ v ∈ vs, isOwn s'.δ v = false) ∧
            PostF X.K H0 α0 σ W H' α' Q (match dLcGo vs g ft fe (ds.drop (i + 1)) s' with | .ok ys s2 => .ok (.lst (acc ++ ys)) s2 | _ => .bad), fun _ z => z, fun x H3 hy => ?_⟩
          obtain ⟨r3, t3, rv⟩ := w.yld _ α0 H2 α' σ s' i _ x H3 st rl ed hy
          unfold dLcGo at k
          cases eg : g ds[i] { s' with δ := wipeD s'.δ vs } with
          | none => rw [eg] at k; exact k.elim
          | some s4 =>
            rw [eg] at k
            intro b
            refine qg b _ α0 _ H3 α' _ _ x s4 _ (r3.wipe vs) rv eg fun σ4 H4 r4 t4 b4 => ⟨by rw [wipe_but b4 hws]; exact wipe_wipe σ vs, fun b => ?_⟩
            refine qt b _ α0 σ4 H4 α' s4 _ r4 ?_
            simp only at k
            cases et : ft s4 with
            | bad => rw [et] at k; exact k.elim
            | exc e s5 => rw [et] at k; exact k.elim
            | ok bb s5 =>
              rw [et] at k
              intro H5 α5 r5 t5
              have t35 := (t3.trans t4).trans t5
              cases bb with
              | false =>
                simp only at k
                rw [if_neg Bool.false_ne_true]
                refine ⟨m, Nat.lt_succ_self m, by omega, _, α5, acc, vacc, r3.back no (t4.trans t5) r5 b4 hws, st.trans t35, Rvs.stay t35 _ _ ra, by omega, back_no no, ?_⟩
                cases eq : dLcGo vs g ft fe (ds.drop (i + 1)) { δ := backD s'.δ s5.δ vs, μ := s5.μ } <;> rw [eq] at k <;> simp only at k ⊢
                · exact fun a H' α' r' t' rf => k a H' α' r' (t35.trans t') rf
                · exact k
                · exact k
              | true =>
                simp only at k
                rw [if_pos rfl]
                intro b
                refine qe b _ α0 σ4 H5 α5 s5 _ r5 ?_
                cases ee : fe s5 with
                | bad => rw [ee] at k; exact k.elim
                | exc e s6 => rw [ee] at k; exact k.elim
                | ok y s6 =>
                  rw [ee] at k
                  intro v H6 α6 r6 t6 rx
                  simp only at k
                  cases hny : noOwn y with
                  | false => rw [hny, if_neg Bool.false_ne_true] at k; exact k.elim
                  | true =>
                    rw [hny, if_pos rfl] at k
                    have rvy := noOwn_rv rx hny
                    have rb := r3.back no ((t4.trans t5).trans t6) r6 b4 hws
                    obtain ⟨rp, tp⟩ := rb.repin (o' := .lst (vacc ++ [v])) n0 (fun z => z) (fun z => z)
                    have t36 := (t35.trans t6).trans tp
                    have hlen : acc.length < sizeLine := by rw [sizeLine_eq]; omega
                    refine ⟨vacc, r6.pinned n0, by rw [ra.length]; exact hlen, m, Nat.lt_succ_self m, by omega, _, α6, acc ++ [y], vacc ++ [v], rp, st.trans t36, (Rvs.stay t36 _ _ ra).append (.single (Rv.stay tp _ _ rvy)), by simp; omega, back_no no, ?_⟩
                    cases eq : dLcGo vs g ft fe (ds.drop (i + 1)) { δ := backD s'.δ s6.δ vs, μ := s6.μ } <;> rw [eq] at k <;> simp only [Res.bind] at k ⊢
                    · rw [List.append_assoc]
                      exact fun a H' α' r' t' rf => k a H' α' r' (t36.trans t') rf
                    · exact k
                    · exact k
    · exact q.elim
theorem pf_lc (hc : X.calm = true) (hN : X.N.Nodup) (ok : blkC X.N X.env.scope scope own = true) (hi : PID X tg iter fi) (hg : ∀ b, PGD (CxB X scope b) tg ws g) (ht : ∀ b, PTsD (CxB X scope b) ifs ft) (he : ∀ b, PED (CxB X scope b) elt fe) (hw : ws.all (fun i => (own.map (·.2)).contains i) = true := by rfl)
    (hs : ∀ x, foldedSetIterable iter X.env x = pure x := by intro _; rfl) : PFD X (.ListComp elt [⟨tg, iter, ifs, 0⟩] scope pos) (dLc (own.map (·.2)) fi g ft fe) := by
  refine ⟨fun W tk => ?_⟩
  obtain ⟨wi, tg', tt, te, h1, h2, h3, h4, h5⟩ := lc_ex hi hw hg ht he W tk
  exact ⟨_, pe_lc hc hN h1 (blkOk_by ok) (fun s H C cl fp => h2 ⟨s, H, C, cl, fp⟩) (fun s H C cl fp => h3 ⟨s, H, C, cl, fp⟩) (fun s H C cl fp => h4 ⟨s, H, C, cl, fp⟩) hs, h5⟩
/-- name = [..] on one line: the name's own -/
theorem sd_setLc {i : Nat} {y : Str} {py spos : Pos} (hc : X.calm = true) (hN : X.N.Nodup) (hy : X.N[i]? = some y) (hyl : X.env.scope.names.lookup y = some .local) (hsw : swapsWith (.ListComp elt [⟨tg, iter, ifs, 0⟩] scope pos) (some (.Name y py)) spos.line X.env = pure true)
    (ok : blkC X.N X.env.scope scope own = true) (hi : PID X tg iter fi) (hg : ∀ b, PGD (CxB X scope b) tg ws g) (ht : ∀ b, PTsD (CxB X scope b) ifs ft) (he : ∀ b, PED (CxB X scope b) elt fe) (hw : ws.all (fun i => (own.map (·.2)).contains i) = true := by rfl)
    (hs : ∀ x, foldedSetIterable iter X.env x = pure x := by intro _; rfl) : PSD X (.Assign [.Name y py] (.ListComp elt [⟨tg, iter, ifs, 0⟩] scope pos) spos) (dAsgO i (dLc (own.map (·.2)) fi g ft fe)) := by
  refine ⟨fun W tk => ?_⟩
  obtain ⟨wi, tg', tt, te, h1, h2, h3, h4, h5⟩ := lc_ex hi hw hg ht he W tk
  refine ⟨_, ps_setLc hc hN hy hyl hsw h1 (blkOk_by ok) (fun s H C cl fp => h2 ⟨s, H, C, cl, fp⟩) (fun s H C cl fp => h3 ⟨s, H, C, cl, fp⟩) (fun s H C cl fp => h4 ⟨s, H, C, cl, fp⟩) hs, fun H0 α0 σ H α s D r k => h5 H0 α0 σ H α s _ r ?_⟩
  unfold dAsgO at k
  cases ea : dLc (own.map (·.2)) fi g ft fe s with
  | bad => rw [ea] at k; exact k.elim
  | exc e s1 => rw [ea] at k; exact fun cls dd H' α' r' x => k cls dd σ H' α' r' x
  | ok c s1 =>
    rw [ea] at k
    exact fun a H1 α1 r1 t1 rf => k _ H1 α1 (r1.setO rf) t1
end
end DL

namespace DL
open PySem PySem.Spec PyProof.Rows L2
/-! ### 27. Things that change: methods, stores -/
def mutAt (s : S) : D → Option Cell
  | .own i => (match s.δ[i]? with | some (.own c) => some c | _ => none)
  | .ref n => s.μ[n]?
  | _ => none
def setAt (s : S) (o : D) (c : Cell) : S := match o with
  | .own i => { s with δ := s.δ.set i (.own c) }
  | .ref n => { s with μ := s.μ.set n c }
  | _ => s
theorem cell_mut {K : PySem.W.Frag} {H : Hp} {α : List Addr} {a : Addr} {c : Cell} (h : CellOk K H α a c) (nd : c ≠ .dead) : ∃ u, H a = some u ∧ ¬ Fixed u := by
  cases c with
  | lst xs => obtain ⟨vs, h, _⟩ := h; exact ⟨_, h, fun z => z⟩
  | dct kvs =>
    rcases h with ⟨kv, h, _⟩ | ⟨kv, h, _⟩
    · exact ⟨_, h, fun z => z⟩
    · exact ⟨_, h, fun z => z⟩
  | ins C fs => obtain ⟨_, _, h, _⟩ := h; exact ⟨_, h, fun z => z⟩
  | dead => exact absurd rfl nd
section
variable {K : PySem.W.Frag} {H0 H H' : Hp} {α0 α : List Addr} {σ : Sg} {s : S}
theorem stay_mut {a : Addr} {u : HO} (hu : H a = some u) (nf : ¬ Fixed u) (k : ∀ b o, b ≠ a → H b = some o → H' b = some o) (dm : ∀ b, H' b = none → H b = none) : Stay H α H' α :=
  ⟨fun b o e f => k b o (fun z => by subst z; rw [hu] at e; cases e; exact nf f) e, List.prefix_rfl, dm⟩
theorem mut_at {o : D} {v : V} {c : Cell} (r : Rel K H0 α0 H α σ s) (rx : Rx K H α σ o v) (e : mutAt s o = some c) : ∃ a, v = .ref a ∧ CellOk K H α a c ∧
    ∀ H' c', (∀ b u, b ≠ a → H b = some u → H' b = some u) → Stay H α H' α → CellOk K H' α a c' → Rel K H0 α0 H' α σ (setAt s o c') := by
  unfold mutAt at e
  split at e
  · rename_i i
    split at e
    · rename_i c0 hc
      cases e
      obtain ⟨a, h1, h2, h3, h4⟩ := r.slots.own i c hc
      have h' : σ[i]? = some (some v) := rx
      rw [h1] at h'
      cases h'
      refine ⟨a, rfl, h4, fun H' c' k t hc' => ?_⟩
      refine ⟨⟨r.cells.len, r.cells.nd, fun n b x e1 e2 => ?_⟩, ⟨by simpa [setAt] using r.slots.len, fun j d e => ?_, fun j x e => ?_, fun j l x y b e1 e2 e3 e4 => ?_⟩, fun b u e m => ?_, r.nw, r.st.trans t⟩
      · exact (r.cells.at_ n b x e1 e2).stay t fun u hu _ => k b u (fun z => h2 (z ▸ List.mem_of_getElem? e1)) hu
      · rcases get_set e with ⟨_, z, _⟩ | ⟨ne, z⟩
        · cases z
        · obtain ⟨w, e1, e2⟩ := r.slots.val j d z
          exact ⟨w, e1, Rv.stay t _ _ e2⟩
      · rcases get_set e with ⟨rfl, z, _⟩ | ⟨ne, z⟩
        · cases z
          exact ⟨a, h1, h2, h3, hc'⟩
        · obtain ⟨b, e1, e2, e3, e4⟩ := r.slots.own j x z
          refine ⟨b, e1, e2, e3, e4.stay t fun u hu _ => k b u (fun w => ?_) hu⟩
          subst w
          exact ne (r.slots.inj i j c x b hc z h1 e1)
      · have back : ∀ {j : Nat} {x : Cell}, (s.δ.set i (.own c'))[j]? = some (.own x) → ∃ y, s.δ[j]? = some (.own y) := fun {j x} e => by
          rcases get_set e with ⟨rfl, _, _⟩ | ⟨_, z⟩
          · exact ⟨_, hc⟩
          · exact ⟨_, z⟩
        obtain ⟨x', z1⟩ := back e1
        obtain ⟨y', z2⟩ := back e2
        exact r.slots.inj j l x' y' b z1 z2 e3 e4
      · exact k b u (fun z => by subst z; rw [h3] at e; cases e) (r.ot b u e m)
    · cases e
  · rename_i n
    have h' : Rv K H α (.ref n) v := rx
    simp only [Rv] at h'
    obtain ⟨a, ha, rfl⟩ := h'
    refine ⟨a, rfl, r.cells.at_ n a c ha e, fun H' c' k t hc' => ?_⟩
    have hm := List.mem_of_getElem? ha
    refine ⟨⟨by simpa [setAt] using r.cells.len, r.cells.nd, fun m b x e1 e2 => ?_⟩, ⟨r.slots.len, fun j d e => ?_, fun j x e => ?_, r.slots.inj⟩, fun b u e m => ?_, r.nw, r.st.trans t⟩
    · rcases get_set e2 with ⟨rfl, z, _⟩ | ⟨ne, z⟩
      · rw [ha] at e1
        cases e1
        rw [z]
        exact hc'
      · refine (r.cells.at_ m b x e1 z).stay t fun u hu _ => k b u (fun w => ?_) hu
        subst w
        exact ne ((List.getElem?_inj (List.getElem?_eq_some_iff.mp ha).1 r.cells.nd).mp (ha.trans e1.symm))
    · obtain ⟨w, e1, e2⟩ := r.slots.val j d e
      exact ⟨w, e1, Rv.stay t _ _ e2⟩
    · obtain ⟨b, e1, e2, e3, e4⟩ := r.slots.own j x e
      exact ⟨b, e1, e2, e3, e4.stay t fun u hu _ => k b u (fun w => e2 (w ▸ hm)) hu⟩
    · refine k b u (fun z => ?_) (r.ot b u e m)
      subst z
      rcases r.nw b hm with w | w
      · exact m w
      · rw [w] at e; cases e
  · cases e
/-- the thing at a becomes o -/
theorem mut_upd {a : Addr} {u o : HO} (hu : H a = some u) (nf : ¬ Fixed u) : (∀ b w, b ≠ a → H b = some w → upd H a o b = some w) ∧ Stay H α (upd H a o) α := by
  have k : ∀ b w, b ≠ a → H b = some w → upd H a o b = some w := fun b w ne e => by rw [upd_ne ne]; exact e
  refine ⟨k, stay_mut hu nf k fun b e => ?_⟩
  by_cases z : b = a
  · subst z; rw [upd_same] at e; cases e
  · rw [upd_ne z] at e; exact e
end
/-- a method does g -/
def MB (X : Cx) (id : String) (g : S → D → List D → Option (D × S)) : Prop :=
  ∀ (pins : List (Addr × Obj)) (s : Shared) (σ0 : Sg) (H : Hp) (xv : V) (xs : List V) (v : Value) (us : List Value) (Q : VK) (H0 : Hp) (σ : Sg) (α0 α : List Addr) (st : S) (o : D) (ds : List D) (d : D) (st' : S), Inv X pins σ0 H s → Rel X.K H0 α0 H α σ st → Rx X.K H α σ o xv → Rxs X.K H α σ ds xs → RelV xv v → Vals xs us → g st o ds = some (d, st') →
    (∀ w H' α', Rel X.K H0 α0 H' α' σ st' → Stay H α H' α' → Rx X.K H' α' σ d w → Q w H') → wpAny (model X.prog X.w) X.A (call (.builtin id) (v :: us)) (EP X pins σ0 Q) X.xe s
def rMB (K : PySem.W.Frag) (g : S → D → List D → Option (D × S)) : V → List V → Hp → VK → Prop := fun xv xs H Q => ∃ H0 σ α0 α st o ds d st', Rel K H0 α0 H α σ st ∧ Rx K H α σ o xv ∧ Rxs K H α σ ds xs ∧ g st o ds = some (d, st') ∧ ∀ w H' α', Rel K H0 α0 H' α' σ st' → Stay H α H' α' → Rx K H' α' σ d w → Q w H'
theorem MB.mt {X : Cx} {id : String} {g : S → D → List D → Option (D × S)} (h : MB X id g) : MtM X id (rMB X.K g) := fun pins s σ0 H xv xs v us Q I rv rvs ⟨H0, σ, α0, α, st, o, ds, d, st', rl, rx, rxs, e, q⟩ => h pins s σ0 H xv xs v us Q H0 σ α0 α st o ds d st' I rl rx rxs rv rvs e q
theorem MB.of {X : Cx} {id : String} {r : V → List V → Hp → VK → Prop} {g : S → D → List D → Option (D × S)} (hm : MtM X id r)
    (h : ∀ (H0 : Hp) (α0 : List Addr) (σ : Sg) (H : Hp) (α : List Addr) (s : S) (xv : V) (xs : List V) (o : D) (ds : List D) (d : D) (s' : S) (Q : VK), Rel X.K H0 α0 H α σ s → Rx X.K H α σ o xv → Rxs X.K H α σ ds xs → g s o ds = some (d, s') →
      (∀ w H' α', Rel X.K H0 α0 H' α' σ s' → Stay H α H' α' → Rx X.K H' α' σ d w → Q w H') → r xv xs H Q) : MB X id g :=
  fun pins s σ0 H xv xs v us Q H0 σ α0 α st o ds d st' I rl rx rxs rv rvs e q => hm pins s σ0 H xv xs v us Q I rv rvs (h H0 α0 σ H α st xv xs o ds d st' Q rl rx rxs e q)
theorem MB.or {X : Cx} {id : String} {g g' : S → D → List D → Option (D × S)} (h : MB X id g) (h' : MB X id g') : MB X id (fun s o ds => (g s o ds).or (g' s o ds)) := fun pins s σ0 H xv xs v us Q H0 σ α0 α st o ds d st' I rl rx rxs rv rvs eg q => by
  dsimp only at eg
  cases e : g st o ds with
  | some d' =>
    rw [e] at eg
    obtain rfl : d' = (d, st') := Option.some.inj eg
    exact h pins s σ0 H xv xs v us Q H0 σ α0 α st o ds d st' I rl rx rxs rv rvs e q
  | none =>
    rw [e] at eg
    exact h' pins s σ0 H xv xs v us Q H0 σ α0 α st o ds d st' I rl rx rxs rv rvs eg q
/-- the type of data, as a method call reads it -/
theorem typ_d {X : Cx} {pins : List (Addr × Obj)} {s : Shared} {σ0 σ : Sg} {H H0 : Hp} {α0 α : List Addr} {st : S} {d : D} {v : V} {u : Value} {T : String} (I : Inv X pins σ0 H s) (rl : Rel X.K H0 α0 H α σ st) (h : Rx X.K H α σ d v) (r : RelV v u) (e : tyD st d = some T) (ne : T = "list" ∨ T = "dict" ∨ T = "str" ∨ T = "int") :
    s.TypeIs u T ∧ ∀ a, u = .ref a → ∃ ob, s.heap.get? a = some ob ∧ ob.dict = none := by
  have lst : ∀ {a : Addr} {vs : List V}, SqL X.K H a vs → s.TypeIs (.ref a) "list" ∧ ∀ b, (Value.ref a) = .ref b → ∃ ob, s.heap.get? b = some ob ∧ ob.dict = none := fun {a vs} hq => by
    obtain ⟨its, _, pl, _⟩ := I.list hq
    refine ⟨pl.isList.typeIs, fun b e => ?_⟩
    cases e
    obtain ⟨o, n, e, c, hd, _⟩ := pl
    exact ⟨o, e, hd⟩
  have dct : ∀ {a : Addr}, (∃ o, s.heap.get? a = some o ∧ o.ExactDict) → s.TypeIs (.ref a) "dict" ∧ ∀ b, (Value.ref a) = .ref b → ∃ ob, s.heap.get? b = some ob ∧ ob.dict = none := fun {a} ⟨o, e, ex⟩ => by
    refine ⟨⟨o, e, ex.1⟩, fun b e2 => ?_⟩
    cases e2
    exact ⟨o, e, ex.2.1⟩
  have viaC : ∀ (a : Addr) (c : Cell), CellOk X.K H α a c → (match c with | .lst _ => some "list" | .dct _ => some "dict" | _ => none) = some T → s.TypeIs (.ref a) T ∧ ∀ b, (Value.ref a) = .ref b → ∃ ob, s.heap.get? b = some ob ∧ ob.dict = none := by
    intro a c hc e
    cases c <;> simp only [Option.some.injEq, reduceCtorEq] at e
    · subst e
      obtain ⟨vs, ha, _⟩ := hc
      exact lst (.of ha)
    · subst e
      rcases hc with ⟨kv, ha, _⟩ | ⟨kv, ha, _⟩
      · obtain ⟨_, _, _, _, o, _, _, e, ex, _⟩ := I.hok a _ ha
        exact dct ⟨o, e, ex⟩
      · obtain ⟨_, _, _, _, o, _, _, e, ex, _⟩ := I.hok a _ ha
        exact dct ⟨o, e, ex⟩
  cases d <;> simp only [tyD, Option.some.injEq, reduceCtorEq] at e
  case non => subst e; simp at ne
  case bl b => subst e; simp at ne
  case tup b => subst e; simp at ne
  case int i =>
    subst e
    rw [rx_int h] at r
    obtain ⟨t, rfl⟩ := r
    exact ⟨typeIs_int s i t, fun _ e => nomatch e⟩
  case str z =>
    subst e
    rw [rx_str h] at r
    obtain ⟨t, rfl⟩ := r
    exact ⟨typeIs_str s z t, fun _ e => nomatch e⟩
  case ref n =>
    have h' : Rv X.K H α (.ref n) v := h
    simp only [Rv] at h'
    obtain ⟨a, ha, rfl⟩ := h'
    cases r
    simp only [cellAt] at e
    cases hc : st.μ[n]? with
    | none => rw [hc] at e; cases e
    | some c =>
      rw [hc] at e
      exact viaC a c (rl.cells.at_ n a c ha hc) (by cases c <;> simpa using e)
  case own n =>
    have h' : σ[n]? = some (some v) := h
    simp only [cellAt] at e
    cases hc : st.δ[n]? with
    | none => rw [hc] at e; simp at e
    | some c =>
      rw [hc] at e
      cases c with
      | no => simp at e
      | val _ => simp at e
      | own c =>
        obtain ⟨a, ha, _, _, q⟩ := rl.slots.own n c hc
        rw [h'] at ha
        cases ha
        cases r
        exact viaC a c q (by cases c <;> simpa using e)
  case lst xs =>
    subst e
    have h' : Rv X.K H α (.lst xs) v := h
    simp only [Rv] at h'
    obtain ⟨a, vs, rfl, hs, _⟩ := h'
    cases r
    exact lst hs.sq
  case dct kvs =>
    subst e
    have h' : Rv X.K H α (.dct kvs) v := h
    simp only [Rv] at h'
    obtain ⟨a, o, rfl, ⟨kv, hf, _⟩ | ⟨kv, hf, _⟩⟩ := h'
    · cases r
      obtain ⟨_, h2, h3, _⟩ := I.frzK hf
      exact dct ⟨o, h2, h3⟩
    · cases r
      obtain ⟨_, h2, h3, _⟩ := I.frzT hf
      exact dct ⟨o, h2, h3⟩
/-- o.m(..) -/
def dM (T : String) (g : S → D → List D → Option (D × S)) (fo : FE) (fa : FA) : FE := fun s => (fo s).bind fun o s1 => if tyD s1 o = some T then (fa s1).bind fun ds s2 => match g s2 o ds with | some (d, s3) => .ok d s3 | none => .bad else .bad
def tDM (X : Cx) (T : String) (r : V → List V → Hp → VK → Prop) (to : TE) (t : TA) : TE := fun σ H Q => to σ H fun x H1 => (∀ (pins : List (Addr × Obj)) (s : Shared) (u : Value), Inv X pins σ H1 s → RelV x u → s.TypeIs u T ∧ ∀ a, u = .ref a → ∃ ob, s.heap.get? a = some ob ∧ ob.dict = none) ∧ t σ H1 fun xs H2 => r x xs H2 Q
section
variable {X : Cx} {o e : Expr} {es : List Expr} {name : Str} {apos cpos : Pos} {T id : String}
theorem pe_dm0 {to : TE} {r : V → List V → Hp → VK → Prop} (pa : PlainAttrs T) (slot : PySem.Slot T name id) (hty : typeOf (.builtin id) = pure (.type "method_descriptor")) (hm : MtM X id r) (ho : PE X o to)
    (hbase : attributeBase o name X.env (eval o X.env) = eval o X.env := by rfl) (hline : (apos.endLine == cpos.line) = true := by rfl) : PE X (.Call (.Attribute o name apos) [] [] cpos) (tDM X T r to tNil) := by
  refine ⟨fun pins s σ H Q I h => ?_⟩
  refine wpAny_Call_method0_late hbase hline (thn (ho.run pins s σ H _ I h) fun v s1 ⟨x, H1, I1, r1, ty, q1⟩ => ?_)
  obtain ⟨h1, h2⟩ := ty pins s1 v I1 r1
  exact ⟨T, id, pa, slot, hty, h1, h2, Calls.callWith_builtin rfl (PySem.evalArgs_none (hm pins s1 σ H1 x [] v [] Q I1 r1 .nil q1))⟩
theorem pe_dm {to : TE} {t : TA} {r : V → List V → Hp → VK → Prop} (pa : PlainAttrs T) (slot : PySem.Slot T name id) (hty : typeOf (.builtin id) = pure (.type "method_descriptor")) (hm : MtM X id r) (ho : PE X o to) (ha : PA X (e :: es) t)
    (hbase : attributeBase o name X.env (eval o X.env) = eval o X.env := by rfl)
    (hfew : ((backTo cpos (starEach (e :: es) X.env)).all (fun x => !x.1) && (backToKw cpos (keywordEach [] X.env)).all (fun x => x.1.isSome)
      && decide ((e :: es).length + ([] : List Keyword).length + (if ([] : List Keyword).isEmpty then 0 else 1) < 30)) = true := by rfl)
    (hline : (apos.endLine == cpos.line) = true := by rfl) (hs : starEach (e :: es) X.env = (false, eval e X.env) :: starEach es X.env := by rfl) (hplain : (backTo cpos (starEach es X.env)).any (·.1) = false := by rfl) :
    PE X (.Call (.Attribute o name apos) (e :: es) [] cpos) (tDM X T r to t) := by
  refine ⟨fun pins s σ H Q I h => ?_⟩
  refine wpAny_Call_method_late hbase hfew hline rfl (thn (ho.run pins s σ H _ I h) fun v s1 ⟨x, H1, I1, r1, ty, q1⟩ => ?_)
  obtain ⟨h1, h2⟩ := ty pins s1 v I1 r1
  refine ⟨T, id, pa, slot, hty, h1, h2, ?_⟩
  have hA := ha.run cpos pins s1 σ H1 _ I1 q1
  rw [hs] at hA ⊢
  refine Calls.callWith_builtin (by show (false || (backTo cpos (starEach es X.env)).any (·.1)) = false; rw [hplain] <;> rfl) (Calls.evalArgs_plain ?_)
  exact thn hA fun us s2 ⟨vs, H2, I2, r2, q2⟩ => hm pins s2 σ H2 x vs v us Q I2 r1 r2 q2
theorem dm_core {fo : FE} {fa : FA} {g : S → D → List D → Option (D × S)} {to : TE} {t : TA} {W : WX} {H0 : Hp} {α0 : List Addr} (hT : T = "list" ∨ T = "dict" ∨ T = "str" ∨ T = "int")
    (qo : ∀ H0 α0 σ H α s Q, Rel X.K H0 α0 H α σ s → PostE X.K H0 α0 σ W H α Q (fo s) → to σ H Q) (qa : ∀ H0 α0 σ H α s Q, Rel X.K H0 α0 H α σ s → PostA X.K H0 α0 σ W H α Q (fa s) → t σ H Q)
    {σ : Sg} {H : Hp} {α : List Addr} {s : S} {Q : VK} (r : Rel X.K H0 α0 H α σ s) (q : PostE X.K H0 α0 σ W H α Q (dM T g fo fa s)) : tDM X T (rMB X.K g) to t σ H Q := by
  refine qo H0 α0 σ H α s _ r ?_
  unfold dM at q
  cases eo : fo s with
  | bad => rw [eo] at q; exact q.elim
  | exc e s1 => rw [eo] at q; exact q
  | ok o s1 =>
    rw [eo] at q
    intro x H1 α1 r1 t1 rx
    simp only [Res.bind] at q
    split at q
    · rename_i hty
      refine ⟨fun pins s u I ru => typ_d I r1 rx ru hty hT, ?_⟩
      refine qa H0 α0 σ H1 α1 s1 _ r1 ?_
      cases ea : fa s1 with
      | bad => rw [ea] at q; exact q.elim
      | exc e s2 => rw [ea] at q; exact q
      | ok ds s2 =>
        rw [ea] at q
        intro vs H2 α2 r2 t2 rv
        simp only at q
        split at q
        · rename_i d s3 eg
          exact ⟨H0, σ, α0, α2, s2, o, ds, d, s3, r2, rx.stay t2, rv, eg, fun w H' α' r' t' rx' => q w H' α' r' ((t1.trans t2).trans t') rx'⟩
        · exact q.elim
    · exact q.elim
theorem pd_m {fo : FE} {fa : FA} {g : S → D → List D → Option (D × S)} (hT : T = "list" ∨ T = "dict" ∨ T = "str" ∨ T = "int") (pa : PlainAttrs T) (slot : PySem.Slot T name id) (hty : typeOf (.builtin id) = pure (.type "method_descriptor")) (hm : MB X id g) (ho : PED X o fo) (ha : PAD X (e :: es) fa)
    (hbase : attributeBase o name X.env (eval o X.env) = eval o X.env := by rfl)
    (hfew : ((backTo cpos (starEach (e :: es) X.env)).all (fun x => !x.1) && (backToKw cpos (keywordEach [] X.env)).all (fun x => x.1.isSome)
      && decide ((e :: es).length + ([] : List Keyword).length + (if ([] : List Keyword).isEmpty then 0 else 1) < 30)) = true := by rfl)
    (hline : (apos.endLine == cpos.line) = true := by rfl) (hs : starEach (e :: es) X.env = (false, eval e X.env) :: starEach es X.env := by rfl) (hplain : (backTo cpos (starEach es X.env)).any (·.1) = false := by rfl) :
    PED X (.Call (.Attribute o name apos) (e :: es) [] cpos) (dM T g fo fa) := by
  refine ⟨fun W tk => ?_⟩
  obtain ⟨to, po, qo⟩ := ho.run W tk
  obtain ⟨t, p, qa⟩ := ha.run W tk
  exact ⟨_, pe_dm pa slot hty hm.mt po p hbase hfew hline hs hplain, fun H0 α0 σ H α s Q r q => dm_core hT qo qa r q⟩
theorem pd_m0 {fo : FE} {g : S → D → List D → Option (D × S)} (hT : T = "list" ∨ T = "dict" ∨ T = "str" ∨ T = "int") (pa : PlainAttrs T) (slot : PySem.Slot T name id) (hty : typeOf (.builtin id) = pure (.type "method_descriptor")) (hm : MB X id g) (ho : PED X o fo)
    (hbase : attributeBase o name X.env (eval o X.env) = eval o X.env := by rfl) (hline : (apos.endLine == cpos.line) = true := by rfl) : PED X (.Call (.Attribute o name apos) [] [] cpos) (dM T g fo dNil) := by
  refine ⟨fun W tk => ?_⟩
  obtain ⟨to, po, qo⟩ := ho.run W tk
  exact ⟨_, pe_dm0 pa slot hty hm.mt po hbase hline, fun H0 α0 σ H α s Q r q => dm_core hT qo (t := tNil) (W := W) (fa := dNil) (fun H0 α0 σ H α s Q r (q : PostA X.K H0 α0 σ W H α Q (.ok [] s)) => q [] H α r (Stay.refl _ _) .nil) r q⟩
/-! the list's methods -/
def gAppend : S → D → List D → Option (D × S) := fun s o ds => match ds, mutAt s o with
  | [d], some (.lst xs) => if noOwn d && decide (xs.length < 16777216) then some (.non, setAt s o (.lst (xs ++ [d]))) else none
  | _, _ => none
theorem mb_append : MB X "list.append" gAppend := .of mt_append fun H0 α0 σ H α s xv xs o ds d s' Q r rx rxs e q => by
  unfold gAppend at e
  split at e
  · rename_i x ys em
    split at e
    · rename_i hc
      cases e
      rw [Bool.and_eq_true, decide_eq_true_eq, ← sizeLine_eq] at hc
      obtain ⟨w, rfl, rw⟩ := rxs.one
      obtain ⟨a, rfl, hcell, k⟩ := mut_at r rx em
      obtain ⟨vs, hv, rr⟩ := hcell
      obtain ⟨k1, t⟩ := mut_upd (α := α) (o := .lst (vs ++ [w])) hv (fun z => z)
      exact ⟨a, vs, w, rfl, rfl, hv, by rw [rr.length]; exact hc.2, q .non _ α (k _ _ k1 t ⟨_, upd_same, (Rvs.stay t _ _ rr).append (.single (Rv.stay t _ _ (noOwn_rv rw hc.1)))⟩) t ox_non⟩
    · cases e
  · cases e
theorem pd_append {fo : FE} {fa : FA} (ho : PED X o fo) (ha : PAD X (e :: es) fa) (hbase : attributeBase o "append" X.env (eval o X.env) = eval o X.env := by rfl)
    (hfew : ((backTo cpos (starEach (e :: es) X.env)).all (fun x => !x.1) && (backToKw cpos (keywordEach [] X.env)).all (fun x => x.1.isSome)
      && decide ((e :: es).length + ([] : List Keyword).length + (if ([] : List Keyword).isEmpty then 0 else 1) < 30)) = true := by rfl)
    (hline : (apos.endLine == cpos.line) = true := by rfl) (hs : starEach (e :: es) X.env = (false, eval e X.env) :: starEach es X.env := by rfl) (hplain : (backTo cpos (starEach es X.env)).any (·.1) = false := by rfl) :
    PED X (.Call (.Attribute o "append" apos) (e :: es) [] cpos) (dM "list" gAppend fo fa) := pd_m (.inl rfl) F.plainAttrs_list F.slot_list_append F.type_list_append mb_append ho ha hbase hfew hline hs hplain
def gPop0 : S → D → List D → Option (D × S) := fun s o ds => match ds, mutAt s o with
  | [], some (.lst xs) => xs.getLast?.map fun d => (d, setAt s o (.lst xs.dropLast))
  | _, _ => none
theorem Rvs.dropLast {K : PySem.W.Frag} {H : Hp} {α : List Addr} {ds : List D} {vs : List V} (h : Rvs K H α ds vs) : Rvs K H α ds.dropLast vs.dropLast := by
  rw [List.dropLast_eq_take, List.dropLast_eq_take, h.length]
  exact h.take _
theorem mb_pop0 : MB X "list.pop" gPop0 := .of mt_pop fun H0 α0 σ H α s xv xs o ds d s' Q r rx rxs e q => by
  unfold gPop0 at e
  split at e
  · rename_i ys em
    simp only [Option.map_eq_some_iff, Prod.mk.injEq] at e
    obtain ⟨d', e, rfl, rfl⟩ := e
    cases rxs
    obtain ⟨a, rfl, hcell, k⟩ := mut_at r rx em
    obtain ⟨vs, hv, rr⟩ := hcell
    rw [List.getLast?_eq_getElem?] at e
    obtain ⟨w, ew, rw⟩ := rr.at_ e
    obtain ⟨k1, t⟩ := mut_upd (α := α) (o := .lst vs.dropLast) hv (fun z => z)
    exact ⟨a, vs, w, rfl, rfl, hv, by rw [rr.length]; exact ew, q w _ α (k _ _ k1 t ⟨_, upd_same, (Rvs.stay t _ _ rr).dropLast⟩) t (Rv.x (Rv.stay t _ _ rw))⟩
  · cases e
/-! o[i] = e -/
def gSetI : S → D → D → D → Option S := fun s o i d => match i, mutAt s o with
  | .int k, some (.lst xs) => (ixN xs.length k).map fun j => setAt s o (.lst (xs.set j d))
  | _, _ => none
def SetS (X : Cx) (r : TSet) (g : S → D → D → D → Option S) : Prop :=
  ∀ (H0 : Hp) (α0 : List Addr) (σ : Sg) (H : Hp) (α : List Addr) (s : S) (x y v : V) (a b d : D) (s' : S) (Q : Hp → Prop), Rel X.K H0 α0 H α σ s → Rx X.K H α σ a x → Rx X.K H α σ b y → Rv X.K H α d v → g s a b d = some s' → (∀ H' α', Rel X.K H0 α0 H' α' σ s' → Stay H α H' α' → Q H') → r x y v H Q
theorem ss_list : SetS X rSetL gSetI := fun H0 α0 σ H α s x y v a b d s' Q r rx ry rv e q => by
  unfold gSetI at e
  split at e
  · rename_i k xs em
    simp only [Option.map_eq_some_iff] at e
    obtain ⟨j, ej, rfl⟩ := e
    obtain ⟨p, rfl, hcell, kk⟩ := mut_at r rx em
    obtain ⟨vs, hv, rr⟩ := hcell
    obtain ⟨k1, t⟩ := mut_upd (α := α) (o := .lst (vs.set j v)) hv (fun z => z)
    rw [rx_int ry]
    exact ⟨p, vs, k, j, rfl, rfl, hv, by rw [rr.length]; exact ej, q _ α (kk _ _ k1 t ⟨_, upd_same, (Rvs.stay t _ _ rr).set (Rv.stay t _ _ rv) j⟩) t⟩
  · cases e
def dSetI (g : S → D → D → D → Option S) (fe fo fi : FE) : FS := fun s => match fe s with
  | .ok d s1 => if noOwn d then (match ((fo s1).bind fun o s2 => (fi s2).bind fun i s3 => match g s3 o i d with | some s4 => Res.ok () s4 | none => Res.bad) with
    | .ok _ s4 => .nx s4
    | .exc e s1 => .exc e s1
    | .bad => .bad) else .bad
  | .exc e s1 => .exc e s1
  | .bad => .bad
theorem sd_setI {a b : Expr} {st : Stmt} {r : TSet} {g : S → D → D → D → Option S} {tpos : Pos} {fe fo fi : FE} (hp : ∀ te t, PE X e te → PG X (.Subscript a b tpos) t → PS X st (tAsg te t)) (hr : PSet X r) (hs : SetS X r g) (he : PED X e fe) (ho : PED X a fo) (hi : PED X b fi)
    (ha : ∀ v, assign (.Subscript a b tpos) X.env v = (do
      let ov ← holding [v] (eval a X.env)
      let iv ← holding [v, ov] (eval b X.env)
      standAt tpos
      holding [v, ov, iv] (setItem ov iv v)
      release [v, ov, iv] []) := by intro _; rfl) : PSD X st (dSetI g fe fo fi) := by
  refine ⟨fun W tk => ?_⟩
  obtain ⟨te, pe, qe⟩ := he.run W tk
  obtain ⟨to, po, qo⟩ := ho.run W tk
  obtain ⟨ti, pi, qi⟩ := hi.run W tk
  refine ⟨_, hp te _ pe (pg_sub po pi hr ha), fun H0 α0 σ H α s D rl k => qe H0 α0 σ H α s _ rl ?_⟩
  unfold dSetI at k
  cases ee : fe s with
  | bad => rw [ee] at k; exact k.elim
  | exc e s1 => rw [ee] at k; exact fun cls dd H' α' r' x => k cls dd σ H' α' r' x
  | ok d s1 =>
    rw [ee] at k
    simp only at k
    intro v H1 α1 r1 t1 rv
    split at k
    · rename_i hn
      refine qo H0 α0 σ H1 α1 s1 _ r1 ?_
      cases eo : fo s1 with
      | bad => rw [eo] at k; exact k.elim
      | exc e s2 => rw [eo] at k; exact fun cls dd H' α' r' x => k cls dd σ H' α' r' x
      | ok o s2 =>
        rw [eo] at k
        intro x H2 α2 r2 t2 rx
        refine qi H0 α0 σ H2 α2 s2 _ r2 ?_
        simp only [Res.bind] at k
        cases ei : fi s2 with
        | bad => rw [ei] at k; exact k.elim
        | exc e s3 => rw [ei] at k; exact fun cls dd H' α' r' x => k cls dd σ H' α' r' x
        | ok i s3 =>
          rw [ei] at k
          intro y H3 α3 r3 t3 ry
          simp only at k
          cases eg : g s3 o i d with
          | none => rw [eg] at k; exact k.elim
          | some s4 =>
            rw [eg] at k
            exact hs H0 α0 σ H3 α3 s3 x y v o i d s4 _ r3 (rx.stay t3) ry (Rv.stay (t2.trans t3) _ _ (noOwn_rv rv hn)) eg fun H' α' r' t' => k σ H' α' r' (((t1.trans t2).trans t3).trans t')
    · exact k.elim
end
end DL

namespace DL
open PySem PySem.Spec PyProof.Rows L2
/-! ### 28. Chains, minus, turned around, times -/
def dChain (g g' : S → D → D → Option D) (fa fb fc : FE) : FE := fun s => (fa s).bind fun a s1 => (fb s1).bind fun b s2 => match g s2 a b with
  | some (.bl true) => (fc s2).bind fun c s3 => (match g' s3 b c with | some d => .ok d s3 | none => .bad)
  | some (.bl false) => .ok (.bl false) s2
  | _ => .bad
def dChainT (g g' : S → D → D → Option D) (fa fb fc : FE) : FT := fun s => match dChain g g' fa fb fc s with | .ok (.bl b) s1 => .ok b s1 | .exc e s1 => .exc e s1 | _ => .bad
def rOpS (K : PySem.W.Frag) (g : S → D → D → Option D) (r : R2) : R2 := r
section
variable {X : Cx}
theorem chain_core {r r' : R2} {g g' : S → D → D → Option D} {fa fb fc : FE} {ta tb tc : TE} {W : WX} (hs : OpS X r g) (hs' : OpS X r' g')
    (qa : ∀ H0 α0 σ H α s Q, Rel X.K H0 α0 H α σ s → PostE X.K H0 α0 σ W H α Q (fa s) → ta σ H Q) (qb : ∀ H0 α0 σ H α s Q, Rel X.K H0 α0 H α σ s → PostE X.K H0 α0 σ W H α Q (fb s) → tb σ H Q)
    (qc : ∀ H0 α0 σ H α s Q, Rel X.K H0 α0 H α σ s → PostE X.K H0 α0 σ W H α Q (fc s) → tc σ H Q) {H0 : Hp} {α0 : List Addr} {σ : Sg} {H : Hp} {α : List Addr} {s : S} {Q : VK} (r0 : Rel X.K H0 α0 H α σ s)
    (q : PostE X.K H0 α0 σ W H α Q (dChain g g' fa fb fc s)) : tChain (fun x y H Q => r x y H fun v H1 => Gh H1 (Q v)) (fun x y H Q => r' x y H fun v H1 => Gh H1 (Q v)) ta tb tc σ H Q := by
  unfold dChain at q
  refine two_run (a := .Constant .none 0 default) (b := .Constant .none 0 default) (W := W) qa qb r0 q fun u w x y s2 H2 α2 r2 t2 rx ry q2 => ?_
  split at q2
  · rename_i eg
    refine hs H0 α0 σ H2 α2 s2 x y u w _ _ r2 rx ry eg fun v H3 α3 r3 t3 rv => ?_
    rw [rx_bl rv]
    refine ⟨true, rfl, ?_⟩
    rw [if_pos rfl]
    refine qc H0 α0 σ H3 α3 s2 _ r3 ?_
    cases ec : fc s2 with
    | bad => rw [ec] at q2; exact q2.elim
    | exc e s4 => rw [ec] at q2; exact q2
    | ok c s4 =>
      rw [ec] at q2
      intro z H4 α4 r4 t4 rz
      simp only [Res.bind] at q2
      cases eg2 : g' s4 w c with
      | none => rw [eg2] at q2; exact q2.elim
      | some d =>
        rw [eg2] at q2
        exact hs' H0 α0 σ H4 α4 s4 y z w c d _ r4 (ry.stay (t3.trans t4)) rz eg2 fun v H' α' r' t' rv => q2 v H' α' r' (((t2.trans t3).trans t4).trans t') rv
  · rename_i eg
    refine hs H0 α0 σ H2 α2 s2 x y u w _ _ r2 rx ry eg fun v H3 α3 r3 t3 rv => ?_
    rw [rx_bl rv]
    refine ⟨false, rfl, ?_⟩
    rw [if_neg Bool.false_ne_true]
    exact q2 _ H3 α3 r3 (t2.trans t3) ox_bl
  · exact q2.elim
theorem pd_chain {op op' : CmpOp} {a b c : Expr} {pos : Pos} {g g' : S → D → D → Option D} {fa fb fc : FE} (h1 : Cmp X op g) (h2 : Cmp X op' g') (ha : PED X a fa) (hb : PED X b fb) (hc : PED X c fc)
    (hm : lastMarks [op, op'] [b, c] = false := by with_unfolding_all rfl) : PED X (.Compare a [op, op'] [b, c] pos) (dChain g g' fa fb fc) := by
  obtain ⟨r, o1, s1⟩ := h1.ex
  obtain ⟨r', o2, s2⟩ := h2.ex
  refine ⟨fun W tk => ?_⟩
  obtain ⟨ta, pa, qa⟩ := ha.run W tk
  obtain ⟨tb, pb, qb⟩ := hb.run W tk
  obtain ⟨tc, pc, qc⟩ := hc.run W tk
  exact ⟨_, pe_chain (opGh o1) (opGh o2) pa pb pc hm, fun H0 α0 σ H α s Q r q => chain_core s1 s2 qa qb qc r q⟩
theorem pt_chain {op op' : CmpOp} {a b c : Expr} {pos : Pos} {g g' : S → D → D → Option D} {fa fb fc : FE} (h1 : Cmp X op g) (h2 : Cmp X op' g') (ha : PED X a fa) (hb : PED X b fb) (hc : PED X c fc)
    (hm : lastMarks [op, op'] [b, c] = false := by with_unfolding_all rfl) : PTD X (.Compare a [op, op'] [b, c] pos) (dChainT g g' fa fb fc) := by
  obtain ⟨r, o1, s1⟩ := h1.ex
  obtain ⟨r', o2, s2⟩ := h2.ex
  refine ⟨fun W tk => ?_⟩
  obtain ⟨ta, pa, qa⟩ := ha.run W tk
  obtain ⟨tb, pb, qb⟩ := hb.run W tk
  obtain ⟨tc, pc, qc⟩ := hc.run W tk
  refine ⟨_, L2.pt_chain (opGh o1) (opGh o2) pa pb pc hm, fun H0 α0 σ H α s Q r q => chain_core s1 s2 qa qb qc r ?_⟩
  unfold dChainT at q
  cases e : dChain g g' fa fb fc s with
  | bad => rw [e] at q; exact q.elim
  | exc x s1 => rw [e] at q; exact q
  | ok d s1 =>
    rw [e] at q
    cases d <;> try exact q.elim
    intro v H' α' r' t' rv
    rw [rx_bl rv]
    exact ⟨_, rfl, q H' α' r' t'⟩
/-! -e -/
def dNeg (fa : FE) : FE := fun s => (fa s).bind fun a s1 => match a with | .int i => .ok (.int (-i)) s1 | _ => .bad
theorem pd_neg {a : Expr} {pos : Pos} {fa : FE} (ha : PED X a fa) : PED X (.UnaryOp .USub a pos) (dNeg fa) := by
  refine ⟨fun W tk => ?_⟩
  obtain ⟨t, p, q⟩ := ha.run W tk
  refine ⟨_, pe_un un_neg p, fun H0 α0 σ H α s Q r k => q H0 α0 σ H α s _ r ?_⟩
  unfold dNeg at k
  cases ea : fa s with
  | bad => rw [ea] at k; exact k.elim
  | exc e s1 => rw [ea] at k; exact k
  | ok d s1 =>
    rw [ea] at k
    simp only [Res.bind] at k
    intro v H1 α1 r1 t1 rv
    cases d <;> simp only at k <;> try exact k.elim
    rw [rx_int rv]
    exact ⟨_, rfl, k _ H1 α1 r1 t1 ox_int⟩
end
/-! t[::-1] -/
theorem rev_places (n : Nat) : Builtin.Slice.slicePlaces ((n : Int) - 1) (-1) (-1) = n := by
  unfold Builtin.Slice.slicePlaces
  rw [if_neg (by decide)]
  by_cases h : (n : Int) - 1 > -1
  · rw [if_pos h, show (- -1 : Int) = 1 from rfl, Int.ediv_one]
    omega
  · rw [if_neg h]
    omega
theorem fm_congr {α β : Type} {f g : α → Option β} : ∀ {l : List α}, (∀ x ∈ l, f x = g x) → l.filterMap f = l.filterMap g
  | [], _ => rfl
  | x :: l, h => by rw [List.filterMap_cons, List.filterMap_cons, h x (by simp), fm_congr fun y hy => h y (by simp [hy])]
theorem rev_pick (xs : Array Value) : ((List.range xs.size).filterMap fun (m : Nat) => xs[((xs.size : Int) - 1 + (m : Int) * (-1)).toNat]?).toArray = xs.toList.reverse.toArray := by
  congr 1
  have e : ∀ m ∈ List.range xs.size, xs[((xs.size : Int) - 1 + (m : Int) * (-1)).toNat]? = (fun i => xs[i]?) (xs.size - 1 - m) := fun m hm => by
    have := List.mem_range.mp hm
    show xs[_]? = xs[_]?
    congr 1
    omega
  rw [fm_congr e]
  have := PySem.W.krv_range xs.size
  have e2 : (List.range xs.size).filterMap (fun m => (fun i => xs[i]?) (xs.size - 1 - m)) = ((List.range xs.size).map (fun k => xs.size - 1 - k)).filterMap (fun i => xs[i]?) := by
    rw [List.filterMap_map]
    rfl
  rw [e2, this, List.filterMap_reverse, PySem.W.krv_all]
theorem applied_rev {prog : Program} {w : World} {A : Around} {E : Value → Shared → Prop} {s : Shared} {sl : Addr} {vl vu vs : Value} {n : Nat} {Q : Int × Int × Nat → Shared → Prop} (hs : s.heap.IsSliceOf sl vl vu vs) (pl : IsPart vl none) (pu : IsPart vu none) (ps : IsPart vs (some (-1)))
    (h : Q ((n : Int) - 1, -1, n) s) : wpAny (model prog w) A (Builtin.Slice.sliceApplied (.ref sl) (pure (n : Int))) Q E s := by
  obtain ⟨os, hos, hcs, hds⟩ := id hs
  unfold Builtin.Slice.sliceApplied Builtin.Slice.sliceFields
  refine wpAny_bind (wpAny_bind (wpAny_field hos hds (x := vl) rfl (wpAny_bind (wpAny_field hos hds (x := vu) rfl (wpAny_bind (wpAny_field hos hds (x := vs) rfl (wpAny_pure ?_)))))))
  refine wpAny_bind (HT.slicePart_ ps ?_)
  show wpAny _ _ (if ((-1 : Int) == 0) = true then _ else _) _ _ s
  rw [if_neg (by decide)]
  refine wpAny_bind (HT.slicePart_ pl (wpAny_bind (HT.slicePart_ pu (wpAny_bind (wpAny_pure ?_)))))
  show wpAny _ _ (match Builtin.Slice.sliceAdjust none none (-1) (n : Int) with | (lo, hi) => pure (lo, (-1 : Int), Builtin.Slice.slicePlaces lo hi (-1))) _ _ s
  show wpAny _ _ (pure ((n : Int) - 1, (-1 : Int), Builtin.Slice.slicePlaces ((n : Int) - 1) (-1) (-1))) _ _ s
  rw [rev_places]
  exact wpAny_pure h
theorem getItem_tuple_rev {prog : Program} {w : World} {A : Around} {E : Value → Shared → Prop} {s : Shared} {t sl : Addr} {items : Array Value} {vl vu vs : Value} {Q : Value → Shared → Prop} (ht : IsTup s.heap t items) (hs : s.heap.IsSliceOf sl vl vu vs) (pl : IsPart vl none) (pu : IsPart vu none) (ps : IsPart vs (some (-1)))
    (h : Q (.ref s.heap.objs.size) { s with heap := s.heap.push { cls := .type "tuple", data := .seq items.toList.reverse.toArray } }) (hsz : items.size ≤ sizeLine) : wpAny (model prog w) A (getItem (.ref t) (.ref sl)) Q E s := by
  have htake : sizeOk (.seq items.toList.reverse.toArray) := by
    show items.toList.reverse.toArray.size ≤ sizeLine
    simpa using hsz
  obtain ⟨os, hos, hcs, hds⟩ := id hs
  have hTs : s.TypeIs (.ref sl) "slice" := ⟨os, hos, hcs⟩
  unfold getItem
  try with_reducible refine wpAny_holding ?_
  first | refine wpAny_bind (wpAny_pure ?_) | skip
  refine wpAny_bind (wpAny_sequenceKey ht.typeIs (by decide) ?_)
  refine wpAny_bind (wpAny_callSpecial?_slot (name := Str.ofString "__getitem__") ht.typeIs PyProof.Rows.slot_tuple_getitem
    (wpAny_call_entry PyProof.Rows.slot_tuple_getitem ht.typeIs entry_tuple_getitem ?_ (args_tuple_getitem _ _)))
  show wpAny _ _ (Builtin.Tuple.tupleItemsOf (.ref t) >>= _) _ _ s
  refine wpAny_bind (tupleItemsOf_ ht ?_)
  refine wpAny_bind (wpAny_typeOf hTs ?_)
  rw [if_pos (by decide)]
  refine wpAny_bind (applied_rev hs pl pu ps ?_)
  have hno : ¬ ((((items.size : Nat) : Int) - 1 == 0 && (-1 : Int) == 1 && items.size == items.size) = true) := by
    rw [show ((-1 : Int) == 1) = false from rfl, Bool.and_false, Bool.false_and]
    exact Bool.false_ne_true
  show wpAny _ _ (if ((((items.size : Nat) : Int) - 1 == 0 && (-1 : Int) == 1 && items.size == items.size)) = true then _ else _) _ _ s
  rw [if_neg hno, rev_pick]
  first
    | exact wpAny_bind (m := Builtin.Tuple.tupleExact _) (wpAny_newObj_type (wpAny_pure ⟨_, rfl, wpAny_pure h⟩) htake)
    | exact wpAny_bind (m := Builtin.Tuple.tupleExact _) (wpAny_newObj_type (wpAny_bind (wpAny_pure (wpAny_pure ⟨_, rfl, wpAny_pure h⟩))) htake)
    | exact wpAny_bind (wpAny_bind (m := Builtin.Tuple.tupleExact _) (wpAny_newObj_type (wpAny_pure (wpAny_pure ⟨_, rfl, wpAny_pure h⟩)) htake))
    | exact wpAny_bind (wpAny_bind (m := Builtin.Tuple.tupleExact _) (wpAny_newObj_type (wpAny_pure ⟨_, rfl, wpAny_pure h⟩) htake))
def tRevB (K : PySem.W.Frag) (te : TE) : TE := fun σ H Q => te σ H fun x H1 => ∃ a xs, x = .ref a ∧ ((SqL K H1 a xs ∧ ∀ p, H1 p = none → Q (.ref p) (upd H1 p (.lst xs.reverse))) ∨ (SqT K H1 a xs ∧ ∀ p, H1 p = none → Q (.ref p) (upd H1 p (.tup xs.reverse))))
def dRev (fa : FE) : FE := fun s => (fa s).bind fun a s1 => match a with
  | .tup xs => .ok (.tup xs.reverse) s1
  | a => match asL s1 a with | some xs => .ok (.lst xs.reverse) s1 | none => .bad
theorem Rvs.reverse {K : PySem.W.Frag} {H : Hp} {α : List Addr} : ∀ {ds : List D} {vs : List V}, Rvs K H α ds vs → Rvs K H α ds.reverse vs.reverse
  | [], _, h => by simp only [Rvs] at h; subst h; simp [Rvs]
  | d :: ds, l, h => by
    simp only [Rvs] at h
    obtain ⟨v, r, rfl, h1, h2⟩ := h
    rw [List.reverse_cons, List.reverse_cons]
    exact (Rvs.reverse h2).append (.single h1)
section
variable {X : Cx}
theorem pe_revB {e : Expr} {te : TE} {k : Nat} {p1 p2 p3 pos : Pos} (he : PE X e te) : PE X (.Subscript e (.Slice none none (some (.UnaryOp .USub (.Constant (.int 1) k p1) p2)) p3) pos) (tRevB X.K te) := by
  refine ⟨fun pins s σ H Q I h => ?_⟩
  refine Subscript_ (thn (he.run pins s σ H _ I h) fun v s1 ⟨x, H1, I1, r1, q1⟩ => ?_)
  obtain ⟨a, xs, rfl, q⟩ := q1
  cases r1
  have hst : PO X (some (.UnaryOp .USub (.Constant (.int 1) k p1) p2)) (tPart (tUn (rU fun i => .int (-i)) (tC (.int 1)))) := po_some (pe_un un_neg pe_int)
  refine wpAny_Slice (thn (po_none.run pins s1 σ H1 (fun o H2 => o = none ∧ H2 = H1) I1 ⟨rfl, rfl⟩) fun vl s2 ⟨l, H2, I2, pl, el, e2⟩ => ?_)
  subst el e2
  refine thn (po_none.run pins s2 σ H2 (fun o H3 => o = none ∧ H3 = H2) I2 ⟨rfl, rfl⟩) fun vu s3 ⟨u, H3, I3, pu, eu, e3⟩ => ?_
  subst eu e3
  refine thn (hst.run pins s3 σ H3 (fun o H4 => o = some (-1) ∧ H4 = H3) I3 ⟨1, rfl, -1, rfl, rfl, rfl⟩) fun vs s4 ⟨o, H4, I4, ps, eo, e4⟩ => ?_
  subst eo e4
  have I5 : Inv X pins σ H4 { s4 with heap := s4.heap.push { cls := .type "slice", data := .fields #[vl, vu, vs] } } := I4.kept (t' := s4.toks) fun b ob q => Heap.get?_push_of_some _ q
  show wpAny (model X.prog X.w) X.A (subscriptTail e (.Slice none none (some (.UnaryOp .USub (.Constant (.int 1) k p1) p2)) p3) (.ref a) (.ref s4.heap.objs.size)) (EP X pins σ Q) X.xe { s4 with heap := s4.heap.push { cls := .type "slice", data := .fields #[vl, vu, vs] } }
  rcases q with ⟨hx, q⟩ | ⟨hx, q⟩
  · obtain ⟨its, r, ht, hz⟩ := I5.list hx
    have hlen := r.length
    refine tail_any (ops := [.ref a, .ref s4.heap.objs.size]) ht.isList.typeIs (PySem.slot_list_getitem.lookup) ?_ (by with_unfolding_all rfl)
    refine wpAny_getItem_list_slice ht.isList (Heap.IsSliceOf.new _ vl vu vs) pl pu ps (by decide) ?_ (by rw [List.size_toArray]; omega)
    rw [PySem.W.krv_pick]
    refine ⟨.ref _, _, I5.laid (t' := s4.toks) (o := .lst xs.reverse) (fun b ob q => Heap.get?_push_of_some _ q) (Nat.le_refl _) ?_, rfl, q _ (I5.hok.fresh (Nat.le_refl _))⟩
    exact ⟨by rw [List.length_reverse]; exact hz, _, 0, r.reverse, Heap.get?_push_size _ rfl⟩
  · obtain ⟨its, r, ht, hz⟩ := I5.tuple hx
    have hlen := r.length
    refine tail_any (ops := [.ref a, .ref s4.heap.objs.size]) ht.typeIs (PyProof.Rows.slot_tuple_getitem.lookup) ?_ (by with_unfolding_all rfl)
    refine getItem_tuple_rev ht (Heap.IsSliceOf.new _ vl vu vs) pl pu ps ?_ (by rw [List.size_toArray]; omega)
    refine ⟨.ref _, _, I5.laid (t' := s4.toks) (o := .tup xs.reverse) (fun b ob q => Heap.get?_push_of_some _ q) (Nat.le_refl _) ?_, rfl, q _ (I5.hok.fresh (Nat.le_refl _))⟩
    exact ⟨by rw [List.length_reverse]; exact hz, _, r.reverse, IsTup.new _ _⟩
theorem pd_rev {e : Expr} {fa : FE} {k : Nat} {p1 p2 p3 pos : Pos} (ha : PED X e fa) : PED X (.Subscript e (.Slice none none (some (.UnaryOp .USub (.Constant (.int 1) k p1) p2)) p3) pos) (dRev fa) := by
  refine ⟨fun W tk => ?_⟩
  obtain ⟨t, p, q⟩ := ha.run W tk
  refine ⟨_, peGh (pe_revB p), fun H0 α0 σ H α s Q r k => q H0 α0 σ H α s _ r ?_⟩
  unfold dRev at k
  cases ea : fa s with
  | bad => rw [ea] at k; exact k.elim
  | exc e s1 => rw [ea] at k; exact k
  | ok d s1 =>
    rw [ea] at k
    simp only [Res.bind] at k
    intro v H1 α1 r1 t1 rv
    split at k
    · obtain ⟨a, vs, rfl, h1, rr⟩ := asT_ok rv
      exact ⟨a, vs, rfl, .inr ⟨h1, fun p hp => .inl (new_tup r1 hp rr.reverse fun v H' α' r' t' rx => k v H' α' r' (t1.trans t') rx)⟩⟩
    · cases ex : asL s1 d with
      | none => rw [ex] at k; exact k.elim
      | some xs =>
        rw [ex] at k
        obtain ⟨a, vs, rfl, h1, rr⟩ := asL_ok r1 rv ex
        exact ⟨a, vs, rfl, .inl ⟨h1, fun p hp => gh_list r1 hp rr.reverse fun v H' α' r' t' rx => k v H' α' r' (t1.trans t') rx⟩⟩
end
/-! times -/
theorem tuple_mul_self (l : Addr) (items : Array Value) (n : Nat) (dd : Option Addr) (sl : Array (Option Value)) (x : Int) (u : Tok) (c0 : (decide (x < -(2 ^ 63)) || decide (x ≥ 2 ^ 63)) = false) (c1 : (items.isEmpty || x == 1) = true) :
    Meets (Builtin.«tuple.__mul__» ⟨[.ref l, .int x u], []⟩) (fun _ R s => s.heap.get? l = some { cls := .type "tuple", dict := dd, data := .seq items n, slots := sl } ∧ R (.ok (.ret (.ref l))) s) :=
  .of_wp fun prog w A R s h => by
    obtain ⟨hp, g, d, tk, os⟩ := s
    obtain ⟨hl, h⟩ := h
    have f1 := AutoSeq1.idx_int
    wp_walk using wpAny_loadPart' hl
    repeat (first
      | (refine wpAny_ite_false (decide_eq_false (by rw [c0]; exact Bool.false_ne_true)) ?_; wp_walk using wpAny_loadPart' hl)
      | (refine wpAny_ite_true (decide_eq_true (by rw [c1])) ?_; wp_walk using wpAny_loadPart' hl))
    exact ⟨_, rfl, h⟩
def rRepS (K : PySem.W.Frag) : R2 := fun x y H Q => ∃ l k xs, x = .ref l ∧ y = .int k ∧ SqT K H l xs ∧ (xs = [] ∨ k = 1) ∧ -(2 ^ 63) ≤ k ∧ k < 2 ^ 63 ∧ Q (.ref l) H
section
variable {X : Cx}
theorem op_repS : OpR X (binaryOp .Mult) (rRepS X.K) := by
  intro pins s σ H x y v u Q I rx ry h
  obtain ⟨l, k, xs, rfl, rfl, hT, hne, h1, h2, q⟩ := h
  cases rx
  obtain ⟨t, rfl⟩ := ry
  obtain ⟨its, r, ⟨⟨cls, dd, data, sl⟩, ho, hc, n, hd⟩, hs⟩ := I.tuple hT
  simp only at hc hd
  subst hc hd
  have hle : its.length = xs.length := r.length.symm
  have c0 : (decide (k < -(2 ^ 63)) || decide (k ≥ 2 ^ 63)) = false := by
    rw [decide_eq_false (by omega), decide_eq_false (by omega)] <;> rfl
  have c1 : (its.toArray.isEmpty || k == 1) = true := by
    rcases hne with rfl | rfl
    · cases its with
      | nil => rfl
      | cons a b => simp at hle
    · simp
  exact wpAny_binaryOp_repeat_ref (T := "tuple") (U := "int") (by decide) ⟨_, ho, rfl⟩ (fun s' => typeIs_int s' k t) noFill_tuple_mul F.fills_int_mul F.slot_int_rmul repeat_tuple F.slot_int_index.lookup
    (call_meets F.slot_int_rmul (typeIs_int s k t) F.entry_int_rmul (F.args_int_rmul_2 _ _) (int_rmul_tuple k t l its.toArray n dd sl)
      ⟨ho, rfl, ⟨_, ho, rfl⟩, call_meets F.slot_tuple_mul ⟨_, ho, rfl⟩ F.entry_tuple_mul (F.args_tuple_mul_2 _ _) (tuple_mul_self l its.toArray n dd sl k t c0 c1) ⟨ho, ⟨.ref l, H, I, rfl, q⟩⟩⟩)
def gMul : S → D → D → Option D := fun s a b => match a, b with
  | .int i, .int j => if mulOk i j then some (.int (i * j)) else none
  | .tup xs, .int k => if xs.isEmpty || k == 1 then (if decide (-(2 ^ 63) ≤ k) && decide (k < 2 ^ 63) then some (.tup xs) else none)
    else if decide (2 ≤ k) && decide (k ≤ 1000) && decide (xs.length ≤ 1000) then some (.tup (List.replicate k.toNat xs).flatten) else none
  | _, _ => none
theorem Rvs.rep {K : PySem.W.Frag} {H : Hp} {α : List Addr} {ds : List D} {vs : List V} (h : Rvs K H α ds vs) : ∀ n : Nat, Rvs K H α (List.replicate n ds).flatten (List.replicate n vs).flatten
  | 0 => by simp [Rvs]
  | n + 1 => by
    rw [List.replicate_succ, List.replicate_succ, List.flatten_cons, List.flatten_cons]
    exact h.append (Rvs.rep h n)
def rMul3 (K : PySem.W.Frag) : R2 := fun x y H Q => rI (fun i j => mulOk i j = true) (fun i j => .int (i * j)) x y H Q ∨ rRepT K x y H Q ∨ rRepS K x y H Q
theorem op_mul3 : OpR X (binaryOp .Mult) (rMul3 X.K) := op_mulY.or (OpR.or (r := rRepT X.K) op_repT op_repS)
theorem os_mul : OpS X (rMul3 X.K) gMul := fun H0 α0 σ H α s x y a b d Q r rx ry e q => by
  unfold gMul at e
  split at e
  · split at e
    · rename_i hc
      cases e
      rw [rx_int rx, rx_int ry]
      exact .inl ⟨_, _, rfl, rfl, hc, .inl (q _ _ _ r (Stay.refl _ _) ox_int)⟩
    · cases e
  · rename_i xs k
    obtain ⟨p, vs, rfl, h1, r1⟩ := asT_ok rx
    rw [rx_int ry]
    split at e
    · rename_i h2
      split at e
      · rename_i h3
        cases e
        rw [Bool.and_eq_true, decide_eq_true_eq, decide_eq_true_eq] at h3
        refine .inr (.inr ⟨p, k, vs, rfl, rfl, h1, ?_, h3.1, h3.2, .inl (q _ _ _ r (Stay.refl _ _) rx)⟩)
        rw [Bool.or_eq_true, List.isEmpty_iff] at h2
        rcases h2 with h2 | h2
        · exact .inl (r1.nil_iff.mpr h2)
        · exact .inr (by simpa using h2)
      · cases e
    · rename_i h2
      split at e
      · rename_i h3
        cases e
        simp only [Bool.and_eq_true, decide_eq_true_eq] at h3
        refine .inr (.inl ⟨p, k, vs, rfl, rfl, h1, fun z => ?_, h3.1.1, h3.1.2, by rw [r1.length]; exact h3.2, fun l hl => .inl (new_tup r hl (r1.rep _) q)⟩)
        have := r1.nil_iff.mp z
        subst this
        simp at h2
      · cases e
  · cases e
theorem pd_mul {a b : Expr} {pos : Pos} {fa fb : FE} (ha : PED X a fa) (hb : PED X b fb) : PED X (.BinOp a .Mult b pos) (dOp gMul fa fb) := pd_op op_mul3 os_mul ha hb
end
/-! a fresh list times an int -/
theorem Rel.pinF {K : PySem.W.Frag} {H0 H : Hp} {α0 α : List Addr} {σ : Sg} {s : S} {a : Addr} {c : Cell} {o : HO} (r : Rel K H0 α0 H α σ s) (h : RF K H0 H α σ s a c) (ho : H a = some o) (nf : ¬ Fixed o) : Rel K (upd H0 a o) α0 H α σ s ∧ a ∉ α0 ∧ H0 a = none := by
  obtain ⟨h1, h2, h3, h4⟩ := h
  have n0 : a ∉ α0 := fun z => h2 (r.st.pre.subset z)
  refine ⟨⟨r.cells, ⟨r.slots.len, r.slots.val, fun i c e => ?_, r.slots.inj⟩, fun b u e m => ?_, fun b hb => ?_, ⟨fun b u e f => ?_, r.st.pre, fun b e => ?_⟩⟩, n0, h3⟩
  · obtain ⟨b, e1, e2, e3, e4⟩ := r.slots.own i c e
    refine ⟨b, e1, e2, ?_, e4⟩
    rw [upd_ne]
    · exact e3
    · rintro rfl
      exact h4 i c e e1
  · by_cases z : b = a
    · subst z
      rw [upd_same] at e
      rw [← e]
      exact ho
    · rw [upd_ne z] at e
      exact r.ot b u e m
  · rcases r.nw b hb with z | z
    · exact .inl z
    · refine .inr ?_
      rw [upd_ne]
      · exact z
      · rintro rfl
        exact h2 hb
  · by_cases z : b = a
    · subst z
      rw [upd_same] at e
      cases e
      exact (nf f).elim
    · rw [upd_ne z] at e
      exact r.st.im b u e f
  · by_cases z : b = a
    · subst z
      rw [ho] at e
      cases e
    · rw [upd_ne z]
      exact r.st.dom b e
def repD (c : Cell) (b : D) : Option (List D) := match c, b with
  | .lst xs, .int k => if decide (-(2 ^ 63) ≤ k) && decide (k < 2 ^ 63) && decide (xs.length * k.toNat ≤ 16777216) then some (List.replicate k.toNat xs).flatten else none
  | _, _ => none
def dRepF (fa : FC) (fb : FE) : FC := fun s => (fa s).bind fun c s1 => (fb s1).bind fun b s2 => match repD c b with | some ys => .ok (.lst ys) s2 | none => .bad
section
variable {X : Cx}
theorem pf_rep {a b : Expr} {pos : Pos} {fa : FC} {fb : FE} (ha : PFD X a fa) (hb : PED X b fb) : PFD X (.BinOp a .Mult b pos) (dRepF fa fb) := by
  refine ⟨fun W tk => ?_⟩
  obtain ⟨t, p, q⟩ := ha.run W tk
  obtain ⟨tb, pb, qb⟩ := hb.run W tk
  refine ⟨_, pe_op op_rep p pb, fun H0 α0 σ H α s Q r k => q H0 α0 σ H α s _ r ?_⟩
  unfold dRepF at k
  cases ea : fa s with
  | bad => rw [ea] at k; exact k.elim
  | exc e s1 => rw [ea] at k; exact k
  | ok c s1 =>
    rw [ea] at k
    intro l H1 α1 r1 t1 rf
    have k : PostF X.K H0 α0 σ W H α Q ((fb s1).bind fun b s2 => match repD c b with | some ys => .ok (.lst ys) s2 | none => .bad) := k
    have fin : ∀ (o : HO), H1 l = some o → ¬ Fixed o → (∀ H' α', Stay H1 α1 H' α' → H' l = some o → CellOk X.K H' α' l c) → tb σ H1 fun y H2 => rRep (.ref l) y H2 Q := fun o ho nf hcell => by
      obtain ⟨rp, n0, h0⟩ := r1.pinF rf ho nf
      refine qb _ α0 σ H1 α1 s1 _ rp ?_
      cases eb : fb s1 with
      | bad => rw [eb] at k; exact k.elim
      | exc e s2 => rw [eb] at k; exact fun cls dd H' α' r' x => k cls dd H' α' (r'.unpin h0) x
      | ok b s2 =>
        rw [eb] at k
        simp only [Res.bind] at k
        intro y H2 α2 r2 t2 ry
        have hl := r2.pinned n0
        cases er : repD c b with
        | none => rw [er] at k; exact k.elim
        | some ys =>
          rw [er] at k
          unfold repD at er
          split at er
          · rename_i xs kk
            split at er
            · rename_i hk
              cases er
              simp only [Bool.and_eq_true, decide_eq_true_eq] at hk
              obtain ⟨vs, hv, rr⟩ := hcell H2 α2 t2 hl
              rw [rx_int ry]
              refine ⟨l, kk, vs, rfl, rfl, hv, hk.1.1, hk.1.2, by rw [rr.length, sizeLine_eq]; exact hk.2, fun p hp => ?_⟩
              exact new_lst (r2.unpin h0) hp (rr.rep _) fun a H' α' r' t' rf' => k a H' α' r' ((t1.trans t2).trans t') rf'
            · cases er
          · cases er
    cases c with
    | lst xs =>
      obtain ⟨vs, hv, rr⟩ := rf.1
      exact fin _ hv (fun z => z) fun H' α' t h => ⟨vs, h, Rvs.stay t _ _ rr⟩
    | dct kvs =>
      rcases rf.1 with ⟨kv, hv, rr⟩ | ⟨kv, hv, rr⟩
      · exact fin _ hv (fun z => z) fun H' α' t h => .inl ⟨kv, h, Rkv.stay t _ _ rr⟩
      · exact fin _ hv (fun z => z) fun H' α' t h => .inr ⟨kv, h, RkT.stay t _ _ rr⟩
    | ins C fs =>
      obtain ⟨dx, vs, hv, rr⟩ := rf.1
      exact fin _ hv (fun z => z) fun H' α' t h => ⟨dx, vs, h, Rfs.stay t _ _ rr⟩
    | dead =>
      obtain ⟨o, ho⟩ := rf.1
      refine qb _ α0 σ H1 α1 s1 _ r1 ?_
      cases eb : fb s1 with
      | bad => rw [eb] at k; exact k.elim
      | exc e s2 => rw [eb] at k; exact k
      | ok b s2 => rw [eb] at k; simp only [Res.bind, repD] at k; exact k.elim
end
end DL

namespace DL
open PySem PySem.Spec PyProof.Rows L2
/-! ### 29. Built-ins that give a fresh thing -/
def BIF (X : Cx) (f : Value) (g : S → List D → Option Cell) : Prop :=
  ∀ (pins : List (Addr × Obj)) (s : Shared) (σ0 : Sg) (H : Hp) (xs : List V) (us : List Value) (Q : VK) (H0 : Hp) (σ : Sg) (α0 α : List Addr) (st : S) (ds : List D) (c : Cell), Inv X pins σ0 H s → Rel X.K H0 α0 H α σ st → Rxs X.K H α σ ds xs → Vals xs us → g st ds = some c →
    (∀ a H' α', Rel X.K H0 α0 H' α' σ st → Stay H α H' α' → RF X.K H0 H' α' σ st a c → Q (.ref a) H') → wpAny (model X.prog X.w) X.A (call f us) (EP X pins σ0 Q) X.xe s
def rBIF (K : PySem.W.Frag) (g : S → List D → Option Cell) : List V → Hp → VK → Prop := fun xs H Q => ∃ H0 σ α0 α st ds c, Rel K H0 α0 H α σ st ∧ Rxs K H α σ ds xs ∧ g st ds = some c ∧ ∀ a H' α', Rel K H0 α0 H' α' σ st → Stay H α H' α' → RF K H0 H' α' σ st a c → Q (.ref a) H'
theorem BIF.call {X : Cx} {f : Value} {g : S → List D → Option Cell} (h : BIF X f g) : CallR X f (rBIF X.K g) := fun pins s σ0 H xs us Q I rv ⟨H0, σ, α0, α, st, ds, d, rl, rx, eg, q⟩ => h pins s σ0 H xs us Q H0 σ α0 α st ds d I rl rx rv eg q
theorem BIF.of {X : Cx} {f : Value} {r : List V → Hp → VK → Prop} {g : S → List D → Option Cell} (hc : CallR X f r)
    (h : ∀ (H0 : Hp) (α0 : List Addr) (σ : Sg) (H : Hp) (α : List Addr) (s : S) (xs : List V) (ds : List D) (c : Cell) (Q : VK), Rel X.K H0 α0 H α σ s → Rxs X.K H α σ ds xs → g s ds = some c →
      (∀ a H' α', Rel X.K H0 α0 H' α' σ s → Stay H α H' α' → RF X.K H0 H' α' σ s a c → Q (.ref a) H') → r xs H Q) : BIF X f g :=
  fun pins s σ0 H xs us Q H0 σ α0 α st ds d I rl rx rv eg q => hc pins s σ0 H xs us Q I rv (h H0 α0 σ H α st xs ds d Q rl rx eg q)
theorem BIF.or {X : Cx} {f : Value} {g g' : S → List D → Option Cell} (h : BIF X f g) (h' : BIF X f g') : BIF X f (fun s ds => (g s ds).or (g' s ds)) := fun pins s σ0 H xs us Q H0 σ α0 α st ds d I rl rx rv eg q => by
  dsimp only at eg
  cases e : g st ds with
  | some d' =>
    rw [e] at eg
    obtain rfl : d' = d := Option.some.inj eg
    exact h pins s σ0 H xs us Q H0 σ α0 α st ds d' I rl rx rv e q
  | none =>
    rw [e] at eg
    have eg : g' st ds = some d := eg
    exact h' pins s σ0 H xs us Q H0 σ α0 α st ds d I rl rx rv eg q
def dBF (g : S → List D → Option Cell) (fa : FA) : FC := fun s => (fa s).bind fun ds s1 => match g s1 ds with | some d => .ok d s1 | none => .bad
section
variable {X : Cx} {x : Str} {p pos : Pos} {e : Expr} {es : List Expr} {fa : FA} {g : S → List D → Option Cell} {id T : String}
theorem bif_core {t : TA} {W : WX} {H0 : Hp} {α0 : List Addr} (qa : ∀ H0 α0 σ H α s Q, Rel X.K H0 α0 H α σ s → PostA X.K H0 α0 σ W H α Q (fa s) → t σ H Q) {σ : Sg} {H : Hp} {α : List Addr} {s : S} {Q : VK} (r : Rel X.K H0 α0 H α σ s) (q : PostF X.K H0 α0 σ W H α Q (dBF g fa s)) : tCB (rBIF X.K g) t σ H Q := by
  refine qa H0 α0 σ H α s _ r ?_
  unfold dBF at q
  cases ea : fa s with
  | bad => rw [ea] at q; exact q.elim
  | exc e s1 => rw [ea] at q; exact q
  | ok ds s1 =>
    rw [ea] at q
    intro vs H1 α1 r1 t1 rv
    simp only [Res.bind] at q
    split at q
    · rename_i d eg
      exact ⟨H0, σ, α0, α1, s1, ds, d, r1, rv, eg, fun a H' α' r' t' rx => q a H' α' r' (t1.trans t') rx⟩
    · exact q.elim
theorem pf_b (hc : BIF X (.builtin id) g) (hg : Gl X x) (hm : X.mg x = none) (hv : bootBuiltins x = some (.builtin id)) (ha : PAD X (e :: es) fa) (hn : x ≠ "__name__" := by decide) (hdb : (x == ("__debug__" : Str)) = false := by decide)
    (he : starEach (e :: es) X.env = (false, eval e X.env) :: starEach es X.env := by rfl) (hpl : (backTo pos (starEach es X.env)).any (·.1) = false := by rfl) : PFD X (.Call (.Name x p) (e :: es) [] pos) (dBF g fa) := by
  refine ⟨fun W tk => ?_⟩
  obtain ⟨t, pa, qa⟩ := ha.run W tk
  exact ⟨_, pe_callB hc.call hg hm hv pa hn hdb he hpl, fun H0 α0 σ H α s Q r q => bif_core qa r q⟩
theorem pf_ty (hc : BIF X (.type T) g) (hg : Gl X x) (hm : X.mg x = none) (hv : bootBuiltins x = some (.type T)) (ha : PAD X (e :: es) fa) (hn : x ≠ "__name__" := by decide) (hdb : (x == ("__debug__" : Str)) = false := by decide)
    (he : starEach (e :: es) X.env = (false, eval e X.env) :: starEach es X.env := by rfl) (hpl : (backTo pos (starEach es X.env)).any (·.1) = false := by rfl) : PFD X (.Call (.Name x p) (e :: es) [] pos) (dBF g fa) := by
  refine ⟨fun W tk => ?_⟩
  obtain ⟨t, pa, qa⟩ := ha.run W tk
  exact ⟨_, pe_callTy hc.call hg hm hv pa hn hdb he hpl, fun H0 α0 σ H α s Q r q => bif_core qa r q⟩
/-- list(x) of a list, a tuple -/
def gList : S → List D → Option Cell := fun s ds => match ds with | [d] => (asSeq s d).map .lst | _ => none
theorem bif_list : BIF X (.type "list") gList := .of L2.call_list_of fun H0 α0 σ H α s xs ds c Q r rx e q => by
  unfold gList at e
  split at e
  · obtain ⟨v, rfl, rv⟩ := rx.one
    simp only [Option.map_eq_some_iff] at e
    obtain ⟨ys, e, rfl⟩ := e
    obtain ⟨a, vs, rfl, hs, rr⟩ := asSeq_ok r rv e
    exact ⟨a, vs, rfl, hs, fun l hl => new_lst r hl rr q⟩
  · cases e
/-! min, max of a list of ints -/
def minD : List Int → Option D | [] => none | n :: ns => some (.int (ns.foldl min n))
def maxD : List Int → Option D | [] => none | n :: ns => some (.int (ns.foldl max n))
def gMin : S → List D → Option D := fun s ds => match ds with | [d] => (asL s d).bind fun xs => (intsD xs).bind minD | _ => none
def gMax : S → List D → Option D := fun s ds => match ds with | [d] => (asL s d).bind fun xs => (intsD xs).bind maxD | _ => none
theorem foldl_min_le : ∀ (ns : List Int) (n : Int), ns.foldl min n ≤ n ∧ (∀ y ∈ ns, ns.foldl min n ≤ y) ∧ (ns.foldl min n = n ∨ ns.foldl min n ∈ ns)
  | [], n => ⟨Int.le_refl _, by simp, .inl rfl⟩
  | m :: ns, n => by
    obtain ⟨h1, h2, h3⟩ := foldl_min_le ns (min n m)
    rw [List.foldl_cons]
    refine ⟨by omega, fun y hy => ?_, ?_⟩
    · rcases List.mem_cons.mp hy with rfl | hy
      · omega
      · exact h2 y hy
    · rcases h3 with h3 | h3
      · by_cases e : n ≤ m
        · exact .inl (by rw [h3]; omega)
        · exact .inr (by rw [h3, show min n m = m from by omega]; simp)
      · exact .inr (List.mem_cons_of_mem _ h3)
theorem foldl_max_le : ∀ (ns : List Int) (n : Int), n ≤ ns.foldl max n ∧ (∀ y ∈ ns, y ≤ ns.foldl max n) ∧ (ns.foldl max n = n ∨ ns.foldl max n ∈ ns)
  | [], n => ⟨Int.le_refl _, by simp, .inl rfl⟩
  | m :: ns, n => by
    obtain ⟨h1, h2, h3⟩ := foldl_max_le ns (max n m)
    rw [List.foldl_cons]
    refine ⟨by omega, fun y hy => ?_, ?_⟩
    · rcases List.mem_cons.mp hy with rfl | hy
      · omega
      · exact h2 y hy
    · rcases h3 with h3 | h3
      · by_cases e : m ≤ n
        · exact .inl (by rw [h3]; omega)
        · exact .inr (by rw [h3, show max n m = m from by omega]; simp)
      · exact .inr (List.mem_cons_of_mem _ h3)
theorem bi_min (hc : X.calm = true) : BI X (.builtin "min") gMin := .of (L2.cr_min hc) fun H0 α0 σ H α s xs ds d Q r rx e q => by
  unfold gMin at e
  split at e
  · obtain ⟨v, rfl, rv⟩ := rx.one
    simp only [Option.bind_eq_some_iff] at e
    obtain ⟨ys, e1, ns, e2, e3⟩ := e
    obtain ⟨a, vs, rfl, hs, rr⟩ := asL_ok r rv e1
    obtain rfl := rvs_ints ys e2 rr
    cases ns with
    | nil => cases e3
    | cons n ns =>
      cases e3
      refine ⟨a, n :: ns, rfl, hs, by simp, fun m hm hle => ?_⟩
      obtain ⟨h1, h2, h3⟩ := foldl_min_le ns n
      have : m = ns.foldl min n := by
        have a1 : m ≤ ns.foldl min n := hle _ (by rcases h3 with h3 | h3; · rw [h3]; simp
                                                  · exact List.mem_cons_of_mem _ h3)
        have a2 : ns.foldl min n ≤ m := by
          rcases List.mem_cons.mp hm with rfl | hm
          · exact h1
          · exact h2 m hm
        omega
      subst this
      exact .inl (q _ _ _ r (Stay.refl _ _) ox_int)
  · cases e
theorem bi_max (hc : X.calm = true) : BI X (.builtin "max") gMax := .of (L2.cr_max hc) fun H0 α0 σ H α s xs ds d Q r rx e q => by
  unfold gMax at e
  split at e
  · obtain ⟨v, rfl, rv⟩ := rx.one
    simp only [Option.bind_eq_some_iff] at e
    obtain ⟨ys, e1, ns, e2, e3⟩ := e
    obtain ⟨a, vs, rfl, hs, rr⟩ := asL_ok r rv e1
    obtain rfl := rvs_ints ys e2 rr
    cases ns with
    | nil => cases e3
    | cons n ns =>
      cases e3
      refine ⟨a, n :: ns, rfl, hs, by simp, fun m hm hle => ?_⟩
      obtain ⟨h1, h2, h3⟩ := foldl_max_le ns n
      have : m = ns.foldl max n := by
        have a1 : ns.foldl max n ≤ m := hle _ (by rcases h3 with h3 | h3; · rw [h3]; simp
                                                  · exact List.mem_cons_of_mem _ h3)
        have a2 : m ≤ ns.foldl max n := by
          rcases List.mem_cons.mp hm with rfl | hm
          · exact h1
          · exact h2 m hm
        omega
      subst this
      exact .inl (q _ _ _ r (Stay.refl _ _) ox_int)
  · cases e
/-! {} -/
def dEmp : FC := fun s => .ok (.dct []) s
theorem pf_emp {pos : Pos} : PFD X (.Dict [] [] pos) dEmp := ⟨fun W tk => ⟨_, pe_dnewK, fun H0 α0 σ H α s Q r q p hp => by
  have t : Stay H α (upd H p (.dK [])) α := Stay.upd_new hp
  refine q p _ α (r.new hp) t ⟨.inl ⟨[], upd_same, by simp only [Rkv]⟩, r.nota hp, r.free0 hp, fun i c' h1 h2 => ?_⟩
  obtain ⟨a, e1, _, _, e2⟩ := r.slots.own i c' h1
  rw [h2] at e1
  cases e1
  obtain ⟨o, e3⟩ := e2.some
  rw [hp] at e3
  cases e3⟩⟩
/-! sorted(xs) by what data says -/
def encD (d : D) : PyData := match toPy d with | some p => p | none => .none
def sortOk (ps : List PyData) : Bool := ps.all (fun p => ps.all fun q => PySem.W.alike p q) && (ps.all (fun p => match p with | .tuple (_ :: _) => true | _ => false) || ps.all (fun p => match p with | .tuple _ => false | .none => false | _ => true)) && ps.all (fun p => decide (p.depth ≤ 60))
def gSorted : S → List D → Option Cell := fun s ds => match ds with
  | [d] => (asL s d).bind fun xs => (toPyL xs).bind fun ps => if sortOk ps && decide (xs.length ≤ 16777216) then some (.lst (xs.mergeSort (PySem.W.dataLe false encD))) else none
  | _ => none
theorem toPyL_map : ∀ {xs : List D} {ps : List PyData}, toPyL xs = some ps → ps = xs.map encD
  | [], ps, h => by simp only [toPyL, Option.some.injEq] at h; subst h; rfl
  | x :: xs, ps, h => by
    unfold toPyL at h
    split at h
    · rename_i y ys h1 h2
      cases h
      rw [List.map_cons, ← toPyL_map h2]
      unfold encD
      rw [h1]
    · cases h
theorem each_of {K : PySem.W.Frag} {H : Hp} {α : List Addr} : ∀ {xs : List D} {vs : List V} {us : List Value}, Rvs K H α xs vs → Vals vs us → PySem.W.EachIs (fun u d => ∃ v, RelV v u ∧ Rv K H α d v) us xs
  | [], vs, us, h, r => by
    simp only [Rvs] at h
    subst h
    cases r
    exact .nil
  | d :: ds, vs, us, h, r => by
    simp only [Rvs] at h
    obtain ⟨v, l, rfl, h1, h2⟩ := h
    cases r with
    | cons a b => exact .cons ⟨v, a, h1⟩ (each_of h2 b)
theorem of_each {K : PySem.W.Frag} {H : Hp} {α : List Addr} : ∀ {xs : List D} {us : List Value}, PySem.W.EachIs (fun u d => ∃ v, RelV v u ∧ Rv K H α d v) us xs → ∃ vs, Rvs K H α xs vs ∧ Vals vs us
  | _, _, .nil => ⟨[], .nil, .nil⟩
  | _, _, .cons ⟨v, a, b⟩ t => by
    obtain ⟨vs, h1, h2⟩ := of_each t
    exact ⟨v :: vs, .cons b h1, .cons a h2⟩
theorem each_reads {h : Heap} : ∀ {xs : List D} {us : List Value} {as : List Addr}, ReadsAll h us (xs.map encD) as → PySem.W.EachIs (fun v b => ∃ as, Reads h v (encD b) as) us xs := fun h => PySem.W.readsAll_each encD h
theorem bif_sorted (hu : X.A.units + 65 < cLine) : BIF X (.builtin "sorted") gSorted := by
  intro pins s σ0 H xs us Q H0 σ α0 α st ds c I rl rx rv eg q
  unfold gSorted at eg
  split at eg
  · simp only [Option.bind_eq_some_iff] at eg
    obtain ⟨ys, e1, ps, e2, e3⟩ := eg
    split at e3
    · rename_i hc
      cases e3
      rw [Bool.and_eq_true, decide_eq_true_eq] at hc
      obtain ⟨hs, hl⟩ := hc
      obtain ⟨v, rfl, rx1⟩ := rx.one
      obtain ⟨u, rfl, rv1⟩ := vals1 rv
      obtain ⟨a, vs, rfl, hq, rr⟩ := asL_ok rl rx1 e1
      cases (show u = Value.ref a from rv1)
      obtain ⟨its, rv2, pl, hz⟩ := I.list hq
      obtain ⟨as, rd, _⟩ := readsL_ok I ys vs its ps rr rv2 e2
      have ep := toPyL_map e2
      subst ep
      unfold sortOk at hs
      simp only [Bool.and_eq_true, Bool.or_eq_true, List.all_eq_true, decide_eq_true_eq] at hs
      obtain ⟨⟨h1, h2⟩, h3⟩ := hs
      refine PySem.W.sorted_data (β := D) (enc := encD) (bs := ys) pl.isList (each_of rr rv2) (each_reads rd) (fun d hd d' hd' => h1 d hd d' hd') ?_ (by rw [sizeLine_eq]; exact hl) (fun b hb => ?_) fun out hlen hout => ?_
      · rcases h2 with h2 | h2
        · refine .inl fun d hd => ?_
          have := h2 d hd
          split at this
          · exact ⟨_, _, rfl⟩
          · cases this
        · refine .inr fun d hd => ?_
          have := h2 d hd
          refine ⟨fun z => ?_, fun xs z => ?_⟩ <;> rw [z] at this <;> cases this
      · have := h3 _ (List.mem_map_of_mem hb)
        omega
      · obtain ⟨ws, r1, r2⟩ := of_each hout
        obtain ⟨ep, he'⟩ := PyProof.Rows.sortedAll_at s.heap its out.toArray
        have hlen2 : ws.length ≤ sizeLine := by rw [r1.length, List.length_mergeSort, sizeLine_eq]; exact hl
        have hn : H (s.heap.objs.size + 1) = none := I.hok.fresh (Nat.le_succ _)
        refine ⟨.ref _, upd H (s.heap.objs.size + 1) (.lst ws), I.laid (t' := s.toks) (fun _ _ => PyProof.Rows.sortedAll_old) (Nat.le_succ _) ⟨hlen2, out, ep, r2, he'⟩, rfl, ?_⟩
        exact new_lst rl hn r1 q
    · cases e3
  · cases eg
end
/-! set of ints, sorted at once -/
def gSortSet : S → D → Option (List Int) := fun s d => (asL s d).bind fun xs => (intsD xs).bind fun ns => if ns.length < 63 then some ns else none
end DL

namespace DL
open PySem PySem.Spec PyProof.Rows L2
open Builtin in
/-- the empty set's object -/
abbrev set0 (w : World) : Obj := { cls := .type "set", dict := none, data := .set #[] 0 (.fresh 0 0 (!w.params.followText "set-order")) }
/-- set(l), l a list of ints -/
theorem set_of_list {P : Program} {w : World} {A : Around} {E : Value → Shared → Prop} {s : Shared} {l : Addr} {items : Array Value} (ns : List Int) {Q : Value → Shared → Prop} (hh : A.handled = none) (hl : s.heap.IsList l items) (hit : IntsAre items.toList ns) (hb : ns.length + 1 < scanBound)
    (h : ∀ (h' : Heap) (tk c : Nat), SetR w h' s.heap.objs.size (fun j => decide (j ∈ ns)) c → c ≤ ns.length → (∀ b o, s.heap.get? b = some o → h'.get? b = some o) → Q (.ref s.heap.objs.size) { s with heap := h', toks := tk }) :
    wpAny (model P w) A (call (.type "set") [.ref l]) Q E s := by
  have hisz : items.size = ns.length := by
    have q := IntsAre.length hit
    rwa [Array.length_toList] at q
  obtain ⟨c, tl, hmro⟩ := F.called_set.mro
  have hmade := F.called_set.made
  have hsub := F.called_set.sub
  refine wpAny_call (codeAny_of_tree ?_)
  show wpAny _ _ (callAny (.type "set") _) _ _ _
  refine wpAny_pure ⟨Code.quiet_builtin _ (by decide +kernel), codeAny_builtin F.entry_type_call ?_⟩
  rw [Around.under_plain (weight_type_call_type "set" [.ref l] []) rfl]
  have h1 := F.called_set.notType
  have h2 := F.called_set.canCreate
  have hct := F.typeCall_set_1 (.ref l)
  repeat (any_goals (first | assumption | wp_step))
  refine codeAny_mono (code_set_led1 (.ref l) (E := E) (Q₁ := fun obj s₁ => obj = .ref s.heap.objs.size ∧ s₁ = { s with heap := s.heap.push (set0 w) }) ⟨rfl, rfl⟩) fun r s₁ hr => ?_
  cases r with
  | error e => exact hr
  | ok fl =>
    cases fl with
    | ret obj =>
      obtain ⟨rfl, rfl⟩ := hr
      have hS : (s.heap.push (set0 w)).get? s.heap.objs.size = some (set0 w) := Heap.get?_push_size _ rfl
      have hT : Shared.TypeIs { s with heap := s.heap.push (set0 w) } (.ref s.heap.objs.size) "set" := ⟨_, hS, rfl⟩
      have hli := F.called_set.init.lookup
      have hbi := F.called_set.init.bind (.ref s.heap.objs.size)
      repeat (any_goals (first | assumption | wp_step))
      refine codeAny_mono (codeAny_call_builtin (R := wants (fun r s₂ => r = .none ∧ ∃ h' tk c, s₂ = { s with heap := h', toks := tk } ∧ SetR w h' s.heap.objs.size (fun j => decide (j ∈ ns)) c ∧ c ≤ ns.length ∧
          (∀ b o, s.heap.get? b = some o → h'.get? b = some o)) E) F.called_set.init.plain F.entry_set_init (check_set_init_1 hT ?_)) fun r₂ s₂ hr₂ => ?_
      · obtain ⟨⟨ocls, odict, odata, oslots⟩, hol, hcl, nl, hdl⟩ := hl
        simp only at hcl hdl
        subst hcl hdl
        have hl1 : (s.heap.push (set0 w)).IsList l items := ⟨_, Heap.get?_push_of_some _ hol, rfl, nl, rfl⟩
        have hol' := hl1
        have hsls := F.sub_list_set
        have hslf := F.sub_list_frozenset
        have hne : (Value.type "list" == Value.type "dict") = false := by decide
        have hol2 : (s.heap.push (set0 w)).get? l = some { cls := .type "list", dict := odict, data := .seq items nl, slots := oslots } := Heap.get?_push_of_some _ hol
        unfold Builtin.«set.__init__» noKeywords Builtin.Frozenset.updateFrom
        generalize hPI : pyIter = PI
        wp_walk
        subst hPI
        refine wpAny_pyIter_list hl1 ?_
        refine wpAny_bind (wpAny_runValue ?_)
        have hlS : l < s.heap.objs.size := Heap.lt_size hol
        have hz1 : (s.heap.push (set0 w)).objs.size = s.heap.objs.size + 1 := Heap.size_push ..
        have hval : ∀ (i : Nat) (v : Value), items[i]? = some v → ∃ k t, ns[i]? = some k ∧ v = .int k t := fun i v hv => by
          have hi : i < ns.length := by rw [← hisz]; exact (Array.getElem?_eq_some_iff.mp hv).1
          obtain ⟨t, e⟩ := PyProof.Rows.IntsAre.int_at hit i v (by rw [Array.getElem?_toList]; exact hv)
          refine ⟨ns[i], t, List.getElem?_eq_getElem hi, ?_⟩
          rw [e, List.getD_eq_getElem?_getD, List.getElem?_eq_getElem hi] <;> rfl
        refine set_update_ints ((Walks.list (A := A.in1.in1.in1) (by simp [hh]) _ l (by rw [hz1]; exact nlt 1 hlS) items).toS) s.heap.objs.size
          (by rw [hz1]; intro z; rcases mem2 z with z | z; exact nad 0 1 (by decide) z; exact nlt 0 hlS z.symm) ns hisz hb hval (items.size - 0) 0 _ (by omega) (Nat.zero_le _)
          ⟨⟨_, Heap.get?_push_size _ rfl, rfl, rfl⟩, (hl1.push _)⟩ ⟨0, Nat.le_refl 0, setR_new_at (Heap.get?_push_of_some _ hS)⟩ ?_
        intro s' c' hm hc' hS'
        obtain ⟨h', g2, d', tk', os'⟩ := s'
        have eg : g2 = s.gens := hm.gens
        have ed : d' = s.drawn := hm.drawn
        have eo : os' = s.os := hm.os
        subst eg ed eo
        show wpAny _ _ _ _ _ _
        refine wpAny_pure ?_
        show wpAny _ _ (ret Value.none) _ _ _
        rw [hisz] at hc'
        refine wpAny_pure ⟨rfl, h', tk', c', rfl, hS', hc', fun b o e => ?_⟩
        have hb0 : b < s.heap.objs.size := Heap.lt_size e
        refine hm.heap b o (fun z => ?_) (Heap.get?_push_of_some _ (Heap.get?_push_of_some _ e))
        simp only [List.mem_cons, List.not_mem_nil, or_false] at z
        rcases z with z | z
        · exact nlt 0 hb0 z
        · rw [hz1] at z
          exact nlt 1 hb0 z
      · cases r₂ with
        | error e => exact hr₂
        | ok fl₂ =>
          cases fl₂ with
          | ret r =>
            obtain ⟨rfl, h', tk, c', rfl, hS', hc', hk'⟩ := hr₂
            repeat (any_goals (first | assumption | wp_step))
            exact h _ _ _ hS' hc' hk'
          | next => exact hr₂.elim
          | brk => exact hr₂.elim
          | cont => exact hr₂.elim
    | next => exact hr.elim
    | brk => exact hr.elim
    | cont => exact hr.elim
end DL

namespace DL
open PySem PySem.Spec PyProof.Rows L2
def rSetI (K : PySem.W.Frag) (w : World) : List V → Hp → VK → Prop := fun xs H Q => ∃ (l : Addr) (ns : List Int), xs = [.ref l] ∧ SqL K H l (ns.map V.int) ∧ ns.length < 63 ∧ ∀ p c, H p = none → c ≤ ns.length → Q (.ref p) (upd H p (SetO w p (fun j => decide (j ∈ ns)) c))
section
variable {X : Cx}
theorem cr_setI (hc : X.calm = true) : CallR X (.type "set") (rSetI X.K X.w) := by
  intro pins s σ H xs us Q I r h
  obtain ⟨l, ns, rfl, hq, hl, q⟩ := h
  rw [Vals.ref1 r]
  obtain ⟨its, rv, pl, hz⟩ := I.list hq
  refine set_of_list ns (I.ok.hd hc) pl.isList (by simpa using rv.ints) (by unfold scanBound; omega) fun h' tk c R hcn k => ?_
  exact ⟨.ref _, _, I.laid (t' := tk) k (Nat.le_refl _) (setO_new R), rfl, q _ c (I.hok.fresh (Nat.le_refl _)) hcn⟩
end
/-- the members, rising -/
def insU (k : Int) : List Int → List Int
  | [] => [k]
  | n :: ns => if k < n then k :: n :: ns else if k = n then n :: ns else n :: insU k ns
def sortU (ns : List Int) : List Int := ns.foldr insU []
theorem insU_mem {k j : Int} : ∀ {ns : List Int}, j ∈ insU k ns ↔ j = k ∨ j ∈ ns
  | [] => by simp [insU]
  | n :: ns => by
    unfold insU
    split
    · simp
    · split
      · rename_i h
        subst h
        simp
      · simp only [List.mem_cons, insU_mem]
        constructor
        · rintro (h | h | h) <;> simp [h]
        · rintro (h | h | h) <;> simp [h]
theorem insU_sorted {k : Int} : ∀ {ns : List Int}, ns.Pairwise (· < ·) → (insU k ns).Pairwise (· < ·)
  | [], _ => by simp [insU]
  | n :: ns, h => by
    rw [List.pairwise_cons] at h
    unfold insU
    split
    · rename_i hk
      rw [List.pairwise_cons]
      refine ⟨fun a ha => ?_, List.pairwise_cons.mpr h⟩
      rcases List.mem_cons.mp ha with rfl | ha
      · exact hk
      · have := h.1 a ha
        omega
    · split
      · exact List.pairwise_cons.mpr h
      · rename_i h1 h2
        rw [List.pairwise_cons]
        refine ⟨fun a ha => ?_, insU_sorted h.2⟩
        rcases insU_mem.mp ha with rfl | ha
        · omega
        · exact h.1 a ha
theorem sortU_mem {j : Int} : ∀ {ns : List Int}, j ∈ sortU ns ↔ j ∈ ns
  | [] => by simp [sortU]
  | n :: ns => by
    show j ∈ insU n (sortU ns) ↔ _
    rw [insU_mem, sortU_mem, List.mem_cons]
theorem sortU_sorted : ∀ {ns : List Int}, (sortU ns).Pairwise (· < ·)
  | [] => List.Pairwise.nil
  | n :: ns => insU_sorted (ns := sortU ns) sortU_sorted
theorem rising_uniq : ∀ {as bs : List Int}, as.Pairwise (· < ·) → bs.Pairwise (· < ·) → (∀ j, j ∈ as ↔ j ∈ bs) → as = bs
  | [], [], _, _, _ => rfl
  | [], b :: bs, _, _, h => by have := (h b).mpr (by simp); simp at this
  | a :: as, [], _, _, h => by have := (h a).mp (by simp); simp at this
  | a :: as, b :: bs, h1, h2, h => by
    rw [List.pairwise_cons] at h1 h2
    have e : a = b := by
      have x := (h a).mp (by simp)
      have y := (h b).mpr (by simp)
      rcases List.mem_cons.mp x with x | x
      · exact x
      · rcases List.mem_cons.mp y with y | y
        · exact y.symm
        · have := h2.1 a x
          have := h1.1 b y
          omega
    subst e
    congr 1
    refine rising_uniq h1.2 h2.2 fun j => ⟨fun hj => ?_, fun hj => ?_⟩
    · rcases List.mem_cons.mp ((h j).mp (List.mem_cons_of_mem _ hj)) with z | z
      · have := h1.1 j hj
        omega
      · exact z
    · rcases List.mem_cons.mp ((h j).mpr (List.mem_cons_of_mem _ hj)) with z | z
      · have := h2.1 j hj
        omega
      · exact z
/-- sorted(set(e)) -/
def dSortSet (fa : FE) : FC := fun s => (fa s).bind fun d s1 => match (asL s1 d).bind intsD with | some ns => if ns.length < 63 then .ok (.lst ((sortU ns).map .int)) s1 else .bad | none => .bad
section
variable {X : Cx}
theorem rvs_map_int {K : PySem.W.Frag} {H : Hp} {α : List Addr} : ∀ (ns : List Int), Rvs K H α (ns.map D.int) (ns.map V.int)
  | [] => .nil
  | n :: ns => .cons (by simp only [Rv]) (rvs_map_int ns)
theorem pf_sortSet {e : Expr} {p p2 q pos : Pos} {fa : FE} (hc : X.calm = true) (hg : Gl X "sorted") (hm : X.mg "sorted" = none) (hg2 : Gl X "set") (hm2 : X.mg "set" = none) (ha : PED X e fa)
    (he1 : starEach [.Call (.Name "set" p2) [e] [] q] X.env = (false, eval (.Call (.Name "set" p2) [e] [] q) X.env) :: starEach [] X.env := by rfl)
    (he : starEach [e] X.env = (false, eval e X.env) :: starEach [] X.env := by rfl) : PFD X (.Call (.Name "sorted" p) [.Call (.Name "set" p2) [e] [] q] [] pos) (dSortSet fa) := by
  refine ⟨fun W tk => ?_⟩
  obtain ⟨t, pe, qe⟩ := ha.run W tk
  refine ⟨_, pe_callB (cr_sortedSet hc) hg hm rfl (pa_cons (pe_callTy (cr_setI hc) hg2 hm2 rfl (pa_cons pe pa_nil he) (by decide) (by decide) he rfl) pa_nil he1) (by decide) (by decide) he1 rfl, fun H0 α0 σ H α s Q r k => qe H0 α0 σ H α s _ r ?_⟩
  unfold dSortSet at k
  cases ea : fa s with
  | bad => rw [ea] at k; exact k.elim
  | exc e s1 => rw [ea] at k; exact k
  | ok d s1 =>
    rw [ea] at k
    intro v H1 α1 r1 t1 rv
    simp only [Res.bind] at k
    cases en : (asL s1 d).bind intsD with
    | none => rw [en] at k; exact k.elim
    | some ns =>
      rw [en] at k
      simp only at k
      split at k
      · rename_i hl
        rw [Option.bind_eq_some_iff] at en
        obtain ⟨ys, e1, e2⟩ := en
        obtain ⟨a, vs, rfl, hs, rr⟩ := asL_ok r1 rv e1
        obtain rfl := rvs_ints ys e2 rr
        refine ⟨a, ns, rfl, hs, hl, fun p c hp hcl => ?_⟩
        have t2 : Stay H1 α1 (upd H1 p (SetO X.w p (fun j => decide (j ∈ ns)) c)) α1 := Stay.upd_new hp
        have r2 := r1.new (o := SetO X.w p (fun j => decide (j ∈ ns)) c) hp
        refine ⟨p, _, c, rfl, upd_same, by omega, fun ns' l h1 h2 h3 hl => ?_⟩
        have e : ns' = sortU ns := rising_uniq h1 sortU_sorted fun j => by rw [h2 j, sortU_mem, decide_eq_true_eq]
        subst e
        exact new_lst r2 hl (rvs_map_int _) fun a H' α' r' t' rf => k a H' α' r' ((t1.trans t2).trans t') rf
      · exact k.elim
end
end DL

namespace DL
open PySem PySem.Spec PyProof.Rows L2
/-! ### 30. A slot's thing given away; three targets at once -/
def dTake (i : Nat) : FC := fun s => match s.δ[i]? with
  | some (.own c) => .ok c { s with δ := s.δ.set i .no }
  | _ => .bad
section
variable {X : Cx}
theorem pf_take (i : Nat) {e : Expr} (h : PE X e (tVar i)) : PFD X e (dTake i) := ⟨fun W _ => ⟨_, h, fun H0 α0 σ H α s Q r q => by
  unfold dTake at q
  cases e : s.δ[i]? with
  | none => rw [e] at q; exact q.elim
  | some sl =>
    rw [e] at q
    cases sl with
    | no => exact q.elim
    | val d => exact q.elim
    | own c =>
      obtain ⟨a, h1, h2, h3⟩ := r.giveUp e
      exact ⟨_, h1, q a H α h2 (Stay.refl _ _) h3⟩⟩⟩
def dPar3 (i j l : Nat) (fa : FA) : FS := fun s => match fa s with
  | .ok [a, b, c] s1 => if noOwn a && noOwn b && noOwn c then .nx { s1 with δ := ((s1.δ.set i (.val a)).set j (.val b)).set l (.val c) } else .bad
  | .exc e s1 => .exc e s1
  | _ => .bad
theorem sd_par3 {es : List Expr} {st : Stmt} {i j l : Nat} {fa : FA} (hp : ∀ ta, PA X es ta → PS X st (tPar3 i j l ta)) (ha : PAD X es fa) : PSD X st (dPar3 i j l fa) := by
  refine ⟨fun W tk => ?_⟩
  obtain ⟨t, p, q⟩ := ha.run W tk
  refine ⟨_, hp t p, fun H0 α0 σ H α s D r k => q H0 α0 σ H α s _ r ?_⟩
  unfold dPar3 at k
  cases ea : fa s with
  | bad => rw [ea] at k; exact k.elim
  | exc e s1 => rw [ea] at k; exact fun cls dd H' α' r' x => k cls dd σ H' α' r' x
  | ok ds s1 =>
    rw [ea] at k
    intro vs H1 α1 r1 t1 rv
    match ds, vs, rv with
    | [], _, _ => exact k.elim
    | [_], _, _ => exact k.elim
    | [_, _], _, _ => exact k.elim
    | [a, b, c], [u, v, w], .cons ra (.cons rb (.cons rc .nil)) =>
      simp only at k
      split at k
      · rename_i hn
        simp only [Bool.and_eq_true] at hn
        exact ⟨u, v, w, rfl, k _ H1 α1 (((r1.setV (noOwn_rv ra hn.1.1)).setV (noOwn_rv rb hn.1.2)).setV (noOwn_rv rc hn.2)) t1⟩
      · exact k.elim
    | _ :: _ :: _ :: _ :: _, _, _ => exact k.elim
end
end DL

namespace DL
open PySem PySem.Spec PyProof.Rows L2
theorem room_u {k : Nat} {A : Around} (h : Room k A) : A.units + 65 < cLine := by
  have := h.un
  omega
/-! ### 31. A fresh sum of lists; sorted with a key -/
def dCat (fa fb : FE) : FC := fun s => (fa s).bind fun a s1 => (fb s1).bind fun b s2 => match asL s2 a, asL s2 b with
  | some x, some y => if x.length + y.length ≤ 16777216 then .ok (.lst (x ++ y)) s2 else .bad
  | _, _ => .bad
/-- two expressions, then k, to a fresh thing -/
theorem two_runF {X : Cx} {fa fb : FE} {W : WX} {ta tb : TE} (ha : ∀ H0 α0 σ H α s Q, Rel X.K H0 α0 H α σ s → PostE X.K H0 α0 σ W H α Q (fa s) → ta σ H Q)
    (hb : ∀ H0 α0 σ H α s Q, Rel X.K H0 α0 H α σ s → PostE X.K H0 α0 σ W H α Q (fb s) → tb σ H Q) {H0 : Hp} {α0 : List Addr} {σ : Sg} {H : Hp} {α : List Addr} {s : S} {Q : VK} {k : D → D → S → Res Cell} {R : V → V → Hp → Prop} (r : Rel X.K H0 α0 H α σ s)
    (q : PostF X.K H0 α0 σ W H α Q ((fa s).bind fun a s1 => (fb s1).bind fun b s2 => k a b s2))
    (hk : ∀ a b x y s2 H2 α2, Rel X.K H0 α0 H2 α2 σ s2 → Stay H α H2 α2 → Rx X.K H2 α2 σ a x → Rx X.K H2 α2 σ b y → PostF X.K H0 α0 σ W H α Q (k a b s2) → R x y H2) : ta σ H fun x H1 => tb σ H1 fun y H2 => R x y H2 := by
  refine ha H0 α0 σ H α s _ r ?_
  cases ea : fa s with
  | bad => rw [ea] at q; exact q.elim
  | exc e s1 => rw [ea] at q; exact q
  | ok a s1 =>
    rw [ea] at q
    intro x H1 α1 r1 t1 rx
    refine hb H0 α0 σ H1 α1 s1 _ r1 ?_
    have q' : PostF X.K H0 α0 σ W H α Q ((fb s1).bind fun b s2 => k a b s2) := q
    cases eb : fb s1 with
    | bad => rw [eb] at q'; exact q'.elim
    | exc e s2 => rw [eb] at q'; exact q'
    | ok b s2 =>
      rw [eb] at q'
      intro y H2 α2 r2 t2 ry
      exact hk a b x y s2 H2 α2 r2 (t1.trans t2) (rx.stay t2) ry q'
section
variable {X : Cx}
theorem pf_cat {a b : Expr} {pos : Pos} {fa fb : FE} (ha : PED X a fa) (hb : PED X b fb) : PFD X (.BinOp a .Add b pos) (dCat fa fb) := by
  refine ⟨fun W tk => ?_⟩
  obtain ⟨ta, pa, qa⟩ := ha.run W tk
  obtain ⟨tb, pb, qb⟩ := hb.run W tk
  refine ⟨_, pe_op op_catS pa pb, fun H0 α0 σ H α s Q r q => ?_⟩
  refine two_runF (W := W) qa qb r q fun u w x y s2 H2 α2 r2 t2 rx ry q2 => ?_
  split at q2
  · rename_i xs ys e1 e2
    split at q2
    · rename_i hz
      rw [← sizeLine_eq] at hz
      obtain ⟨p, vs, rfl, h1, r1⟩ := asL_ok r2 rx e1
      obtain ⟨p2, vs2, rfl, h2, r2'⟩ := asL_ok r2 ry e2
      exact ⟨p, p2, vs, vs2, rfl, rfl, h1, h2, by rw [r1.length, r2'.length]; exact hz, fun l hl => new_lst r2 hl (r1.append r2') fun a H' α' r' t' rf => q2 a H' α' r' (t2.trans t') rf⟩
    · exact q2.elim
  · exact q2.elim
end
def keysI (F : FF) : List D → List Cell → Option (List Int × List Cell)
  | [], μ => some ([], μ)
  | x :: xs, μ => match F [x] μ with
    | .ok (.int k) μ' => (keysI F xs μ').map fun r => (k :: r.1, r.2)
    | _ => none
def dSortKey (F : FF) (fa : FE) : FC := fun s => (fa s).bind fun d s1 => match asL s1 d with
  | some xs => if xs.length ≤ 16777216 then (match keysI F xs s1.μ with
    | some (ks, μ) => .ok (.lst (((ks.zip xs).mergeSort fun p q => decide (p.1 ≤ q.1)).map (·.2))) { s1 with μ := μ }
    | none => .bad) else .bad
  | none => .bad
end DL

namespace DL
open PySem PySem.Spec PyProof.Rows L2
/-! ### 33. sorted(xs, key=f), f a def -/
/-- the context within a built-in's work, where nothing is raised -/
def inn (X : Cx) : Cx := { X with A := X.A.in1.in1, xe := fun _ _ => False }
section
variable {X : Cx} {pins : List (Addr × Obj)} {σ0 : Sg} {H : Hp} {s : Shared}
theorem inn_to (I : Inv X pins σ0 H s) : Inv (inn X) pins σ0 H s :=
  ⟨⟨I.ok.mod, I.ok.kind, I.ok.glob, I.ok.blt, I.ok.above, I.ok.inj, I.ok.has, I.ok.cab, I.ok.hd, I.ok.frames, I.ok.stk, I.ok.exf, I.ok.bs, I.ok.bsz, I.ok.noex, I.ok.exfs, I.ok.funs, I.ok.frf⟩, I.os, I.bare, I.base, I.loc, I.cell, I.free, I.freeC, I.pin, I.hok, I.len⟩
theorem inn_of (ok : X.Ok) (I : Inv (inn X) pins σ0 H s) : Inv X pins σ0 H s := ⟨ok, I.os, I.bare, I.base, I.loc, I.cell, I.free, I.freeC, I.pin, I.hok, I.len⟩
theorem key_call {k : Nat} {f : Addr} {fd : FuncData} {ps : List Str} {F : FF} (F3 : FnG X.prog X.w X.K X.mg X.base k f fd ps (spD X.K 1 F)) (hb : Binds X.K fd ps []) (hr : Room k (inn X).A) (hgu : X.A.guards = some []) {H0 : Hp} {α0 α : List Addr} {σ : Sg} {st : S} {d : D} {v : V} {u : Value} {i : Int} {μ' : List Cell}
    (I : Inv (inn X) pins σ0 H s) (rl : Rel X.K H0 α0 H α σ st) (rv : Rv X.K H α d v) (ru : RelV v u) (e : F [d] st.μ = .ok (.int i) μ') :
    wpAny (model X.prog X.w) X.A.in1.in1 (call (.ref f) [u]) (fun w s' => ∃ t H' α', w = .int i t ∧ Inv (inn X) pins σ0 H' s' ∧ Rel X.K H0 α0 H' α' σ { st with μ := μ' } ∧ Stay H α H' α') (fun _ _ => False) s := by
  refine wpAny_mono (run_fnG (X := inn X) (E := WE fun _ _ _ _ => False) (Q := fun w H' => w = .int i ∧ ∃ α', Rel X.K H0 α0 H' α' σ { st with μ := μ' } ∧ Stay H α H' α') F3 hr hgu hb (passAt Takes.none σ0) I (.cons ru .nil) ⟨rfl, α, [d], st.μ, rl.cells, .single rv, ?_⟩) (fun w s' h => ?_) fun _ _ z => z
  · rw [e]
    intro w H' α' tc rc rw
    simp only [Rv] at rw
    exact ⟨rw, α', rl.after tc rc, tc.st⟩
  · obtain ⟨w', H', I', r', rfl, α', h1, h2⟩ := h
    obtain ⟨t, rfl⟩ := r'
    exact ⟨t, H', α', rfl, I', h1, h2⟩
end
theorem hok_add {P : Program} {w : World} {H : Hp} {h : Heap} {a : Addr} {o : HO} (x : HOk P w H h) (hn : H a = none) (new : ObjOk P w (upd H a o) h a o) : HOk P w (upd H a o) h := fun b u e => by
  by_cases hb : b = a
  · subst hb
    rw [upd_same] at e
    cases e
    exact new
  · rw [upd_ne hb] at e
    refine (x b u e).stay (fun c v _ q => q) (fun c q => ?_) fun c xs q => ?_
    · rw [upd_ne (ne_of_none q hn)]; exact q
    · rw [upd_ne (ne_of_none q hn)]; exact q
theorem vals_get' : ∀ {xs : List V} {us : List Value} {i : Nat} {u : Value}, Vals xs us → us[i]? = some u → ∃ x, xs[i]? = some x ∧ RelV x u
  | _, _, i, u, .nil, e => by simp at e
  | _, _, 0, u, .cons a b, e => by simp at e; subst e; exact ⟨_, rfl, a⟩
  | _, _, i + 1, u, .cons a b, e => by simpa using vals_get' (i := i) b (by simpa using e)
theorem keysI_len {F : FF} : ∀ {xs : List D} {μ : List Cell} {ks : List Int} {μ' : List Cell}, keysI F xs μ = some (ks, μ') → ks.length = xs.length
  | [], μ, ks, μ', h => by cases h; rfl
  | x :: xs, μ, ks, μ', h => by
    unfold keysI at h
    split at h
    · simp only [Option.map_eq_some_iff] at h
      obtain ⟨r, h1, h2⟩ := h
      cases h2
      simp [keysI_len (μ' := r.2) (ks := r.1) h1]
    · cases h
theorem keysI_cons {F : FF} {x : D} {xs : List D} {μ : List Cell} {ks : List Int} {μ' : List Cell} (h : keysI F (x :: xs) μ = some (ks, μ')) : ∃ k r μ1, ks = k :: r ∧ F [x] μ = .ok (.int k) μ1 ∧ keysI F xs μ1 = some (r, μ') := by
  unfold keysI at h
  split at h
  · rename_i k μ1 e
    simp only [Option.map_eq_some_iff] at h
    obtain ⟨r, h1, h2⟩ := h
    cases h2
    exact ⟨k, r.1, μ1, rfl, e, h1⟩
  · cases h
theorem each_zip {K : PySem.W.Frag} {H : Hp} {α : List Addr} : ∀ {xs : List D} {vs : List V} {us : List Value} (ks : List Int), ks.length = xs.length → Rvs K H α xs vs → Vals vs us → PySem.W.EachIs (fun u (p : Int × D) => ∃ v, RelV v u ∧ Rv K H α p.2 v) us (ks.zip xs)
  | [], vs, us, ks, hl, h, r => by
    simp only [Rvs] at h
    subst h
    cases r
    rw [List.zip_nil_right]
    exact .nil
  | d :: ds, vs, us, [], hl, h, r => by simp at hl
  | d :: ds, vs, us, k :: ks, hl, h, r => by
    simp only [Rvs] at h
    obtain ⟨v, l, rfl, h1, h2⟩ := h
    cases r with
    | cons a b =>
      rw [List.zip_cons_cons]
      exact .cons ⟨v, a, h1⟩ (each_zip ks (by simpa using hl) h2 b)
theorem of_zip {K : PySem.W.Frag} {H : Hp} {α : List Addr} : ∀ {ps : List (Int × D)} {us : List Value}, PySem.W.EachIs (fun u (p : Int × D) => ∃ v, RelV v u ∧ Rv K H α p.2 v) us ps → ∃ vs, Rvs K H α (ps.map (·.2)) vs ∧ Vals vs us
  | _, _, .nil => ⟨[], .nil, .nil⟩
  | _, _, .cons ⟨v, a, b⟩ t => by
    obtain ⟨vs, h1, h2⟩ := of_zip t
    exact ⟨v :: vs, .cons b h1, .cons a h2⟩
theorem ints_reads {h : Heap} : ∀ {vs : List Value} {ks : List Int}, IntsAre vs ks → PySem.W.EachIs (fun v d => ∃ as, Reads h v d as) vs (ks.map PyData.int)
  | _, _, .nil => .nil
  | _, _, .cons n t r => .cons ⟨[], .int n t⟩ (ints_reads r)
/-- what sorted(xs, key=f) wants -/
def rSK (K : PySem.W.Frag) (F : FF) (f : Addr) : List V → List V → Hp → VK → Prop := fun vs zs H Q => zs = [.ref f] ∧ ∃ H0 σ α0 α st d xs ks μ', Rel K H0 α0 H α σ st ∧ Rxs K H α σ [d] vs ∧ asL st d = some xs ∧ xs.length ≤ 16777216 ∧ keysI F xs st.μ = some (ks, μ') ∧
  ∀ a H' α', Rel K H0 α0 H' α' σ { st with μ := μ' } → Stay H α H' α' → RF K H0 H' α' σ { st with μ := μ' } a (.lst (((ks.zip xs).mergeSort fun p q => decide (p.1 ≤ q.1)).map (·.2))) → Q (.ref a) H'
theorem cr_sk {X : Cx} {k : Nat} {f : Addr} {fd : FuncData} {ps : List Str} {F : FF} (F3 : FnG X.prog X.w X.K X.mg X.base k f fd ps (spD X.K 1 F)) (hb : Binds X.K fd ps []) (hr : Room (k + 1) X.A) (hgu : X.A.guards = some []) : CallRK X (.builtin "sorted") [Str.ofString "key"] (rSK X.K F f) := by
  intro pins s σ0 H xs0 zs us ws Q I rv rz h
  obtain ⟨rfl, H0, σ, α0, α, st, d, xs, ks, μ', rl, rx, ea, hlen, ek, q⟩ := h
  obtain ⟨v, rfl, rx1⟩ := rx.one
  obtain ⟨u, rfl, rv1⟩ := vals1 rv
  obtain ⟨z, rfl, rz1⟩ := vals1 rz
  cases (show z = Value.ref f from rz1)
  obtain ⟨l, vs, rfl, hq, rr⟩ := asL_ok rl rx1 ea
  cases (show u = Value.ref l from rv1)
  obtain ⟨its, rv2, pl, hz⟩ := I.list hq
  have kl := keysI_len ek
  have il : its.length = xs.length := by rw [← rv2.length, rr.length]
  have hL : its.length ≤ sizeLine := by rw [il, sizeLine_eq]; exact hlen
  have hr' : Room k (inn X).A := ⟨hr.hd, by have := hr.dp; show X.A.depth + 3 * k + 5 < _; omega, by have := hr.un; show X.A.units + 1 + 1 + 16 * k + 200 < _; omega⟩
  show wpAny (model X.prog X.w) X.A (call (.builtin "sorted") [.ref l] [(Str.ofString "key", .ref f)]) _ _ _
  refine PySem.W.sorted_of_sort pl.isList hL (by unfold argsOk; kernel_rfl) (fun x => by unfold argsOk; kernel_rfl) fun E' => ?_
  rw [ksk_t1]
  have ho := PySem.W.copyHeap_at s.heap its
  generalize ha : s.heap.objs.size + 1 = a at ho ⊢
  have old0 : ∀ b o, s.heap.get? b = some o → (PySem.W.copyHeap s.heap its).get? b = some o := fun b o e => PySem.W.copyHeap_old e
  generalize PySem.W.copyHeap s.heap its = hc at ho old0 ⊢
  have alt : a < hc.objs.size := Heap.lt_size ho
  obtain ⟨e1, ho1⟩ : ∃ e1, (hc.update a (Obj.mapSeq fun _ => (#[] : Array Value))).get? a = some (seqObj "list" #[] e1) := ⟨_, get?_update_seq ho fun _ => #[]⟩
  have sz : ((hc.update a (Obj.mapSeq fun _ => (#[] : Array Value))).push (seqObj "tuple" its.toArray 0)).objs.size = hc.objs.size + 1 := by rw [size_push', Heap.size_update]
  unfold ksk_tree
  refine wpAny_bind (listItems_at ho rfl ?_)
  refine wpAny_bind (listUpdate_at ho rfl ?_ (by rw [List.size_toArray]; exact hL) (Nat.zero_le _))
  refine wpAny_bind (seqEpoch_at ho1 rfl ?_)
  refine wpAny_bind (wpAny_newTuple ?_ (by show its.length ≤ _; exact hL))
  refine wpAny_bind (wpAny_newList ?_ (Nat.zero_le _))
  refine wpAny_holding ?_
  have nk0 := Heap.get?_push_size ((hc.update a (Obj.mapSeq fun _ => (#[] : Array Value))).push (seqObj "tuple" its.toArray 0)) (o := seqObj "list" #[] 0) rfl
  have na0 : (((hc.update a (Obj.mapSeq fun _ => (#[] : Array Value))).push (seqObj "tuple" its.toArray 0)).push (seqObj "list" #[] 0)).get? a = some (seqObj "list" #[] e1) := Heap.get?_push_of_some _ (Heap.get?_push_of_some _ ho1)
  have old2 : ∀ b o, s.heap.get? b = some o → (((hc.update a (Obj.mapSeq fun _ => (#[] : Array Value))).push (seqObj "tuple" its.toArray 0)).push (seqObj "list" #[] 0)).get? b = some o := fun b o e => by
    have nb : b ≠ a := by rw [← ha]; exact nlt 1 (Heap.lt_size e)
    exact Heap.get?_push_of_some _ (Heap.get?_push_of_some _ ((Heap.get?_update_ne _ _ _ _ nb).trans (old0 b o e)))
  rw [sz] at nk0 ⊢
  generalize ((hc.update a (Obj.mapSeq fun _ => (#[] : Array Value))).push (seqObj "tuple" its.toArray 0)).push (seqObj "list" #[] 0) = h2 at nk0 na0 old2 ⊢
  generalize hkS : hc.objs.size + 1 = kS at nk0 ⊢
  have hka : kS ≠ a := by rw [← hkS]; exact (nlt 1 alt).symm
  have ka : s.heap.objs.size ≤ a := by rw [← ha]; exact Nat.le_add_right _ _
  have kk : s.heap.objs.size ≤ kS := Nat.le_trans ka (by rw [← hkS]; exact Nat.le_succ_of_le (Nat.le_of_lt alt))
  have fpa : ∀ (b : Addr) (H' : Hp), s.heap.objs.size ≤ b → H' b = none → FpOk X pins H' b := fun b H' h1 h2 => I.fpOk h1 h2
  have I2 : Inv (inn X) pins σ0 H { s with heap := h2 } := inn_to (I.kept (t' := s.toks) old2)
  have seqNo : ∀ (n : String) (xs : Array Value) (e : Nat) (w : Option Value), (seqObj n xs e).data ≠ .cell w := fun n xs e w z => nomatch z
  have pinned : ∀ {H' : Hp} {s' : Shared} {kA : Array Value} {e : Nat}, Inv (inn X) pins σ0 H' s' → H' kS = none → H' a = none → s'.heap.get? kS = some (seqObj "list" kA e) → s'.heap.get? a = some (seqObj "list" #[] e1) → Inv (inn X) ((kS, seqObj "list" kA e) :: (a, seqObj "list" #[] e1) :: pins) σ0 H' s' := fun {H' s' kA e} J n1 n2 g1 g2 => J.pins_of fun p hp => by
    rcases List.mem_cons.mp hp with rfl | hp
    · have q := fpa kS H' kk n1
      exact ⟨g1, q.1, q.2.1, q.2.2.1, seqNo _ _ _⟩
    · rcases List.mem_cons.mp hp with rfl | hp
      · have q := fpa a H' ka n2
        exact ⟨g2, q.1, q.2.1, q.2.2.1, seqNo _ _ _⟩
      · exact J.pin p (List.mem_append_right _ hp)
  have unp : ∀ {H' : Hp} {s' : Shared} {kA : Array Value} {e : Nat}, Inv (inn X) ((kS, seqObj "list" kA e) :: (a, seqObj "list" #[] e1) :: pins) σ0 H' s' → Inv (inn X) pins σ0 H' s' ∧ H' kS = none ∧ H' a = none ∧ s'.heap.get? kS = some (seqObj "list" kA e) ∧ s'.heap.get? a = some (seqObj "list" #[] e1) := fun {H' s' kA e} J =>
    ⟨J.pins_of fun p hp => J.pin p (List.mem_append_right _ (List.mem_cons_of_mem _ (List.mem_cons_of_mem _ hp))), (J.pin _ (List.mem_append_right _ List.mem_cons_self)).2.1, (J.pin _ (List.mem_append_right _ (List.mem_cons_of_mem _ List.mem_cons_self))).2.1,
      (J.pin _ (List.mem_append_right _ List.mem_cons_self)).1, (J.pin _ (List.mem_append_right _ (List.mem_cons_of_mem _ List.mem_cons_self))).1⟩
  unfold ksk_rest
  refine wpAny_bind (wpAny_rule ?_)
  first
    | rw [List.forIn_toArray]
    | (rw [← Array.forIn_toList]; simp only [List.toList_toArray])
  refine wpAny_bind (ksk_fold (fun i s' => ∃ H' α' μi kA e, Inv (inn X) ((kS, seqObj "list" kA e) :: (a, seqObj "list" #[] e1) :: pins) σ0 H' s' ∧ Rel X.K H0 α0 H' α' σ { st with μ := μi } ∧ Stay H α H' α' ∧ IntsAre kA.toList (ks.take i) ∧ keysI F (xs.drop i) μi = some (ks.drop i, μ')) its 0 _
    ⟨H, α, st.μ, #[], 0, pinned I2 (I.hok.fresh kk) (I.hok.fresh ka) nk0 na0, rl, Stay.refl _ _, by rw [List.take_zero]; exact .nil, by rw [List.drop_zero, List.drop_zero]; exact ek⟩ ?step ?done)
  case step =>
    rintro j x s' hx ⟨H', α', μi, kA, e, J, rl', t', hk, ek'⟩
    simp only [Nat.zero_add] at hk ek' ⊢
    have hj : j < its.length := (List.getElem?_eq_some_iff.mp hx).1
    obtain ⟨v, ev, rvx⟩ := vals_get' rv2 hx
    obtain ⟨dx, ed, rdx⟩ := rr.at' ev
    have hdx : xs.drop j = dx :: xs.drop (j + 1) := by
      have hj' := (List.getElem?_eq_some_iff.mp ed)
      rw [List.drop_eq_getElem_cons hj'.1, hj'.2]
    rw [hdx] at ek'
    obtain ⟨k1, r1, μ1, e3, e4, e5⟩ := keysI_cons ek'
    have hkz : kA.size ≤ its.length := by
      have h1 := hk.length
      rw [Array.length_toList, List.length_take] at h1
      omega
    refine wpAny_bind (wpAny_attempt (wpAny_mono (key_call F3 hb hr' hgu J rl' (Rv.stay t' _ _ rdx) rvx e4) (fun w s'' he => ?_) fun _ _ z => z.elim))
    obtain ⟨tk, H2, α2, rfl, J2, rl2, t2⟩ := he
    obtain ⟨J3, n1, n2, g1, g2⟩ := unp J2
    have s1 := Heap.SameBut.update s''.heap kS (Obj.mapSeq (·.push (.int k1 tk)))
    obtain ⟨c2, hc2⟩ : ∃ c2, (s''.heap.update kS (Obj.mapSeq (·.push (.int k1 tk)))).get? kS = some (seqObj "list" (kA.push (.int k1 tk)) c2) := ⟨_, get?_update_seq g1 (·.push (.int k1 tk))⟩
    refine wpAny_bind (listUpdate_at g1 rfl ?_ (Nat.le_trans hkz hL) (Nat.le_trans (Nat.le_of_eq (Array.size_push ..)) (Nat.succ_le_succ (Nat.le_trans hkz hL))))
    refine wpAny_pure ⟨rfl, H2, α2, μ1, kA.push (.int k1 tk), c2, pinned ?_ n1 n2 hc2 ((s1.2 a hka.symm).trans g2), rl2, t'.trans t2, ?_, ?_⟩
    · exact J3.turnedL (t' := s''.toks) (ch := [kS]) (fun b o hb e => (s1.2 b (fun z => hb (by simp [z]))).trans e) fun b hb => by
        have : b = kS := by simpa using hb
        subst this
        exact fpa b H2 kk n1
    · have ekj : ks[j]? = some k1 := by
        have := congrArg (·[0]?) e3
        simpa using this
      have ea2 : (kA.push (.int k1 tk)).toList = kA.toList ++ [.int k1 tk] := by simp
      rw [ea2, List.take_add_one, ekj]
      exact ksk_snoc hk
    · have : ks.drop (j + 1) = r1 := by
        have := congrArg (·.drop 1) e3
        simpa using this
      rw [this]
      exact e5
  case done =>
    rintro s' ⟨H', α', μi, kA, e, J, rl', t', hk, ek'⟩
    simp only [Nat.zero_add] at hk ek'
    rw [show xs.drop its.length = [] from List.drop_of_length_le (by omega)] at ek'
    have em : μi = μ' := by
      have h9 := Option.some.inj ek'
      exact (Prod.ext_iff.mp h9).2
    subst em
    rw [List.take_of_length_le (by omega)] at hk
    obtain ⟨J3, n1, n2, g1, g2⟩ := unp J
    have hsz : kA.size = its.length := by
      have h1 := hk.length
      rw [Array.length_toList] at h1
      omega
    obtain ⟨G, gp, gn⟩ := restrict s'.heap fun b => decide (b ≠ kS)
    refine wpAny_bind (listItems_at g1 rfl ?_)
    have al : PySem.W.AllAlike (ks.map PyData.int) := fun d hd d' hd' => by
      obtain ⟨i, _, rfl⟩ := List.mem_map.mp hd
      obtain ⟨i', _, rfl⟩ := List.mem_map.mp hd'
      rfl
    have hur : X.A.units + 1 + 1 < cLine := by have := hr.un; omega
    refine PySem.W.keyH_end (κ := PySem.W.dataKind s'.heap (ks.map PyData.int)) (h₁ := G) (fun b o _ e => ?_) (gn kS (by simp)) g1 g2 hka (PySem.W.SortsAt.data (s := s') (ints_reads hk) al (.inr fun d hd => ?_) fun d hd => ?_) hsz hL fun h3 tk3 c k3 n3 => ⟨rfl, ?_⟩
    · by_cases hb : b = kS
      · subst hb
        rw [gn b (by simp)] at e
        cases e
      · rw [gp b (by simpa using hb)] at e
        exact e
    · obtain ⟨i, _, rfl⟩ := List.mem_map.mp hd
      exact ⟨(fun z => nomatch z), (fun _ z => nomatch z)⟩
    · obtain ⟨i, _, rfl⟩ := List.mem_map.mp hd
      show X.A.units + 1 + 1 + 0 < cLine
      omega
    · have keep : ∀ b o, b ≠ kS → b ≠ a → s'.heap.get? b = some o → h3.get? b = some o := fun b o h1 h2 e => k3 b o h2 (by rw [gp b (by simpa using h1)]; exact e)
      have J4 : Inv (inn X) pins σ0 H' { s' with heap := h3, toks := tk3 } := J3.turnedL (t' := tk3) (ch := [kS, a]) (fun b o hb e => keep b o (fun z => hb (by simp [z])) (fun z => hb (by simp [z])) e) fun b hb => by
        rcases mem2 hb with z | z
        · rw [z]; exact fpa kS H' kk n1
        · rw [z]; exact fpa a H' ka n2
      have bm : (ks.zip xs).map (fun p : Int × D => PyData.int p.1) = ks.map PyData.int := by
        show (ks.zip xs).map (PyData.int ∘ Prod.fst) = _
        rw [← List.map_map, List.map_fst_zip (by omega)]
      have outE := PySem.W.keyedOut_each (rev := false) (fun p : Int × D => PyData.int p.1) (bs := ks.zip xs) (R := fun u p => ∃ v, RelV v u ∧ Rv X.K H' α' p.2 v) (vs := its) (out := PySem.W.sortVals (PySem.W.dataKind s'.heap (ks.map PyData.int)) false kA.toList its) (by rw [bm]; exact ⟨s'.heap, kA.toList, al, rfl, ints_reads hk⟩) ((each_zip ks kl rr rv2).mono fun u p ⟨v, h1, h2⟩ => ⟨v, h1, Rv.stay t' _ _ h2⟩)
      rw [PySem.W.dataLe_int] at outE
      obtain ⟨ws, w1, w2⟩ := of_zip outE
      have wl : ws.length ≤ sizeLine := by
        rw [w1.length, List.length_map, List.length_mergeSort, List.length_zip]
        omega
      have J5 : Inv (inn X) pins σ0 (upd H' a (.lst ws)) { s' with heap := h3, toks := tk3 } := by
        have hf := fpa a H' ka n2
        refine L2.Inv.step (s := { s' with heap := h3, toks := tk3 }) (h' := h3) (g' := s'.gens) (d' := s'.drawn) (t' := tk3) (ch := [a]) J4 (fun b hb => ?_) (fun b o _ _ _ e _ => e) (fun b o _ _ _ e _ => ⟨o.slots, e⟩) (fun b o hb e n => ?_) (fun b o _ e => ⟨o, e⟩) (fun b ys e => ?_) (fun b o u e => ?_) (fun b ps e => ⟨#[], ?_⟩) (fun m hm => hm) (hok_add J4.hok n2 ⟨wl, _, c, w2, n3⟩) J4.bare
        · have : b = a := by simpa using hb
          subst this
          exact ⟨hf.2.2.2.1, hf.2.1, hf.2.2.2.2.1, hf.2.2.2.2.2⟩
        · rw [upd_ne (fun z => hb (by simp [z]))]
          exact n
        · rw [upd_ne (ne_of_none e n2)]; exact e
        · rw [upd_ne (ne_of_none e n2)]; exact e
        · rw [upd_ne (ne_of_none e n2), e]; simp
      exact ⟨.ref a, upd H' a (.lst ws), inn_of I.ok J5, rfl, new_lst rl' n2 w1 fun b H'' α'' r'' t'' rf => q b H'' α'' r'' (t'.trans t'') rf⟩
theorem pf_sortKey {X : Cx} {x : Str} {k : Nat} {F : FF} {e : Expr} {p p2 q pos : Pos} {fa : FE} (f : FnD X.prog X.w X.K X.mg X.base x k 1 F) (hr : Room (k + 1) X.A) (hgu : X.A.guards = some []) (hg : Gl X x) (hgs : Gl X "sorted") (hms : X.mg "sorted" = none) (ha : PED X e fa) (hdb : (x == ("__debug__" : Str)) = false := by decide)
    (he : backTo pos (starEach [e] X.env) = (false, eval e X.env) :: backTo pos (starEach [] X.env) := by rfl) (hpl : (backTo pos (starEach [e] X.env)).any (·.1) = false := by rfl) (he2 : starEach [e] X.env = (false, eval e X.env) :: starEach [] X.env := by rfl)
    (hall : (backToKw pos (keywordEach [⟨some "key", .Name x p2, q⟩] X.env)).all (·.1.isSome) = true := by rfl) (hnone : (backToKw pos (keywordEach [⟨some "key", .Name x p2, q⟩] X.env)).any (·.1.isNone) = false := by rfl) (hks : (backToKw pos (keywordEach [⟨some "key", .Name x p2, q⟩] X.env)).filterMap (·.1) = [Str.ofString "key"] := by rfl) :
    PFD X (.Call (.Name "sorted" p) [e] [⟨some "key", .Name x p2, q⟩] pos) (dSortKey F fa) := by
  obtain ⟨a, fd, ps, h1, h2, h3, h4⟩ := f.ex
  refine ⟨fun W tk => ?_⟩
  obtain ⟨t, pa, qa⟩ := ha.run W tk
  refine ⟨_, pe_callBK (cr_sk h3 h4 hr hgu) hgs hms rfl (pa_cons pa pa_nil he2) (pk_cons (pe_glob (v := .ref a) hg h1 rfl hdb) pk_nil) (by decide) (by decide) he hpl hall hnone hks, fun H0 α0 σ H α s Q r k => qa H0 α0 σ H α s _ r ?_⟩
  unfold dSortKey at k
  cases ea : fa s with
  | bad => rw [ea] at k; exact k.elim
  | exc e s1 => rw [ea] at k; exact k
  | ok d s1 =>
    rw [ea] at k
    intro v H1 α1 r1 t1 rv
    simp only [Res.bind] at k
    split at k
    · rename_i xs exs
      split at k
      · rename_i hl
        split at k
        · rename_i ks μ ek
          exact ⟨rfl, H0, σ, α0, α1, s1, d, xs, ks, μ, r1, .cons rv .nil, exs, hl, ek, fun b H' α' r' t' rf => k b H' α' r' (t1.trans t') rf⟩
        · exact k.elim
      · exact k.elim
    · exact k.elim
end DL

namespace DL
open PySem PySem.Spec PyProof.Rows L2
/-! ### 32. The law's end -/
/-- where nothing but a locked list at a stands told, a def that gives True gives the row what it wants -/
theorem end_core {P : Program} {w : World} {K : PySem.W.Frag} {mg mb : Str → Option Value} {k : Nat} {fa a : Addr} {nm : Str} {FL : FF} {s₁ : Shared} {vs : List Value} {ns : List Int} {μ : List Cell} (KX : K.In s₁.heap) (hns : s₁.heap.Ns mainGlobals mg) (hb : s₁.heap.Ns builtinsNs mb)
    (hbb : ∀ x : Str, x ≠ "__name__" → mb x = bootBuiltins x) (hlim : s₁.heap.NoLimit) (hg : s₁.gens = #[]) (ha : s₁.heap.get? a = some { cls := .type "list", data := .seq vs.toArray }) (hr : Room k callerA) (hfa : mg nm = some (.ref fa))
    (F : ∀ base : Heap, K.In base → base.Ns mainGlobals mg → FnD P w K mg base nm k 1 FL) (hF : FL [.lst (ns.map .int)] [] = .ok (.bl true) μ)
    (H : Hp) (hO : ∀ b, H b = none ∨ ∃ xs, b = a ∧ H b = some (.frz { cls := .type "list", data := .seq vs.toArray } (.lst xs))) (hS : SqF K H a (ns.map V.int)) (hok : HOk P w H s₁.heap) (hK : H a ≠ none → K.lookup a = none) :
    codeAny (model P w) callerA (.call (.ref fa) ⟨[.ref a], []⟩) (fun r s' => r = .ok (.ret (.bool true)) ∧ OldK s₁.heap s'.heap ∧ s'.os = s₁.os ∧ AllBare s'.gens) s₁ := by
  have only : ∀ {b : Addr} {u : HO}, H b = some u → b = a := fun {b u} q => by
    rcases hO b with z | ⟨_, z, _⟩
    · rw [q] at z; cases z
    · exact z
  have dct : ∀ {b : Addr} {m : Str → Option Value}, s₁.heap.Ns b m → (hidT s₁.heap H).Ns b m := fun {b m} ⟨o, es, ep, e, d, r⟩ => by
    refine ⟨o, es, ep, hidT_get e ?_, d, r⟩
    cases q : H b with
    | none => rfl
    | some u =>
      cases only q
      rw [ha] at e
      cases e
      cases (show Data.seq vs.toArray _ = Data.dict es ep from d)
  have kin : K.In (hidT s₁.heap H) := fun b o e => hidT_get (KX b o e) <| by
    cases q : H b with
    | none => rfl
    | some u =>
      cases only q
      rw [hK (by rw [q]; exact fun z => nomatch z)] at e
      cases e
  obtain ⟨mc, l1, l2⟩ := hlim
  have e0 : Env0 P w K mg (hidT s₁.heap H) callerA [] s₁ H := ⟨rfl, ⟨kin, dct hns, ⟨mb, dct hb, hbb⟩, mc, dct l1, l2⟩, fun b o e => of_hidT e, Nat.le_of_eq (hidT_size _ _), trivial, fun b z => (nomatch z), hok, .of_eq hg⟩
  obtain ⟨f, fd, ps, h1, h2, h3, h4⟩ := (F _ kin (dct hns)).ex
  cases hfa.symm.trans h1
  have hsp : spD K 1 FL [V.ref a] H (fun v _ => v = .bl true) (fun _ _ _ => False) := by
    refine ⟨rfl, [], [.lst (ns.map .int)], [], ⟨rfl, List.nodup_nil, fun n b c e => by simp at e⟩, .single ?_, ?_⟩
    · simp only [Rv]
      exact ⟨a, _, rfl, hS, rvs_map_int ns⟩
    · rw [hF]
      intro v H' α' _ _ rv
      simpa only [Rv] using rv
  have hlen : ([Value.ref a] ++ ([] : List Value)).length = ps.length := h3.len _ _ _ _ hsp
  refine codeAny_mono (h3.run callerA [] s₁ H ⟨[.ref a], []⟩ [.ref a] [.ref a] _ _ hr rfl e0 (h4 s₁ [.ref a] KX hlen) (.cons rfl .nil) hsp) fun r s' h => ?_
  cases r with
  | error e =>
    obtain ⟨_, _, _, _, _, _, _, _, _, _, _, _, z⟩ := h
    exact z.elim
  | ok fl =>
    cases fl with
    | next => exact False.elim h
    | brk => exact False.elim h
    | cont => exact False.elim h
    | ret u =>
      obtain ⟨v, H', os, bare, un, hok', r', q⟩ := h
      cases (show v = .bl true from q)
      cases (show u = Value.bool true from r')
      refine ⟨rfl, OldK.of_keep fun b o e => ?_, os, bare⟩
      rcases hO b with z | ⟨xs, rfl, z⟩
      · exact un.keep b o e z (fun z => nomatch z) (fun z => nomatch z)
      · obtain ⟨e1, _⟩ := hok b _ z
        obtain ⟨e2, _⟩ := hok' b _ (un.frzs b _ _ z)
        rw [e] at e1
        cases e1
        exact e2
/-- the goal that k_head leaves (case hc) -/
theorem walkG {l : PySem.W.OpenLaw} {n k : Nat} {q : Program} {loose : List Str} {XP : (Str → Option Value) → Heap → Prop} {YP : World → Heap → Prop} {d : DefRec} {K : Params → PySem.W.Frag} {FL : FF} (hn : l.most = some n) (hn2 : n ≤ sizeLine) (hdf : d.params.defaults = []) (hr : Room k callerA)
    (hY : ∀ (w : World) (h : Heap), YP w h → (K w.params).In h)
    (F : ∀ (w : World) (mg : Str → Option Value) (fa : Addr) (h : Heap), (K w.params).In h → h.Ns mainGlobals mg → mg d.name = some (.ref fa) → ∀ base : Heap, (K w.params).In base → base.Ns mainGlobals mg → FnD l.prog w (K w.params) mg base d.name k 1 FL)
    (hL : ∀ ns : List Int, ns.length ≤ n → ∃ μ, FL [.lst (ns.map .int)] [] = .ok (.bl true) μ) : PySem.W.WalkO q loose XP YP l.row.toRowW d [] (fun f vs => PySem.call f vs) := by
  refine Att.attach_call hn hdf fun w s₀ s₁ mg mb fa o pm cd doc a vs ns G Y ho hd hcd hmg hobj hints hlen hg => ?_
  have KX := hY w _ Y
  have rv := vals_ints hints
  have lenV := hints.length
  have hl : ns.length ≤ sizeLine := Nat.le_trans hlen hn2
  obtain ⟨μ, hF⟩ := hL ns hlen
  have fin := end_core KX G.T.g G.T.b G.T.builtins G.T.nolimit hg hobj hr hmg (F w mg fa _ KX G.T.g hmg) hF
  cases hk : (K w.params).lookup a with
  | some o' =>
    have e := KX a o' hk
    rw [hobj] at e
    cases e
    exact fin (fun _ => none) (fun _ => .inl rfl) (.inr ⟨_, vs.toArray, _, hk, rfl, rfl, rfl, by rw [List.size_toArray, lenV]; exact hl, by simpa using rv⟩) (fun b u z => nomatch z) fun z => absurd rfl z
  | none =>
    refine fin (upd (fun _ => none) a (.frz { cls := .type "list", data := .seq vs.toArray } (.lst (ns.map V.int)))) (fun b => ?_) (.inl ⟨_, upd_same⟩) (fun b u z => ?_) fun _ => hk
    · by_cases hb : b = a
      · subst hb
        exact .inr ⟨_, rfl, upd_same⟩
      · exact .inl (upd_ne hb)
    · by_cases hb : b = a
      · subst hb
        rw [upd_same] at z
        cases z
        exact ⟨hobj, by rw [List.length_map]; exact hl, vs, _, rv, hobj⟩
      · rw [upd_ne hb] at z
        cases z
end DL

namespace DL
open PySem PySem.Spec PyProof.Rows L2
/-! ### 34. == and != that take any text -/
def twoStr : D → D → Option (Str × Str) | .str x, .str y => some (x, y) | _, _ => none
def eqS : S → D → D → Option D := fun s a b => match twoStr a b with | some (x, y) => some (.bl (x == y)) | none => gDat eqG s a b
def neS : S → D → D → Option D := fun s a b => match twoStr a b with | some (x, y) => some (.bl (!(x == y))) | none => gDat neG s a b
theorem twoStr_some {a b : D} {x y : Str} (h : twoStr a b = some (x, y)) : a = .str x ∧ b = .str y := by
  cases a <;> cases b <;> simp [twoStr] at h
  exact ⟨by rw [h.1], by rw [h.2]⟩
section
variable {X : Cx}
theorem dec_str (x y : Str) : decide (V.str x = V.str y) = (x == y) := by
  rw [Bool.eq_iff_iff]
  simp
theorem c_eqS (hu : X.A.units + 65 < cLine) : Cmp X .Eq eqS := by
  refine ⟨_, op_eq.or (op_eqX hu), fun H0 α0 σ H α s x y a b d Q r rx ry e q => ?_⟩
  unfold eqS at e
  split at e
  · rename_i u w h
    obtain ⟨rfl, rfl⟩ := twoStr_some h
    cases e
    rw [rx_str rx, rx_str ry]
    refine .inl ⟨rfl, ?_⟩
    rw [dec_str]
    exact .inl (q _ _ _ r (Stay.refl _ _) ox_bl)
  · exact .inr (os_dat H0 α0 σ H α s x y a b d Q r rx ry e q)
theorem c_neS (hu : X.A.units + 65 < cLine) : Cmp X .NotEq neS := by
  refine ⟨_, op_ne.or (op_neX hu), fun H0 α0 σ H α s x y a b d Q r rx ry e q => ?_⟩
  unfold neS at e
  split at e
  · rename_i u w h
    obtain ⟨rfl, rfl⟩ := twoStr_some h
    cases e
    rw [rx_str rx, rx_str ry]
    refine .inl ⟨rfl, ?_⟩
    rw [dec_str]
    exact .inl (q _ _ _ r (Stay.refl _ _) ox_bl)
  · exact .inr (os_dat H0 α0 σ H α s x y a b d Q r rx ry e q)
end
end DL

namespace DL
open PySem PySem.Spec PyProof.Rows L2
/-! ### 35. Reckoning with the plain functions -/
section
variable {α β : Type}
@[simp] theorem bind_ok (a : α) (s : S) (f : α → S → Res β) : Res.bind (.ok a s) f = f a s := rfl
@[simp] theorem bind_exc (e : EX) (s : S) (f : α → S → Res β) : Res.bind (.exc e s) f = .exc e s := rfl
@[simp] theorem bind_bad (f : α → S → Res β) : Res.bind .bad f = .bad := rfl
end
@[simp] theorem ap_C (d : D) (s : S) : dC d s = .ok d s := rfl
@[simp] theorem ap_Var (i : Nat) (s : S) : dVar i s = (match s.δ[i]? with | some (.val d) => .ok d s | some (.own _) => .ok (.own i) s | _ => .bad) := rfl
@[simp] theorem ap_Op (g : S → D → D → Option D) (fa fb : FE) (s : S) : dOp g fa fb s = (fa s).bind fun a s1 => (fb s1).bind fun b s2 => match g s2 a b with | some d => .ok d s2 | none => .bad := rfl
@[simp] theorem ap_CmpT (g : S → D → D → Option D) (fa fb : FE) (s : S) : dCmpT g fa fb s = (fa s).bind fun a s1 => (fb s1).bind fun b s2 => match g s2 a b with | some (.bl k) => .ok k s2 | _ => .bad := rfl
@[simp] theorem ap_Nil (s : S) : dNil s = .ok [] s := rfl
@[simp] theorem ap_Cons (fa : FE) (fr : FA) (s : S) : dCons fa fr s = (fa s).bind fun d s1 => (fr s1).bind fun ds s2 => .ok (d :: ds) s2 := rfl
@[simp] theorem ap_Tup (fa : FA) (s : S) : dTup fa s = (fa s).bind fun ds s1 => if ds.all noOwn && decide (ds.length ≤ 16777216) then .ok (.tup ds) s1 else .bad := rfl
@[simp] theorem ap_Lst (fa : FA) (s : S) : dLst fa s = (fa s).bind fun ds s1 => if ds.all noOwn && decide (ds.length ≤ 16777216) then .ok (.lst ds) s1 else .bad := rfl
@[simp] theorem ap_B (g : S → List D → Option D) (fa : FA) (s : S) : dB g fa s = (fa s).bind fun ds s1 => match g s1 ds with | some d => .ok d s1 | none => .bad := rfl
@[simp] theorem ap_BF (g : S → List D → Option Cell) (fa : FA) (s : S) : dBF g fa s = (fa s).bind fun ds s1 => match g s1 ds with | some d => .ok d s1 | none => .bad := rfl
@[simp] theorem ap_Call (F : FF) (fa : FA) (s : S) : dCall F fa s = (fa s).bind fun ds s1 => if ds.all noOwn then (match F ds s1.μ with | .ok d μ' => .ok d { s1 with μ := μ' } | .exc e μ' => .exc e { s1 with μ := μ' } | _ => .bad) else .bad := rfl
@[simp] theorem ap_CallF (F : FF) (fa : FA) (s : S) : dCallF F fa s = (fa s).bind fun ds s1 => if ds.all noOwn then (match F ds s1.μ with | .okc c μ' => .ok c { s1 with μ := μ' } | .exc e μ' => .exc e { s1 with μ := μ' } | _ => .bad) else .bad := rfl
@[simp] theorem ap_Frz (f : FC) (s : S) : dFrz f s = (f s).bind fun c s1 => match c with | .dead => .bad | c => .ok c.toD s1 := rfl
@[simp] theorem ap_Ret (fa : FE) (s : S) : dRet fa s = (match fa s with | .ok d s1 => if noOwn d then .rt d s1 else .bad | .exc e s1 => .exc e s1 | .bad => .bad) := rfl
@[simp] theorem ap_RetF (fa : FC) (s : S) : dRetF fa s = (match fa s with | .ok c s1 => .rtc c s1 | .exc e s1 => .exc e s1 | .bad => .bad) := rfl
@[simp] theorem ap_Skip (s : S) : dSkip s = .nx s := rfl
@[simp] theorem ap_Seq (f g : FS) (s : S) : dSeq f g s = (match f s with | .nx s1 => g s1 | r => r) := by
  unfold dSeq
  cases f s <;> rfl
@[simp] theorem ap_IfS (ft : FT) (f g : FS) (s : S) : dIfS ft f g s = (match ft s with | .ok true s1 => f s1 | .ok false s1 => g s1 | .exc e s1 => .exc e s1 | .bad => .bad) := rfl
@[simp] theorem ap_Asg (i : Nat) (fa : FE) (s : S) : dAsg i fa s = (match fa s with | .ok d s1 => if noOwn d then .nx { s1 with δ := s1.δ.set i (.val d) } else .bad | .exc e s1 => .exc e s1 | .bad => .bad) := rfl
@[simp] theorem ap_AsgO (i : Nat) (fa : FC) (s : S) : dAsgO i fa s = (match fa s with | .ok c s1 => .nx { s1 with δ := s1.δ.set i (.own c) } | .exc e s1 => .exc e s1 | .bad => .bad) := rfl
@[simp] theorem ap_Drop (fa : FE) (s : S) : dDrop fa s = (match fa s with | .ok _ s1 => .nx s1 | .exc e s1 => .exc e s1 | .bad => .bad) := by
  unfold dDrop
  cases fa s <;> rfl
@[simp] theorem ap_NotT (fa : FT) (s : S) : dNotT fa s = (fa s).bind fun b s1 => .ok (!b) s1 := rfl
@[simp] theorem ap_AndT (fa fb : FT) (s : S) : dAndT fa fb s = (fa s).bind fun b s1 => if b then fb s1 else .ok false s1 := rfl
@[simp] theorem ap_OrT (fa fb : FT) (s : S) : dOrT fa fb s = (fa s).bind fun b s1 => if b then .ok true s1 else fb s1 := rfl
@[simp] theorem ap_AndV (fa fb : FE) (s : S) : dAndV fa fb s = (fa s).bind fun d s1 => match truthD s1 d with | some true => fb s1 | some false => .ok d s1 | none => .bad := rfl
@[simp] theorem ap_OrV (fa fb : FE) (s : S) : dOrV fa fb s = (fa s).bind fun d s1 => match truthD s1 d with | some true => .ok d s1 | some false => fb s1 | none => .bad := rfl
@[simp] theorem ap_NotV (fa : FE) (s : S) : dNotV fa s = (fa s).bind fun d s1 => match truthD s1 d with | some b => .ok (.bl (!b)) s1 | none => .bad := rfl
@[simp] theorem ap_Truth (fa : FE) (s : S) : dTruth fa s = (fa s).bind fun d s1 => match truthD s1 d with | some b => .ok b s1 | none => .bad := rfl
@[simp] theorem ap_If (ft : FT) (fa fb : FE) (s : S) : dIf ft fa fb s = (ft s).bind fun b s1 => if b then fa s1 else fb s1 := rfl
@[simp] theorem ap_Yes (s : S) : dYes s = .ok true s := rfl
@[simp] theorem ap_Iter (fa : FE) (s : S) : dIter fa s = (fa s).bind fun d s1 => match fixSeq d with | some xs => .ok xs s1 | none => .bad := rfl
@[simp] theorem ap_IterEn (fa : FA) (s : S) : dIterEn fa s = (fa s).bind fun ds s1 => match ds with | [d] => (match fixSeq d with | some xs => .ok (enD 0 xs) s1 | none => .bad) | _ => .bad := rfl
@[simp] theorem ap_IterZp (fa : FA) (s : S) : dIterZp fa s = (fa s).bind fun ds s1 => match ds with | [d, e] => (match fixSeq d, fixSeq e with | some xs, some ys => .ok (zpD xs ys) s1 | _, _ => .bad) | _ => .bad := rfl
@[simp] theorem ap_Lc (vs : List Nat) (fi : FA) (g : FG) (ft : FT) (fe : FE) (s : S) : dLc vs fi g ft fe s = (fi s).bind fun ds s1 => if ds.length ≤ 16777216 && vs.all (fun v => !isOwn s1.δ v) then (match dLcGo vs g ft fe ds s1 with | .ok ys s2 => .ok (.lst ys) s2 | _ => .bad) else .bad := rfl
@[simp] theorem isOwn_c (δ : List Slot) (i : Nat) : isOwn δ i = (match δ[i]? with | some (.own _) => true | _ => false) := rfl
@[simp] theorem ap_gNm (i : Nat) (d : D) (s : S) : gNm i d s = some { s with δ := s.δ.set i (.val d) } := rfl
@[simp] theorem ap_gT (r : FGs) (ds : List D) (s : S) : gT r (.tup ds) s = r ds s := rfl
@[simp] theorem ap_gC (g : FG) (r : FGs) (d : D) (ds : List D) (s : S) : gC g r (d :: ds) s = (g d s).bind fun s1 => r ds s1 := rfl
@[simp] theorem ap_gN (s : S) : gN [] s = some s := rfl
@[simp] theorem ap_Neg (fa : FE) (s : S) : dNeg fa s = (fa s).bind fun a s1 => match a with | .int i => .ok (.int (-i)) s1 | _ => .bad := rfl
@[simp] theorem no_non : noOwn .non = true := rfl
@[simp] theorem no_bl (b : Bool) : noOwn (.bl b) = true := rfl
@[simp] theorem no_int (i : Int) : noOwn (.int i) = true := rfl
@[simp] theorem no_str (i : Str) : noOwn (.str i) = true := rfl
@[simp] theorem no_tup (i : List D) : noOwn (.tup i) = true := rfl
@[simp] theorem no_lst (i : List D) : noOwn (.lst i) = true := rfl
@[simp] theorem no_dct (i : List (D × D)) : noOwn (.dct i) = true := rfl
@[simp] theorem no_ref (i : Nat) : noOwn (.ref i) = true := rfl
@[simp] theorem no_ty (i : String) : noOwn (.ty i) = true := rfl
@[simp] theorem tr_bl (s : S) (b : Bool) : truthD s (.bl b) = some b := rfl
@[simp] theorem tr_int (s : S) (i : Int) : truthD s (.int i) = some (i != 0) := rfl
@[simp] theorem fs_tup (xs : List D) : fixSeq (.tup xs) = some xs := rfl
@[simp] theorem fs_lst (xs : List D) : fixSeq (.lst xs) = some xs := rfl
@[simp] theorem asq_tup (s : S) (xs : List D) : asSeq s (.tup xs) = some xs := rfl
@[simp] theorem asq_lst (s : S) (xs : List D) : asSeq s (.lst xs) = some xs := rfl
@[simp] theorem asl_lst (s : S) (xs : List D) : asL s (.lst xs) = some xs := rfl
@[simp] theorem toD_lst (xs : List D) : Cell.toD (.lst xs) = .lst xs := rfl
@[simp] theorem frz_lst (xs : List D) (s : S) : (match Cell.lst xs with | .dead => Res.bad | c => Res.ok c.toD s) = .ok (.lst xs) s := rfl
/-! data in plain words -/
theorem py_ints : ∀ xs : List Int, toPyL (xs.map .int) = some (xs.map .int)
  | [] => rfl
  | x :: xs => by simp [toPyL, toPy, py_ints xs]
@[simp] theorem pys_int (s : S) (i : Int) : toPyS s (.int i) = some (.int i) := rfl
@[simp] theorem pys_bl (s : S) (b : Bool) : toPyS s (.bl b) = some (.bool b) := rfl
@[simp] theorem pys_str (s : S) (x : Str) : toPyS s (.str x) = some (.str x) := rfl
@[simp] theorem pys_non (s : S) : toPyS s .non = some .none := rfl
@[simp] theorem pys_tup (s : S) (xs : List D) : toPyS s (.tup xs) = (toPyL xs).map .tuple := by simp [toPyS, toPy]
@[simp] theorem pys_lst (s : S) (xs : List D) : toPyS s (.lst xs) = (toPyL xs).map .list := by simp [toPyS, toPy]
theorem eqv_ints : ∀ xs ys : List Int, PyData.eqvAll (xs.map .int) (ys.map .int) = decide (xs = ys)
  | [], [] => by simp [PyData.eqvAll]
  | [], y :: ys => by simp [PyData.eqvAll]
  | x :: xs, [] => by simp [PyData.eqvAll]
  | x :: xs, y :: ys => by
    simp only [List.map_cons, PyData.eqvAll, PyData.eqv, eqv_ints xs ys, List.cons.injEq]
    by_cases h : x = y <;> simp [h]
theorem sh_int (i : Int) : SeqAt.shaped (.int i) = true := by simp [SeqAt.shaped, PyData.canLay0, PyData.depth]
@[simp] theorem eq_ii (s : S) (a b : Int) : eqS s (.int a) (.int b) = some (.bl (a == b)) := by
  simp [eqS, twoStr, gDat, eqG, sh_int, PyData.eqv]
@[simp] theorem ne_ii (s : S) (a b : Int) : neS s (.int a) (.int b) = some (.bl (!(a == b))) := by
  simp [neS, twoStr, gDat, neG, sh_int, PyData.eqv]
@[simp] theorem ne_ss (s : S) (a b : Str) : neS s (.str a) (.str b) = some (.bl (!(a == b))) := rfl
@[simp] theorem eq_ss (s : S) (a b : Str) : eqS s (.str a) (.str b) = some (.bl (a == b)) := rfl
theorem depth_ints : ∀ xs : List Int, PyData.depthAll (xs.map .int) = 0
  | [] => rfl
  | x :: xs => by simp [PyData.depthAll, PyData.depth, depth_ints xs]
theorem can_ints : ∀ xs : List Int, PyData.canLayAll0 (xs.map .int) = true
  | [] => by simp [PyData.canLayAll0]
  | x :: xs => by simp [PyData.canLayAll0, PyData.canLay0, can_ints xs]
/-- a row of ints -/
abbrev Ri (xs : List Int) : D := .tup (xs.map .int)
theorem sh_row (xs : List Int) : SeqAt.shaped (.tuple (xs.map .int)) = true := by simp [SeqAt.shaped, PyData.canLay0, PyData.depth, depth_ints, can_ints]
theorem sh_lsti (xs : List Int) : SeqAt.shaped (.list (xs.map .int)) = true := by simp [SeqAt.shaped, PyData.canLay0, PyData.depth, depth_ints, can_ints]
@[simp] theorem ne_rr (s : S) (a b : List Int) : neS s (.tup (a.map .int)) (.tup (b.map .int)) = some (.bl (!decide (a = b))) := by
  simp [neS, twoStr, gDat, neG, sh_row, PyData.eqv, py_ints, eqv_ints]
@[simp] theorem eq_rr (s : S) (a b : List Int) : eqS s (.tup (a.map .int)) (.tup (b.map .int)) = some (.bl (decide (a = b))) := by
  simp [eqS, twoStr, gDat, eqG, sh_row, PyData.eqv, py_ints, eqv_ints]
@[simp] theorem ne_ll (s : S) (a b : List Int) : neS s (.lst (a.map .int)) (.lst (b.map .int)) = some (.bl (!decide (a = b))) := by
  simp [neS, twoStr, gDat, neG, sh_lsti, PyData.eqv, py_ints, eqv_ints]
@[simp] theorem eq_ll (s : S) (a b : List Int) : eqS s (.lst (a.map .int)) (.lst (b.map .int)) = some (.bl (decide (a = b))) := by
  simp [eqS, twoStr, gDat, eqG, sh_lsti, PyData.eqv, py_ints, eqv_ints]
@[simp] theorem lt_ii (s : S) (a b : Int) : gLt s (.int a) (.int b) = some (.bl (decide (a < b))) := rfl
@[simp] theorem le_ii (s : S) (a b : Int) : gLe s (.int a) (.int b) = some (.bl (decide (a ≤ b))) := rfl
@[simp] theorem gt_ii (s : S) (a b : Int) : gGt s (.int a) (.int b) = some (.bl (decide (b < a))) := rfl
@[simp] theorem ge_ii (s : S) (a b : Int) : gGe s (.int a) (.int b) = some (.bl (decide (b ≤ a))) := rfl
@[simp] theorem add_ii (s : S) (a b : Int) : gAdd s (.int a) (.int b) = some (.int (a + b)) := rfl
@[simp] theorem sub_ii (s : S) (a b : Int) : gSub s (.int a) (.int b) = some (.int (a - b)) := rfl
theorem mul_ii {a b : Int} (h : mulOk a b = true) (s : S) : gMul s (.int a) (.int b) = some (.int (a * b)) := by simp [gMul, h]
theorem mod_ii {a b : Int} (h : b ≠ 0) (s : S) : gMod s (.int a) (.int b) = some (.int (a.fmod b)) := by
  show (if (b != 0) = true then _ else _) = _
  rw [if_pos (by simpa using h)]
theorem fdiv_ii {a b : Int} (h : fdivOk a b = true) (s : S) : gFdiv s (.int a) (.int b) = some (.int (a.fdiv b)) := by
  show (if fdivOk a b = true then _ else _) = _
  rw [if_pos h]
end DL

namespace K13
open PySem PySem.Spec PyProof.Rows L2 DL
def b_is_integer : FS := (dRet (dAndV (dB gIsi (dCons (dVar 0) (dCons (dC (.ty "int")) dNil))) (dNotV (dB gIsi (dCons (dVar 0) (dCons (dC (.ty "bool")) dNil))))))
def F_is_integer : FF := runF b_is_integer 1
def b_require_width : FS := (dIfS (dOrT (dNotT (dTruth (dCall F_is_integer (dCons (dVar 0) dNil)))) (dNotT (dChainT gLe gLe (dC (.int (1))) (dVar 0) (dC (.int (60)))))) (fun _ => .bad) dSkip)
def F_require_width : FF := runF b_require_width 1
def b_is_plain_row : FS := (dRet (dAndV (dB gIsi (dCons (dVar 1) (dCons (dC (.ty "tuple")) dNil))) (dAndV (dOp eqS (dB gLen (dCons (dVar 1) dNil)) (dVar 0)) (dB gAll (dCons (dFrz (dLc [2] (dIter (dVar 1)) (gNm 2) dYes (dCall F_is_integer (dCons (dVar 2) dNil)))) dNil)))))
def F_is_plain_row : FF := runF b_is_plain_row 3
def b_lead_in : FS := (dSeq (dForI (dIterEn (dCons (dVar 0) dNil)) (gT (gC (gNm 1) (gC (gNm 2) gN))) (dIfS (dCmpT neS (dVar 2) (dC (.int (0)))) (dRet (dVar 1)) dSkip))
    (dRet (dC .non)))
def F_lead_in : FF := runF b_lead_in 3
def b_common_share (n0 : Nat) : FS := (dSeq (dWhile (dCmpT neS (dVar 1) (dC (.int (0)))) (dPar 0 1 (dCons (dVar 1) (dCons (dOp gMod (dVar 0) (dVar 1)) dNil))) n0)
    (dRet (dB gAbs (dCons (dVar 0) dNil))))
def fu0_common_share (ds : List D) (μ : List Cell) : Nat := match ds with | [_, .int b] => b.natAbs + 1 | _ => 0
def F_common_share : FF := fun ds μ => runF (b_common_share (fu0_common_share ds μ)) 2 ds μ
def b_lowest_row : FS := (dSeq (dAsg 1 (dC (.int (0))))
    (dSeq (dForI (dIter (dVar 0)) (gNm 2) (dAsg 1 (dCall F_common_share (dCons (dVar 1) (dCons (dVar 2) dNil)))))
    (dSeq (dIfS (dCmpT eqS (dVar 1) (dC (.int (0)))) (dRet (dB gTuple (dCons (dVar 0) dNil))) dSkip)
    (dSeq (dIfS (dCmpT gLt (dOp gIx (dVar 0) (dCall F_lead_in (dCons (dVar 0) dNil))) (dC (.int (0)))) (dAsg 1 (dOp gSub (dC (.int (0))) (dVar 1))) dSkip)
    (dRet (dB gTuple (dCons (dFrz (dLc [2] (dIter (dVar 0)) (gNm 2) dYes (dOp gFdiv (dVar 2) (dVar 1)))) dNil)))))))
def F_lowest_row : FF := runF b_lowest_row 3
def b_is_plain_lot : FS := (dSeq (dIfS (dOrT (dNotT (dTruth (dB gIsi (dCons (dVar 1) (dCons (dC (.ty "tuple")) dNil))))) (dNotT (dTruth (dB gAll (dCons (dFrz (dLc [2] (dIter (dVar 1)) (gNm 2) dYes (dCall F_is_plain_row (dCons (dVar 0) (dCons (dVar 2) dNil))))) dNil))))) (dRet (dC (.bl false))) dSkip)
    (dSeq (dAsg 3 (dNeg (dC (.int (1)))))
    (dSeq (dForI (dIterEn (dCons (dVar 1) dNil)) (gT (gC (gNm 4) (gC (gNm 2) gN))) (dSeq (dAsg 5 (dCall F_lead_in (dCons (dVar 2) dNil)))
    (dSeq (dIfS (dOrT (dCmpT isN (dVar 5) (dC .non)) (dOrT (dCmpT gLe (dVar 5) (dVar 3)) (dCmpT neS (dCall F_lowest_row (dCons (dVar 2) dNil)) (dVar 2)))) (dRet (dC (.bl false))) dSkip)
    (dSeq (dIfS (dTruth (dB gAny (dCons (dFrz (dLc [6, 7] (dIterEn (dCons (dVar 1) dNil)) (gT (gC (gNm 6) (gC (gNm 7) gN))) (dCmpT neS (dVar 6) (dVar 4)) (dOp neS (dOp gIx (dVar 7) (dVar 5)) (dC (.int (0)))))) dNil))) (dRet (dC (.bl false))) dSkip)
    (dAsg 3 (dVar 5))))))
    (dRet (dC (.bl true))))))
def F_is_plain_lot : FF := runF b_is_plain_lot 8
def b_dot : FS := (dRet (dB gSum (dCons (dFrz (dLc [2, 3] (dIterZp (dCons (dVar 0) (dCons (dVar 1) dNil))) (gT (gC (gNm 2) (gC (gNm 3) gN))) dYes (dOp gMul (dVar 2) (dVar 3)))) dNil)))
def F_dot : FF := runF b_dot 4
def b_sum_of_rows : FS := (dRet (dB gTuple (dCons (dFrz (dLc [2, 3] (dIterZp (dCons (dVar 0) (dCons (dVar 1) dNil))) (gT (gC (gNm 2) (gC (gNm 3) gN))) dYes (dOp gAdd (dVar 2) (dVar 3)))) dNil)))
def F_sum_of_rows : FF := runF b_sum_of_rows 4
def b_times_row : FS := (dRet (dB gTuple (dCons (dFrz (dLc [2] (dIter (dVar 1)) (gNm 2) dYes (dOp gMul (dVar 0) (dVar 2)))) dNil)))
def F_times_row : FF := runF b_times_row 3
def b_less_by : FS := (dSeq (dAsg 2 (dCall F_lead_in (dCons (dVar 1) dNil)))
    (dSeq (dIfS (dCmpT eqS (dOp gIx (dVar 0) (dVar 2)) (dC (.int (0)))) (dRet (dVar 0)) dSkip)
    (dRet (dB gTuple (dCons (dFrz (dLc [3, 4] (dIterZp (dCons (dVar 0) (dCons (dVar 1) dNil))) (gT (gC (gNm 3) (gC (gNm 4) gN))) dYes (dOp gSub (dOp gMul (dOp gIx (dVar 1) (dVar 2)) (dVar 3)) (dOp gMul (dOp gIx (dVar 0) (dVar 2)) (dVar 4))))) dNil)))))
def F_less_by : FF := runF b_less_by 5
def b_rest_by : FS := (dSeq (dForI (dIter (dVar 0)) (gNm 2) (dAsg 1 (dCall F_less_by (dCons (dVar 1) (dCons (dVar 2) dNil)))))
    (dRet (dVar 1)))
def F_rest_by : FF := runF b_rest_by 3
def b_with_row : FS := (dSeq (dAsg 2 (dCall F_lowest_row (dCons (dCall F_rest_by (dCons (dVar 0) (dCons (dVar 1) dNil))) dNil)))
    (dSeq (dIfS (dCmpT isN (dCall F_lead_in (dCons (dVar 2) dNil)) (dC .non)) (dRet (dVar 0)) dSkip)
    (dSeq (dAsg 3 (dOp gAdd (dFrz (dLc [4] (dIter (dVar 0)) (gNm 4) dYes (dCall F_lowest_row (dCons (dCall F_less_by (dCons (dVar 4) (dCons (dVar 2) dNil))) dNil)))) (dFrz (dLst (dCons (dVar 2) dNil)))))
    (dRet (dB gTuple (dCons (dFrz (dSortKey F_lead_in (dVar 3))) dNil))))))
def F_with_row : FF := runF b_with_row 5
def b_lot_in : FS := (dSeq (dAsg 1 (dTup dNil))
    (dSeq (dForI (dIter (dVar 0)) (gNm 2) (dAsg 1 (dCall F_with_row (dCons (dVar 1) (dCons (dVar 2) dNil)))))
    (dRet (dVar 1))))
def F_lot_in : FF := runF b_lot_in 3
def b_is_row : FS := (dSeq (dDrop (dCall F_require_width (dCons (dVar 0) dNil)))
    (dRet (dCall F_is_plain_row (dCons (dVar 0) (dCons (dVar 1) dNil)))))
def F_is_row : FF := runF b_is_row 2
def b_is_lot : FS := (dSeq (dDrop (dCall F_require_width (dCons (dVar 0) dNil)))
    (dRet (dCall F_is_plain_lot (dCons (dVar 0) (dCons (dVar 1) dNil)))))
def F_is_lot : FF := runF b_is_lot 2
def b_require_row : FS := (dIfS (dNotT (dTruth (dCall F_is_plain_row (dCons (dVar 0) (dCons (dVar 1) dNil))))) (fun _ => .bad) dSkip)
def F_require_row : FF := runF b_require_row 2
def b_require_rows : FS := (dIfS (dOrT (dNotT (dTruth (dB gIsi (dCons (dVar 1) (dCons (dC (.ty "tuple")) dNil))))) (dNotT (dTruth (dB gAll (dCons (dFrz (dLc [2] (dIter (dVar 1)) (gNm 2) dYes (dCall F_is_plain_row (dCons (dVar 0) (dCons (dVar 2) dNil))))) dNil))))) (fun _ => .bad) dSkip)
def F_require_rows : FF := runF b_require_rows 3
def b_row_plus : FS := (dSeq (dDrop (dCall F_require_width (dCons (dVar 0) dNil)))
    (dSeq (dDrop (dCall F_require_row (dCons (dVar 0) (dCons (dVar 1) dNil))))
    (dSeq (dDrop (dCall F_require_row (dCons (dVar 0) (dCons (dVar 2) dNil))))
    (dRet (dCall F_sum_of_rows (dCons (dVar 1) (dCons (dVar 2) dNil)))))))
def F_row_plus : FF := runF b_row_plus 3
def b_row_times : FS := (dSeq (dDrop (dCall F_require_width (dCons (dVar 0) dNil)))
    (dSeq (dIfS (dNotT (dTruth (dCall F_is_integer (dCons (dVar 1) dNil)))) (fun _ => .bad) dSkip)
    (dSeq (dDrop (dCall F_require_row (dCons (dVar 0) (dCons (dVar 2) dNil))))
    (dRet (dCall F_times_row (dCons (dVar 1) (dCons (dVar 2) dNil)))))))
def F_row_times : FF := runF b_row_times 3
def b_product : FS := (dSeq (dDrop (dCall F_require_width (dCons (dVar 0) dNil)))
    (dSeq (dDrop (dCall F_require_row (dCons (dVar 0) (dCons (dVar 1) dNil))))
    (dSeq (dDrop (dCall F_require_row (dCons (dVar 0) (dCons (dVar 2) dNil))))
    (dRet (dCall F_dot (dCons (dVar 1) (dCons (dVar 2) dNil)))))))
def F_product : FF := runF b_product 3
def b_lowest : FS := (dSeq (dDrop (dCall F_require_width (dCons (dVar 0) dNil)))
    (dSeq (dDrop (dCall F_require_row (dCons (dVar 0) (dCons (dVar 1) dNil))))
    (dRet (dCall F_lowest_row (dCons (dVar 1) dNil)))))
def F_lowest : FF := runF b_lowest 2
def b_lot_of : FS := (dSeq (dDrop (dCall F_require_width (dCons (dVar 0) dNil)))
    (dSeq (dDrop (dCall F_require_rows (dCons (dVar 0) (dCons (dVar 1) dNil))))
    (dRet (dCall F_lot_in (dCons (dVar 1) dNil)))))
def F_lot_of : FF := runF b_lot_of 2
def b_L_dice : FS := (dSeq (dAsg 2 (dIf (dCmpT gLt (dVar 1) (dB gLen (dCons (dVar 0) dNil))) (dB gInt (dCons (dOp gIx (dVar 0) (dVar 1)) dNil)) (dOp gAdd (dOp gMul (dC (.int (131))) (dVar 1)) (dC (.int (37))))))
    (dSeq (dAsg 3 (dOp gMod (dB gInt (dCons (dB gAbs (dCons (dVar 2) dNil)) dNil)) (dOp gPow (dOp gPow (dC (.int (10))) (dC (.int (53)))) (dC (.int (6))))))
    (dSeq (dAsg 4 (dOp gAdd (dOp gAdd (dOp gAdd (dOp gMul (dOp gMod (dVar 3) (dC (.int (2305843009213693907)))) (dC (.int (73)))) (dOp gMul (dC (.int (619))) (dVar 1))) (dOp gMul (dC (.int (41))) (dB gInt (dCons (dOp gLt (dVar 2) (dC (.int (0)))) dNil)))) (dC (.int (17)))))
    (dRetF (dLst (dCons (dB gMax2 (dCons (dC (.int (0))) (dCons (dOp gSub (dVar 3) (dOp gPow (dC (.int (10))) (dC (.int (16))))) dNil))) (dCons (dVar 4) (dCons (dC (.int (0))) dNil))))))))
def F_L_dice : FF := runF b_L_dice 5
def b_L_roll : FS := (dSeq (dIfS (dCmpT gGt (dOp gIx (dVar 0) (dC (.int (0)))) (dC (.int (0)))) (dSeq (dAsg 2 (dOp gMod (dOp gIx (dVar 0) (dC (.int (0)))) (dVar 1)))
    (dSeq (dSetI gSetI (dOp gFdiv (dOp gIx (dVar 0) (dC (.int (0)))) (dVar 1)) (dVar 0) (dC (.int (0))))
    (dRet (dB gInt (dCons (dVar 2) dNil))))) dSkip)
    (dSeq (dSetI gSetI (dOp gAdd (dOp gIx (dVar 0) (dC (.int (2)))) (dC (.int (1)))) (dVar 0) (dC (.int (2))))
    (dSeq (dAsg 3 (dOp gMod (dOp gAdd (dOp gIx (dVar 0) (dC (.int (1)))) (dOp gMul (dC (.int (49979687))) (dOp gIx (dVar 0) (dC (.int (2)))))) (dC (.int (2305843009213693951)))))
    (dSeq (dAsg 4 (dOp gAdd (dOp gMul (dOp gMod (dOp gAdd (dOp gMul (dVar 3) (dVar 3)) (dOp gMul (dC (.int (131))) (dOp gIx (dVar 0) (dC (.int (2)))))) (dC (.int (2305843009213693921)))) (dC (.int (32452843)))) (dVar 3)))
    (dRet (dOp gMod (dB gInt (dCons (dOp gFdiv (dVar 4) (dC (.int (65587)))) dNil)) (dVar 1)))))))
def F_L_roll : FF := runF b_L_roll 5
def b_L_pick : FS := (dRet (dOp gIx (dVar 1) (dCall F_L_roll (dCons (dVar 0) (dCons (dB gLen (dCons (dVar 1) dNil)) dNil)))))
def F_L_pick : FF := runF b_L_pick 2
def b_L_gcd (n0 : Nat) : FS := (dSeq (dWhile (dCmpT neS (dVar 1) (dC (.int (0)))) (dPar 0 1 (dCons (dVar 1) (dCons (dOp gMod (dVar 0) (dVar 1)) dNil))) n0)
    (dRet (dB gAbs (dCons (dVar 0) dNil))))
def fu0_L_gcd (ds : List D) (μ : List Cell) : Nat := match ds with | [_, .int b] => b.natAbs + 1 | _ => 0
def F_L_gcd : FF := fun ds μ => runF (b_L_gcd (fu0_L_gcd ds μ)) 2 ds μ
def b_L_lead : FS := (dRet (dB gMin (dCons (dOp gAdd (dFrz (dLc [1, 2] (dIterEn (dCons (dVar 0) dNil)) (gT (gC (gNm 1) (gC (gNm 2) gN))) (dCmpT neS (dVar 2) (dC (.int (0)))) (dVar 1))) (dFrz (dLst (dCons (dB gLen (dCons (dVar 0) dNil)) dNil)))) dNil)))
def F_L_lead : FF := runF b_L_lead 3
def b_L_lowest : FS := (dSeq (dAsg 1 (dC (.int (0))))
    (dSeq (dForI (dIter (dVar 0)) (gNm 2) (dAsg 1 (dCall F_L_gcd (dCons (dVar 1) (dCons (dVar 2) dNil)))))
    (dSeq (dIfS (dCmpT eqS (dVar 1) (dC (.int (0)))) (dRet (dB gTuple (dCons (dVar 0) dNil))) dSkip)
    (dSeq (dAsg 3 (dIf (dCmpT gGt (dOp gIx (dVar 0) (dCall F_L_lead (dCons (dVar 0) dNil))) (dC (.int (0)))) (dC (.int (1))) (dNeg (dC (.int (1))))))
    (dRet (dB gTuple (dCons (dFrz (dLc [2] (dIter (dVar 0)) (gNm 2) dYes (dOp gMul (dVar 3) (dOp gFdiv (dVar 2) (dVar 1))))) dNil)))))))
def F_L_lowest : FF := runF b_L_lowest 4
def b_L_dot : FS := (dRet (dB gSum (dCons (dFrz (dLc [2, 3] (dIterZp (dCons (dVar 0) (dCons (dVar 1) dNil))) (gT (gC (gNm 2) (gC (gNm 3) gN))) dYes (dOp gMul (dVar 2) (dVar 3)))) dNil)))
def F_L_dot : FF := runF b_L_dot 4
def b_L_drawn : FS := (dSeq (dAsg 2 (dOp gPow (dC (.int (10))) (dC (.int (30)))))
    (dRet (dB gTuple (dCons (dFrz (dLc [3] (dRng1 (dCons (dVar 1) dNil)) (gNm 3) dYes (dCall F_L_pick (dCons (dVar 0) (dCons (dFrz (dLst (dCons (dC (.int (0))) (dCons (dC (.int (0))) (dCons (dC (.int (1))) (dCons (dNeg (dC (.int (1)))) (dCons (dC (.int (6))) (dCons (dNeg (dC (.int (4)))) (dCons (dC (.int (12))) (dCons (dOp gAdd (dVar 2) (dC (.int (1)))) (dCons (dOp gSub (dC (.int (0))) (dVar 2)) dNil))))))))))) dNil))))) dNil))))
def F_L_drawn : FF := runF b_L_drawn 4
def b_L_is_row : FS := (dSeq (dIfS (dOrT (dNotT (dTruth (dB gIsi (dCons (dVar 1) (dCons (dC (.ty "tuple")) dNil))))) (dCmpT neS (dB gLen (dCons (dVar 1) dNil)) (dVar 0))) (dRet (dC (.bl false))) dSkip)
    (dRet (dOp eqS (dFrz (dLc [2] (dIter (dVar 1)) (gNm 2) (dOrT (dNotT (dTruth (dB gIsi (dCons (dVar 2) (dCons (dC (.ty "int")) dNil))))) (dTruth (dB gIsi (dCons (dVar 2) (dCons (dC (.ty "bool")) dNil))))) (dC (.int (1))))) (dFrz (dLst dNil)))))
def F_L_is_row : FF := runF b_L_is_row 3
def b_L_is_lot : FS := (dSeq (dIfS (dOrT (dNotT (dTruth (dB gIsi (dCons (dVar 1) (dCons (dC (.ty "tuple")) dNil))))) (dCmpT neS (dFrz (dLc [4] (dIter (dVar 1)) (gNm 4) (dNotT (dTruth (dCall F_L_is_row (dCons (dVar 0) (dCons (dVar 4) dNil))))) (dC (.int (1))))) (dFrz (dLst dNil)))) (dRet (dC (.bl false))) dSkip)
    (dSeq (dFrzS 2 (dAsgO 2 (dLc [4] (dIter (dVar 1)) (gNm 4) dYes (dCall F_L_lead (dCons (dVar 4) dNil)))))
    (dSeq (dIfS (dOrT (dCmpT neS (dVar 2) (dFrz (dSortSet (dVar 2)))) (dOrT (dCmpT (gDat inG) (dVar 0) (dVar 2)) (dCmpT neS (dFrz (dLc [4] (dIter (dVar 1)) (gNm 4) (dCmpT neS (dCall F_L_lowest (dCons (dVar 4) dNil)) (dVar 4)) (dC (.int (1))))) (dFrz (dLst dNil))))) (dRet (dC (.bl false))) dSkip)
    (dSeq (dForI (dIter (dVar 2)) (gNm 3) (dIfS (dCmpT neS (dB gLen (dCons (dFrz (dLc [4] (dIter (dVar 1)) (gNm 4) (dCmpT neS (dOp gIx (dVar 4) (dVar 3)) (dC (.int (0)))) (dVar 4))) dNil)) (dC (.int (1)))) (dRet (dC (.bl false))) dSkip))
    (dRet (dC (.bl true)))))))
def F_L_is_lot : FF := runF b_L_is_lot 5
def b_L_near : FS := (dSeq (dAsg 3 (dCall F_L_drawn (dCons (dVar 0) (dCons (dVar 1) dNil))))
    (dSeq (dAsgO 4 (dLst (dCons (dVar 2) (dCons (dFrz (dBF gList (dCons (dVar 2) dNil))) (dCons (dRev (dVar 2)) (dCons (dOp gAdd (dVar 2) (dSl (dVar 2) dNo (dPart (dC (.int (1)))))) (dCons (dOp gAdd (dVar 2) (dTup (dCons (dVar 3) dNil))) (dCons (dTup (dCons (dVar 3) dNil)) (dCons (dTup dNil) (dCons (dTup (dCons (dCall F_L_lowest (dCons (dVar 3) dNil)) dNil)) (dCons (dC .non) (dCons (dC (.int (0))) (dCons (dTup (dCons (dTup dNil) dNil)) (dCons (dTup (dCons (dC .non) dNil)) dNil))))))))))))))
    (dSeq (dAsgO 4 (dCat (dVar 4) (dFrz (dLst (dCons (dOp gAdd (dVar 2) (dTup (dCons (dOp gMul (dTup (dCons (dC (.int (0))) dNil)) (dVar 1)) dNil))) (dCons (dTup (dCons (dOp gAdd (dVar 3) (dTup (dCons (dC (.int (0))) dNil))) dNil)) (dCons (dB gTuple (dCons (dFrz (dLc [5] (dIter (dVar 2)) (gNm 5) dYes (dB gTuple (dCons (dFrz (dLc [8] (dIter (dVar 5)) (gNm 8) dYes (dOp gSub (dC (.int (0))) (dVar 8)))) dNil)))) dNil)) dNil)))))))
    (dSeq (dIfS (dCmpT neS (dVar 2) (dTup dNil)) (dSeq (dAsg 6 (dCall F_L_roll (dCons (dVar 0) (dCons (dB gLen (dCons (dVar 2) dNil)) dNil))))
    (dSeq (dPar 7 5 (dCons (dCall F_L_roll (dCons (dVar 0) (dCons (dVar 1) dNil))) (dCons (dOp gIx (dVar 2) (dVar 6)) dNil)))
    (dSeq (dDrop (dM "list" gAppend (dVar 4) (dCons (dOp gAdd (dOp gAdd (dSl (dVar 2) dNo (dPart (dVar 6))) (dTup (dCons (dOp gAdd (dOp gAdd (dSl (dVar 5) dNo (dPart (dVar 7))) (dTup (dCons (dOp gAdd (dOp gIx (dVar 5) (dVar 7)) (dC (.int (1)))) dNil))) (dSl (dVar 5) (dPart (dOp gAdd (dVar 7) (dC (.int (1))))) dNo)) dNil))) (dSl (dVar 2) (dPart (dOp gAdd (dVar 6) (dC (.int (1))))) dNo)) dNil)))
    (dSeq (dDrop (dM "list" gAppend (dVar 4) (dCons (dOp gAdd (dOp gAdd (dSl (dVar 2) dNo (dPart (dVar 6))) (dTup (dCons (dB gTuple (dCons (dFrz (dLc [8] (dIter (dVar 5)) (gNm 8) dYes (dOp gMul (dC (.int (2))) (dVar 8)))) dNil)) dNil))) (dSl (dVar 2) (dPart (dOp gAdd (dVar 6) (dC (.int (1))))) dNo)) dNil)))
    (dSeq (dDrop (dM "list" gAppend (dVar 4) (dCons (dOp gAdd (dOp gAdd (dSl (dVar 2) dNo (dPart (dVar 6))) (dTup (dCons (dFrz (dBF gList (dCons (dVar 5) dNil))) dNil))) (dSl (dVar 2) (dPart (dOp gAdd (dVar 6) (dC (.int (1))))) dNo)) dNil)))
    (dSeq (dDrop (dM "list" gAppend (dVar 4) (dCons (dOp gAdd (dOp gAdd (dSl (dVar 2) dNo (dPart (dVar 6))) (dTup (dCons (dB gTuple (dCons (dFrz (dLc [8] (dIter (dVar 5)) (gNm 8) dYes (dIf (dCmpT (gDat inG) (dVar 8) (dTup (dCons (dC (.int (0))) (dCons (dC (.int (1))) dNil)))) (dOp eqS (dVar 8) (dC (.int (1)))) (dVar 8)))) dNil)) dNil))) (dSl (dVar 2) (dPart (dOp gAdd (dVar 6) (dC (.int (1))))) dNo)) dNil)))
    (dDrop (dM "list" gAppend (dVar 4) (dCons (dOp gAdd (dSl (dVar 2) dNo (dPart (dVar 6))) (dSl (dVar 2) (dPart (dOp gAdd (dVar 6) (dC (.int (1))))) dNo)) dNil))))))))) dSkip)
    (dRetF (dTake 4))))))
def F_L_near : FF := runF b_L_near 9
def b_L_right : FS := (dSeq (dAsgG (dTup (dCons (dCall F_L_drawn (dCons (dVar 0) (dCons (dVar 1) dNil))) (dCons (dCall F_L_drawn (dCons (dVar 0) (dCons (dVar 1) dNil))) (dCons (dCall F_L_pick (dCons (dVar 0) (dCons (dFrz (dLst (dCons (dC (.int (0))) (dCons (dC (.int (1))) (dCons (dNeg (dC (.int (1)))) (dCons (dC (.int (3))) (dCons (dOp gPow (dC (.int (10))) (dC (.int (25)))) dNil))))))) dNil))) dNil)))) (gT (gC (gNm 2) (gC (gNm 3) (gC (gNm 4) gN)))))
    (dSeq (dIfS (dCmpT neS (dB gRepr (dCons (dCall F_row_plus (dCons (dVar 1) (dCons (dVar 2) (dCons (dVar 3) dNil)))) dNil)) (dB gRepr (dCons (dB gTuple (dCons (dFrz (dLc [8, 9] (dIterZp (dCons (dVar 2) (dCons (dVar 3) dNil))) (gT (gC (gNm 8) (gC (gNm 9) gN))) dYes (dOp gAdd (dVar 8) (dVar 9)))) dNil)) dNil))) (dRet (dC (.bl false))) dSkip)
    (dSeq (dIfS (dCmpT neS (dB gRepr (dCons (dCall F_row_times (dCons (dVar 1) (dCons (dVar 4) (dCons (dVar 2) dNil)))) dNil)) (dB gRepr (dCons (dB gTuple (dCons (dFrz (dLc [8] (dIter (dVar 2)) (gNm 8) dYes (dOp gMul (dVar 4) (dVar 8)))) dNil)) dNil))) (dRet (dC (.bl false))) dSkip)
    (dSeq (dIfS (dCmpT neS (dB gRepr (dCons (dFrz (dLst (dCons (dCall F_product (dCons (dVar 1) (dCons (dVar 2) (dCons (dVar 3) dNil)))) (dCons (dCall F_lowest (dCons (dVar 1) (dCons (dVar 2) dNil))) dNil)))) dNil)) (dB gRepr (dCons (dFrz (dLst (dCons (dCall F_L_dot (dCons (dVar 2) (dCons (dVar 3) dNil))) (dCons (dCall F_L_lowest (dCons (dVar 2) dNil)) dNil)))) dNil))) (dRet (dC (.bl false))) dSkip)
    (dSeq (dIfS (dOrT (dCmpT neS (dCall F_lowest (dCons (dVar 1) (dCons (dCall F_row_times (dCons (dVar 1) (dCons (dNeg (dC (.int (7)))) (dCons (dVar 2) dNil)))) dNil))) (dCall F_L_lowest (dCons (dVar 2) dNil))) (dCmpT neS (dCall F_product (dCons (dVar 1) (dCons (dVar 3) (dCons (dVar 2) dNil)))) (dCall F_L_dot (dCons (dVar 2) (dCons (dVar 3) dNil))))) (dRet (dC (.bl false))) dSkip)
    (dSeq (dAsg 5 (dCall F_lot_of (dCons (dVar 1) (dCons (dB gTuple (dCons (dFrz (dLc [10] (dRng1 (dCons (dCall F_L_roll (dCons (dVar 0) (dCons (dC (.int (4))) dNil))) dNil)) (gNm 10) dYes (dCall F_L_drawn (dCons (dVar 0) (dCons (dVar 1) dNil))))) dNil)) dNil))))
    (dSeq (dForI (dIter (dFrz (dCallF F_L_near (dCons (dVar 0) (dCons (dVar 1) (dCons (dVar 5) dNil)))))) (gNm 6) (dIfS (dCmpT neS (dB gRepr (dCons (dCall F_is_lot (dCons (dVar 1) (dCons (dVar 6) dNil))) dNil)) (dB gRepr (dCons (dCall F_L_is_lot (dCons (dVar 1) (dCons (dVar 6) dNil))) dNil))) (dRet (dC (.bl false))) dSkip))
    (dSeq (dAsgO 7 (dLst (dCons (dVar 2) (dCons (dFrz (dBF gList (dCons (dVar 2) dNil))) (dCons (dOp gAdd (dVar 2) (dTup (dCons (dC (.int (0))) dNil))) (dCons (dSl (dVar 2) (dPart (dC (.int (1)))) dNo) (dCons (dOp gMul (dTup (dCons (dC .non) dNil)) (dVar 1)) (dCons (dOp gMul (dTup (dCons (dC (.bl true)) dNil)) (dVar 1)) (dCons (dC .non) (dCons (dTup dNil) (dCons (dOp gMul (dTup (dCons (dC (.str "1")) dNil)) (dVar 1)) (dCons (dC (.int (0))) (dCons (dFrz dEmp) dNil)))))))))))))
    (dSeq (dFrzS 7 (dDrop (dM "list" gAppend (dVar 7) (dCons (dOp gAdd (dSl (dVar 2) dNo (dPart (dNeg (dC (.int (1)))))) (dTup (dCons (dOp eqS (dOp gIx (dVar 2) (dNeg (dC (.int (1))))) (dC (.int (1)))) dNil))) dNil))))
    (dRet (dOp eqS (dFrz (dLc [6] (dIter (dVar 7)) (gNm 6) (dCmpT neS (dB gRepr (dCons (dCall F_is_row (dCons (dVar 1) (dCons (dVar 6) dNil))) dNil)) (dB gRepr (dCons (dCall F_L_is_row (dCons (dVar 1) (dCons (dVar 6) dNil))) dNil))) (dVar 6))) (dFrz (dLst dNil)))))))))))))
def F_L_right : FF := runF b_L_right 11
def b_law : FS := (dSeq (dForI (dRng1 (dCons (dB gMax2 (dCons (dC (.int (1))) (dCons (dB gMin2 (dCons (dC (.int (6))) (dCons (dB gLen (dCons (dVar 0) dNil)) dNil))) dNil))) dNil)) (gNm 1) (dSeq (dAsgR 2 (dCallF F_L_dice (dCons (dVar 0) (dCons (dVar 1) dNil))))
    (dForI (dRng1 (dCons (dC (.int (4))) dNil)) (gNm 3) (dIfS (dNotT (dTruth (dCall F_L_right (dCons (dVar 2) (dCons (dOp gAdd (dC (.int (1))) (dCall F_L_roll (dCons (dVar 2) (dCons (dC (.int (7))) dNil)))) dNil))))) (dRet (dC (.bl false))) dSkip))))
    (dSeq (dAsg 4 (dFrz (dLst (dCons (dCall F_lowest (dCons (dC (.int (3))) (dCons (dTup (dCons (dC (.int (0))) (dCons (dNeg (dC (.int (6)))) (dCons (dC (.int (4))) dNil)))) dNil))) (dCons (dCall F_lowest (dCons (dC (.int (2))) (dCons (dTup (dCons (dC (.int (0))) (dCons (dC (.int (0))) dNil))) dNil))) (dCons (dCall F_product (dCons (dC (.int (2))) (dCons (dTup (dCons (dC (.int (2))) (dCons (dNeg (dC (.int (1)))) dNil))) (dCons (dTup (dCons (dC (.int (3))) (dCons (dC (.int (4))) dNil))) dNil)))) (dCons (dCall F_is_lot (dCons (dC (.int (2))) (dCons (dTup (dCons (dTup (dCons (dC (.int (2))) (dCons (dC (.int (4))) dNil))) dNil)) dNil))) (dCons (dCall F_is_lot (dCons (dC (.int (60))) (dCons (dTup dNil) dNil))) dNil))))))))
    (dRet (dOp eqS (dB gRepr (dCons (dVar 4) dNil)) (dB gRepr (dCons (dFrz (dLst (dCons (dTup (dCons (dC (.int (0))) (dCons (dC (.int (3))) (dCons (dNeg (dC (.int (2)))) dNil)))) (dCons (dTup (dCons (dC (.int (0))) (dCons (dC (.int (0))) dNil))) (dCons (dC (.int (2))) (dCons (dC (.bl false)) (dCons (dC (.bl true)) dNil))))))) dNil))))))
def F_law : FF := runF b_law 5
end K13

namespace K13
open PySem PySem.Spec PyProof.Rows L2 DL
def top (i : Nat) : Stmt := PySem.Challenge.pw_anywaybuilt_k13_whole_rows.main.body.getD i (.Pass ⟨0, 0, 0, 0⟩)
structure Glb (mg : Str → Option Value) : Prop where
  b_abs : mg "abs" = none
  b_all : mg "all" = none
  b_any : mg "any" = none
  b_bool : mg "bool" = none
  b_enumerate : mg "enumerate" = none
  b_int : mg "int" = none
  b_isinstance : mg "isinstance" = none
  b_len : mg "len" = none
  b_list : mg "list" = none
  b_max : mg "max" = none
  b_min : mg "min" = none
  b_range : mg "range" = none
  b_repr : mg "repr" = none
  b_set : mg "set" = none
  b_sorted : mg "sorted" = none
  b_sum : mg "sum" = none
  b_tuple : mg "tuple" = none
  b_zip : mg "zip" = none
  c_MAX_WIDTH : ∃ t, mg "MAX_WIDTH" = some (.int (60) t)
section
variable {P : Program} {w : World} {K : PySem.W.Frag} {mg : Str → Option Value} {base : Heap}
theorem sc_is_integer : FnScope ["value"] ["value"] (defScope (top 7)) := ⟨rfl, rfl, rfl, by decide +kernel, rfl, by decide +kernel, by decide +kernel⟩
theorem ok_is_integer {f : Addr} {fd : FuncData} (T : Glb mg) (F : Fun K "is_integer" "is_integer" (top 7) f fd) (hm : mg "is_integer" = some (.ref f)) (hb : Binds K fd ["value"] []) : FnD P w K mg base "is_integer" 1 1 F_is_integer := by
  refine fnD (k := 0) F hm hb sc_is_integer F_is_integer fun cdv A outer s H E hr hgu ds μ hl hG => ⟨b_is_integer, ?_, rfl⟩
  have hu := room_u hr
  exact (sd_one (sd_ret (pd_and (pd_b bi_isi (by rfl) T.b_isinstance rfl (pa_c (pd_var 0 (pv 0)) (pa_c (pd_bltT (by rfl) T.b_int rfl) pa_n))) (pd_one (pd_not (pd_b bi_isi (by rfl) T.b_isinstance rfl (pa_c (pd_var 0 (pv 0)) (pa_c (pd_bltT (by rfl) T.b_bool rfl) pa_n))))))))
theorem sc_require_width : FnScope ["width"] ["width"] (defScope (top 8)) := ⟨rfl, rfl, rfl, by decide +kernel, rfl, by decide +kernel, by decide +kernel⟩
theorem ok_require_width {f : Addr} {fd : FuncData} (T : Glb mg) (F : Fun K "require_width" "require_width" (top 8) f fd) (hm : mg "require_width" = some (.ref f)) (hb : Binds K fd ["width"] []) (h_is_integer : FnD P w K mg base "is_integer" 1 1 F_is_integer) : FnD P w K mg base "require_width" 2 1 F_require_width := by
  refine fnD (k := 1) F hm hb sc_require_width F_require_width fun cdv A outer s H E hr hgu ds μ hl hG => ⟨b_require_width, ?_, rfl⟩
  have hu := room_u hr
  exact (sd_one (sd_if (PWD.pt (pw_o (pt_nt (pt_tr (pd_call h_is_integer (hr.mono (by decide)) hgu (by rfl) (pa_c (pd_var 0 (pv 0)) pa_n) (al_c al_n)))) (pw_o1 (pt_nt (DL.pt_chain c_le c_le pd_int (pd_var 0 (pv 0)) (pd_globI (by rfl) T.c_MAX_WIDTH.choose_spec)))))) (sd_one sd_bad) sd_nil))
theorem sc_is_plain_row : FnScope ["width", "value", "one"] ["width", "value"] (defScope (top 9)) := ⟨rfl, rfl, rfl, by decide +kernel, rfl, by decide +kernel, by decide +kernel⟩
theorem ok_is_plain_row {f : Addr} {fd : FuncData} (T : Glb mg) (F : Fun K "is_plain_row" "is_plain_row" (top 9) f fd) (hm : mg "is_plain_row" = some (.ref f)) (hb : Binds K fd ["width", "value"] []) (h_is_integer : FnD P w K mg base "is_integer" 1 1 F_is_integer) : FnD P w K mg base "is_plain_row" 2 2 F_is_plain_row := by
  refine fnD (k := 1) F hm hb sc_is_plain_row F_is_plain_row fun cdv A outer s H E hr hgu ds μ hl hG => ⟨b_is_plain_row, ?_, rfl⟩
  have hu := room_u hr
  exact (sd_one (sd_ret (pd_and (pd_b bi_isi (by rfl) T.b_isinstance rfl (pa_c (pd_var 1 (pv 1)) (pa_c (pd_bltT (by rfl) T.b_tuple rfl) pa_n))) (pd_and (pd_cm (c_eqS hu) (pd_b bi_len (by rfl) T.b_len rfl (pa_c (pd_var 1 (pv 1)) pa_n)) (pd_var 0 (pv 0))) (pd_one (pd_b (bi_all rfl) (by rfl) T.b_all rfl (pa_c (pd_f (pf_lc (own := [("one", 2)]) rfl sc_is_plain_row.nd (by kernel_rfl) (id_seq (pd_var 1 (pv 1))) (fun b => (gd_name (pg_name (i := 2) sc_is_plain_row.nd rfl (by first | exact Or.inl rfl | exact Or.inr rfl)))) (fun b => td_nil) (fun b => (pd_call h_is_integer (hr.mono (by decide)) hgu (by rfl) (pa_c (pd_var 2 (pv 2)) pa_n) (al_c al_n))))) pa_n)))))))
theorem sc_lead_in : FnScope ["row", "index", "number"] ["row"] (defScope (top 10)) := ⟨rfl, rfl, rfl, by decide +kernel, rfl, by decide +kernel, by decide +kernel⟩
theorem ok_lead_in {f : Addr} {fd : FuncData} (T : Glb mg) (F : Fun K "lead_in" "lead_in" (top 10) f fd) (hm : mg "lead_in" = some (.ref f)) (hb : Binds K fd ["row"] []) : FnD P w K mg base "lead_in" 1 1 F_lead_in := by
  refine fnD (k := 0) F hm hb sc_lead_in F_lead_in fun cdv A outer s H E hr hgu ds μ hl hG => ⟨b_lead_in, ?_, rfl⟩
  have hu := room_u hr
  exact (sd_cons (sd_for (passes_of rfl) rfl (id_en (pa_c (pd_var 0 (pv 0)) pa_n) (by rfl) T.b_enumerate) (gd_tup rfl (gd_cons (gd_name (pg_name (i := 1) sc_lead_in.nd rfl (by first | exact Or.inl rfl | exact Or.inr rfl))) (gd_cons (gd_name (pg_name (i := 2) sc_lead_in.nd rfl (by first | exact Or.inl rfl | exact Or.inr rfl))) gd_nil))) (sd_one (sd_if (pt_cm (c_neS hu) (pd_var 2 (pv 2)) pd_int) (sd_one (sd_ret (pd_var 1 (pv 1)))) sd_nil)))
    (sd_one (sd_ret pd_non)))
theorem sc_common_share : FnScope ["one", "other"] ["one", "other"] (defScope (top 11)) := ⟨rfl, rfl, rfl, by decide +kernel, rfl, by decide +kernel, by decide +kernel⟩
theorem ok_common_share {f : Addr} {fd : FuncData} (T : Glb mg) (F : Fun K "common_share" "common_share" (top 11) f fd) (hm : mg "common_share" = some (.ref f)) (hb : Binds K fd ["one", "other"] []) : FnD P w K mg base "common_share" 1 2 F_common_share := by
  refine fnD (k := 0) F hm hb sc_common_share F_common_share fun cdv A outer s H E hr hgu ds μ hl hG => ⟨b_common_share (fu0_common_share ds μ), ?_, rfl⟩
  have hu := room_u hr
  exact (sd_cons (sd_while (fu0_common_share ds μ) (passes_of rfl) (pt_cm (c_neS hu) (pd_var 1 (pv 1)) pd_int) (sd_one (sd_par (fun ta h => ps_par (i := 0) (j := 1) rfl sc_common_share.nd rfl rfl (by decide) rfl rfl h (by rfl)) (pa_c (pd_var 1 (pv 1)) (pa_c (pd_mod (pd_var 0 (pv 0)) (pd_var 1 (pv 1))) pa_n)))))
    (sd_one (sd_ret (pd_b bi_abs (by rfl) T.b_abs rfl (pa_c (pd_var 0 (pv 0)) pa_n)))))
theorem sc_lowest_row : FnScope ["row", "share", "number"] ["row"] (defScope (top 12)) := ⟨rfl, rfl, rfl, by decide +kernel, rfl, by decide +kernel, by decide +kernel⟩
theorem ok_lowest_row {f : Addr} {fd : FuncData} (T : Glb mg) (F : Fun K "lowest_row" "lowest_row" (top 12) f fd) (hm : mg "lowest_row" = some (.ref f)) (hb : Binds K fd ["row"] []) (h_lead_in : FnD P w K mg base "lead_in" 1 1 F_lead_in) (h_common_share : FnD P w K mg base "common_share" 1 2 F_common_share) : FnD P w K mg base "lowest_row" 2 1 F_lowest_row := by
  refine fnD (k := 1) F hm hb sc_lowest_row F_lowest_row fun cdv A outer s H E hr hgu ds μ hl hG => ⟨b_lowest_row, ?_, rfl⟩
  have hu := room_u hr
  exact (sd_cons (sd_asg (fun te h => ps_set (i := 1) sc_lowest_row.nd rfl (by first | exact Or.inl rfl | exact Or.inr rfl) h) pd_int)
    (sd_cons (sd_for (passes_of rfl) rfl (id_seq (pd_var 0 (pv 0))) (gd_name (pg_name (i := 2) sc_lowest_row.nd rfl (by first | exact Or.inl rfl | exact Or.inr rfl))) (sd_one (sd_asg (fun te h => ps_set (i := 1) sc_lowest_row.nd rfl (by first | exact Or.inl rfl | exact Or.inr rfl) h) (pd_call h_common_share (hr.mono (by decide)) hgu (by rfl) (pa_c (pd_var 1 (pv 1)) (pa_c (pd_var 2 (pv 2)) pa_n)) (al_c (al_c al_n))))))
    (sd_cons (sd_if (pt_cm (c_eqS hu) (pd_var 1 (pv 1)) pd_int) (sd_one (sd_ret (pd_ty bi_tuple (by rfl) T.b_tuple rfl (pa_c (pd_var 0 (pv 0)) pa_n)))) sd_nil)
    (sd_cons (sd_if (pt_cm c_lt (pd_ix (pd_var 0 (pv 0)) (pd_call h_lead_in (hr.mono (by decide)) hgu (by rfl) (pa_c (pd_var 0 (pv 0)) pa_n) (al_c al_n))) pd_int) (sd_one (sd_asg (fun te h => ps_set (i := 1) sc_lowest_row.nd rfl (by first | exact Or.inl rfl | exact Or.inr rfl) h) (pd_sub pd_int (pd_var 1 (pv 1))))) sd_nil)
    (sd_one (sd_ret (pd_ty bi_tuple (by rfl) T.b_tuple rfl (pa_c (pd_f (pf_lc (own := [("number", 2)]) rfl sc_lowest_row.nd (by kernel_rfl) (id_seq (pd_var 0 (pv 0))) (fun b => (gd_name (pg_name (i := 2) sc_lowest_row.nd rfl (by first | exact Or.inl rfl | exact Or.inr rfl)))) (fun b => td_nil) (fun b => (pd_fdiv (pd_var 2 (pv 2)) (pd_var 1 (pv 1)))))) pa_n))))))))
theorem sc_is_plain_lot : FnScope ["width", "value", "row", "ahead", "place", "index", "at", "other"] ["width", "value"] (defScope (top 13)) := ⟨rfl, rfl, rfl, by decide +kernel, rfl, by decide +kernel, by decide +kernel⟩
theorem ok_is_plain_lot {f : Addr} {fd : FuncData} (T : Glb mg) (F : Fun K "is_plain_lot" "is_plain_lot" (top 13) f fd) (hm : mg "is_plain_lot" = some (.ref f)) (hb : Binds K fd ["width", "value"] []) (h_is_plain_row : FnD P w K mg base "is_plain_row" 2 2 F_is_plain_row) (h_lead_in : FnD P w K mg base "lead_in" 1 1 F_lead_in) (h_lowest_row : FnD P w K mg base "lowest_row" 2 1 F_lowest_row) : FnD P w K mg base "is_plain_lot" 3 2 F_is_plain_lot := by
  refine fnD (k := 2) F hm hb sc_is_plain_lot F_is_plain_lot fun cdv A outer s H E hr hgu ds μ hl hG => ⟨b_is_plain_lot, ?_, rfl⟩
  have hu := room_u hr
  exact (sd_cons (sd_if (PWD.pt (pw_o (pt_nt (pt_tr (pd_b bi_isi (by rfl) T.b_isinstance rfl (pa_c (pd_var 1 (pv 1)) (pa_c (pd_bltT (by rfl) T.b_tuple rfl) pa_n))))) (pw_o1 (pt_nt (pt_tr (pd_b (bi_all rfl) (by rfl) T.b_all rfl (pa_c (pd_f (pf_lc (own := [("row", 2)]) rfl sc_is_plain_lot.nd (by kernel_rfl) (id_seq (pd_var 1 (pv 1))) (fun b => (gd_name (pg_name (i := 2) sc_is_plain_lot.nd rfl (by first | exact Or.inl rfl | exact Or.inr rfl)))) (fun b => td_nil) (fun b => (pd_call h_is_plain_row (hr.mono (by decide)) hgu (by rfl) (pa_c (pd_var 0 (pv 0)) (pa_c (pd_var 2 (pv 2)) pa_n)) (al_c (al_c al_n)))))) pa_n))))))) (sd_one (sd_ret pd_bl)) sd_nil)
    (sd_cons (sd_asg (fun te h => ps_set (i := 3) sc_is_plain_lot.nd rfl (by first | exact Or.inl rfl | exact Or.inr rfl) h) (pd_neg pd_int))
    (sd_cons (sd_for (passes_of rfl) rfl (id_en (pa_c (pd_var 1 (pv 1)) pa_n) (by rfl) T.b_enumerate) (gd_tup rfl (gd_cons (gd_name (pg_name (i := 4) sc_is_plain_lot.nd rfl (by first | exact Or.inl rfl | exact Or.inr rfl))) (gd_cons (gd_name (pg_name (i := 2) sc_is_plain_lot.nd rfl (by first | exact Or.inl rfl | exact Or.inr rfl))) gd_nil))) (sd_cons (sd_asg (fun te h => ps_set (i := 5) sc_is_plain_lot.nd rfl (by first | exact Or.inl rfl | exact Or.inr rfl) h) (pd_call h_lead_in (hr.mono (by decide)) hgu (by rfl) (pa_c (pd_var 2 (pv 2)) pa_n) (al_c al_n)))
    (sd_cons (sd_if (PWD.pt (pw_o (pt_cm c_is (pd_var 5 (pv 5)) pd_non) (pw_o (pt_cm c_le (pd_var 5 (pv 5)) (pd_var 3 (pv 3))) (pw_o1 (pt_cm (c_neS hu) (pd_call h_lowest_row (hr.mono (by decide)) hgu (by rfl) (pa_c (pd_var 2 (pv 2)) pa_n) (al_c al_n)) (pd_var 2 (pv 2))))))) (sd_one (sd_ret pd_bl)) sd_nil)
    (sd_cons (sd_if (pt_tr (pd_b (bi_any rfl) (by rfl) T.b_any rfl (pa_c (pd_f (pf_lc (own := [("at", 6), ("other", 7)]) rfl sc_is_plain_lot.nd (by kernel_rfl) (id_en (pa_c (pd_var 1 (pv 1)) pa_n) (by rfl) T.b_enumerate) (fun b => (gd_tup rfl (gd_cons (gd_name (pg_name (i := 6) sc_is_plain_lot.nd rfl (by first | exact Or.inl rfl | exact Or.inr rfl))) (gd_cons (gd_name (pg_name (i := 7) sc_is_plain_lot.nd rfl (by first | exact Or.inl rfl | exact Or.inr rfl))) gd_nil)))) (fun b => (td_one (pt_cm (c_neS hu) (pd_var 6 (pv 6)) (pd_var 4 (pv 4))))) (fun b => (pd_cm (c_neS hu) (pd_ix (pd_var 7 (pv 7)) (pd_var 5 (pv 5))) pd_int)))) pa_n))) (sd_one (sd_ret pd_bl)) sd_nil)
    (sd_one (sd_asg (fun te h => ps_set (i := 3) sc_is_plain_lot.nd rfl (by first | exact Or.inl rfl | exact Or.inr rfl) h) (pd_var 5 (pv 5))))))))
    (sd_one (sd_ret pd_bl)))))
theorem sc_dot : FnScope ["one", "other", "left", "right"] ["one", "other"] (defScope (top 14)) := ⟨rfl, rfl, rfl, by decide +kernel, rfl, by decide +kernel, by decide +kernel⟩
theorem ok_dot {f : Addr} {fd : FuncData} (T : Glb mg) (F : Fun K "dot" "dot" (top 14) f fd) (hm : mg "dot" = some (.ref f)) (hb : Binds K fd ["one", "other"] []) : FnD P w K mg base "dot" 1 2 F_dot := by
  refine fnD (k := 0) F hm hb sc_dot F_dot fun cdv A outer s H E hr hgu ds μ hl hG => ⟨b_dot, ?_, rfl⟩
  have hu := room_u hr
  exact (sd_one (sd_ret (pd_b (bi_sum rfl) (by rfl) T.b_sum rfl (pa_c (pd_f (pf_lc (own := [("left", 2), ("right", 3)]) rfl sc_dot.nd (by kernel_rfl) (id_zp (pa_c (pd_var 0 (pv 0)) (pa_c (pd_var 1 (pv 1)) pa_n)) (by rfl) T.b_zip) (fun b => (gd_tup rfl (gd_cons (gd_name (pg_name (i := 2) sc_dot.nd rfl (by first | exact Or.inl rfl | exact Or.inr rfl))) (gd_cons (gd_name (pg_name (i := 3) sc_dot.nd rfl (by first | exact Or.inl rfl | exact Or.inr rfl))) gd_nil)))) (fun b => td_nil) (fun b => (pd_mul (pd_var 2 (pv 2)) (pd_var 3 (pv 3)))))) pa_n))))
theorem sc_sum_of_rows : FnScope ["one", "other", "left", "right"] ["one", "other"] (defScope (top 15)) := ⟨rfl, rfl, rfl, by decide +kernel, rfl, by decide +kernel, by decide +kernel⟩
theorem ok_sum_of_rows {f : Addr} {fd : FuncData} (T : Glb mg) (F : Fun K "sum_of_rows" "sum_of_rows" (top 15) f fd) (hm : mg "sum_of_rows" = some (.ref f)) (hb : Binds K fd ["one", "other"] []) : FnD P w K mg base "sum_of_rows" 1 2 F_sum_of_rows := by
  refine fnD (k := 0) F hm hb sc_sum_of_rows F_sum_of_rows fun cdv A outer s H E hr hgu ds μ hl hG => ⟨b_sum_of_rows, ?_, rfl⟩
  have hu := room_u hr
  exact (sd_one (sd_ret (pd_ty bi_tuple (by rfl) T.b_tuple rfl (pa_c (pd_f (pf_lc (own := [("left", 2), ("right", 3)]) rfl sc_sum_of_rows.nd (by kernel_rfl) (id_zp (pa_c (pd_var 0 (pv 0)) (pa_c (pd_var 1 (pv 1)) pa_n)) (by rfl) T.b_zip) (fun b => (gd_tup rfl (gd_cons (gd_name (pg_name (i := 2) sc_sum_of_rows.nd rfl (by first | exact Or.inl rfl | exact Or.inr rfl))) (gd_cons (gd_name (pg_name (i := 3) sc_sum_of_rows.nd rfl (by first | exact Or.inl rfl | exact Or.inr rfl))) gd_nil)))) (fun b => td_nil) (fun b => (pd_add (pd_var 2 (pv 2)) (pd_var 3 (pv 3)))))) pa_n))))
theorem sc_times_row : FnScope ["number", "row", "one"] ["number", "row"] (defScope (top 16)) := ⟨rfl, rfl, rfl, by decide +kernel, rfl, by decide +kernel, by decide +kernel⟩
theorem ok_times_row {f : Addr} {fd : FuncData} (T : Glb mg) (F : Fun K "times_row" "times_row" (top 16) f fd) (hm : mg "times_row" = some (.ref f)) (hb : Binds K fd ["number", "row"] []) : FnD P w K mg base "times_row" 1 2 F_times_row := by
  refine fnD (k := 0) F hm hb sc_times_row F_times_row fun cdv A outer s H E hr hgu ds μ hl hG => ⟨b_times_row, ?_, rfl⟩
  have hu := room_u hr
  exact (sd_one (sd_ret (pd_ty bi_tuple (by rfl) T.b_tuple rfl (pa_c (pd_f (pf_lc (own := [("one", 2)]) rfl sc_times_row.nd (by kernel_rfl) (id_seq (pd_var 1 (pv 1))) (fun b => (gd_name (pg_name (i := 2) sc_times_row.nd rfl (by first | exact Or.inl rfl | exact Or.inr rfl)))) (fun b => td_nil) (fun b => (pd_mul (pd_var 0 (pv 0)) (pd_var 2 (pv 2)))))) pa_n))))
theorem sc_less_by : FnScope ["row", "other", "index", "one", "two"] ["row", "other"] (defScope (top 17)) := ⟨rfl, rfl, rfl, by decide +kernel, rfl, by decide +kernel, by decide +kernel⟩
theorem ok_less_by {f : Addr} {fd : FuncData} (T : Glb mg) (F : Fun K "less_by" "less_by" (top 17) f fd) (hm : mg "less_by" = some (.ref f)) (hb : Binds K fd ["row", "other"] []) (h_lead_in : FnD P w K mg base "lead_in" 1 1 F_lead_in) : FnD P w K mg base "less_by" 2 2 F_less_by := by
  refine fnD (k := 1) F hm hb sc_less_by F_less_by fun cdv A outer s H E hr hgu ds μ hl hG => ⟨b_less_by, ?_, rfl⟩
  have hu := room_u hr
  exact (sd_cons (sd_asg (fun te h => ps_set (i := 2) sc_less_by.nd rfl (by first | exact Or.inl rfl | exact Or.inr rfl) h) (pd_call h_lead_in (hr.mono (by decide)) hgu (by rfl) (pa_c (pd_var 1 (pv 1)) pa_n) (al_c al_n)))
    (sd_cons (sd_if (pt_cm (c_eqS hu) (pd_ix (pd_var 0 (pv 0)) (pd_var 2 (pv 2))) pd_int) (sd_one (sd_ret (pd_var 0 (pv 0)))) sd_nil)
    (sd_one (sd_ret (pd_ty bi_tuple (by rfl) T.b_tuple rfl (pa_c (pd_f (pf_lc (own := [("one", 3), ("two", 4)]) rfl sc_less_by.nd (by kernel_rfl) (id_zp (pa_c (pd_var 0 (pv 0)) (pa_c (pd_var 1 (pv 1)) pa_n)) (by rfl) T.b_zip) (fun b => (gd_tup rfl (gd_cons (gd_name (pg_name (i := 3) sc_less_by.nd rfl (by first | exact Or.inl rfl | exact Or.inr rfl))) (gd_cons (gd_name (pg_name (i := 4) sc_less_by.nd rfl (by first | exact Or.inl rfl | exact Or.inr rfl))) gd_nil)))) (fun b => td_nil) (fun b => (pd_sub (pd_mul (pd_ix (pd_var 1 (pv 1)) (pd_var 2 (pv 2))) (pd_var 3 (pv 3))) (pd_mul (pd_ix (pd_var 0 (pv 0)) (pd_var 2 (pv 2))) (pd_var 4 (pv 4))))))) pa_n))))))
theorem sc_rest_by : FnScope ["lot", "row", "other"] ["lot", "row"] (defScope (top 18)) := ⟨rfl, rfl, rfl, by decide +kernel, rfl, by decide +kernel, by decide +kernel⟩
theorem ok_rest_by {f : Addr} {fd : FuncData} (T : Glb mg) (F : Fun K "rest_by" "rest_by" (top 18) f fd) (hm : mg "rest_by" = some (.ref f)) (hb : Binds K fd ["lot", "row"] []) (h_less_by : FnD P w K mg base "less_by" 2 2 F_less_by) : FnD P w K mg base "rest_by" 3 2 F_rest_by := by
  refine fnD (k := 2) F hm hb sc_rest_by F_rest_by fun cdv A outer s H E hr hgu ds μ hl hG => ⟨b_rest_by, ?_, rfl⟩
  have hu := room_u hr
  exact (sd_cons (sd_for (passes_of rfl) rfl (id_seq (pd_var 0 (pv 0))) (gd_name (pg_name (i := 2) sc_rest_by.nd rfl (by first | exact Or.inl rfl | exact Or.inr rfl))) (sd_one (sd_asg (fun te h => ps_set (i := 1) sc_rest_by.nd rfl (by first | exact Or.inl rfl | exact Or.inr rfl) h) (pd_call h_less_by (hr.mono (by decide)) hgu (by rfl) (pa_c (pd_var 1 (pv 1)) (pa_c (pd_var 2 (pv 2)) pa_n)) (al_c (al_c al_n))))))
    (sd_one (sd_ret (pd_var 1 (pv 1)))))
theorem sc_with_row : FnScope ["lot", "row", "left", "found", "other"] ["lot", "row"] (defScope (top 19)) := ⟨rfl, rfl, rfl, by decide +kernel, rfl, by decide +kernel, by decide +kernel⟩
theorem ok_with_row {f : Addr} {fd : FuncData} (T : Glb mg) (F : Fun K "with_row" "with_row" (top 19) f fd) (hm : mg "with_row" = some (.ref f)) (hb : Binds K fd ["lot", "row"] []) (h_lead_in : FnD P w K mg base "lead_in" 1 1 F_lead_in) (h_lowest_row : FnD P w K mg base "lowest_row" 2 1 F_lowest_row) (h_less_by : FnD P w K mg base "less_by" 2 2 F_less_by) (h_rest_by : FnD P w K mg base "rest_by" 3 2 F_rest_by) : FnD P w K mg base "with_row" 4 2 F_with_row := by
  refine fnD (k := 3) F hm hb sc_with_row F_with_row fun cdv A outer s H E hr hgu ds μ hl hG => ⟨b_with_row, ?_, rfl⟩
  have hu := room_u hr
  exact (sd_cons (sd_asg (fun te h => ps_set (i := 2) sc_with_row.nd rfl (by first | exact Or.inl rfl | exact Or.inr rfl) h) (pd_call h_lowest_row (hr.mono (by decide)) hgu (by rfl) (pa_c (pd_call h_rest_by (hr.mono (by decide)) hgu (by rfl) (pa_c (pd_var 0 (pv 0)) (pa_c (pd_var 1 (pv 1)) pa_n)) (al_c (al_c al_n))) pa_n) (al_c al_n)))
    (sd_cons (sd_if (pt_cm c_is (pd_call h_lead_in (hr.mono (by decide)) hgu (by rfl) (pa_c (pd_var 2 (pv 2)) pa_n) (al_c al_n)) pd_non) (sd_one (sd_ret (pd_var 0 (pv 0)))) sd_nil)
    (sd_cons (sd_asg (fun te h => ps_set (i := 3) sc_with_row.nd rfl (by first | exact Or.inl rfl | exact Or.inr rfl) h) (pd_add (pd_f (pf_lc (own := [("other", 4)]) rfl sc_with_row.nd (by kernel_rfl) (id_seq (pd_var 0 (pv 0))) (fun b => (gd_name (pg_name (i := 4) sc_with_row.nd rfl (by first | exact Or.inl rfl | exact Or.inr rfl)))) (fun b => td_nil) (fun b => (pd_call h_lowest_row (hr.mono (by decide)) hgu (by rfl) (pa_c (pd_call h_less_by (hr.mono (by decide)) hgu (by rfl) (pa_c (pd_var 4 (pv 4)) (pa_c (pd_var 2 (pv 2)) pa_n)) (al_c (al_c al_n))) pa_n) (al_c al_n))))) (pd_f (pf_lst (pa_c (pd_var 2 (pv 2)) pa_n)))))
    (sd_one (sd_ret (pd_ty bi_tuple (by rfl) T.b_tuple rfl (pa_c (pd_f (pf_sortKey h_lead_in (hr.mono (by decide)) hgu (by rfl) (by rfl) T.b_sorted (pd_var 3 (pv 3)))) pa_n)))))))
theorem sc_lot_in : FnScope ["rows", "lot", "row"] ["rows"] (defScope (top 20)) := ⟨rfl, rfl, rfl, by decide +kernel, rfl, by decide +kernel, by decide +kernel⟩
theorem ok_lot_in {f : Addr} {fd : FuncData} (T : Glb mg) (F : Fun K "lot_in" "lot_in" (top 20) f fd) (hm : mg "lot_in" = some (.ref f)) (hb : Binds K fd ["rows"] []) (h_with_row : FnD P w K mg base "with_row" 4 2 F_with_row) : FnD P w K mg base "lot_in" 5 1 F_lot_in := by
  refine fnD (k := 4) F hm hb sc_lot_in F_lot_in fun cdv A outer s H E hr hgu ds μ hl hG => ⟨b_lot_in, ?_, rfl⟩
  have hu := room_u hr
  exact (sd_cons (sd_asg (fun te h => ps_set (i := 1) sc_lot_in.nd rfl (by first | exact Or.inl rfl | exact Or.inr rfl) h) (pd_tup pa_n))
    (sd_cons (sd_for (passes_of rfl) rfl (id_seq (pd_var 0 (pv 0))) (gd_name (pg_name (i := 2) sc_lot_in.nd rfl (by first | exact Or.inl rfl | exact Or.inr rfl))) (sd_one (sd_asg (fun te h => ps_set (i := 1) sc_lot_in.nd rfl (by first | exact Or.inl rfl | exact Or.inr rfl) h) (pd_call h_with_row (hr.mono (by decide)) hgu (by rfl) (pa_c (pd_var 1 (pv 1)) (pa_c (pd_var 2 (pv 2)) pa_n)) (al_c (al_c al_n))))))
    (sd_one (sd_ret (pd_var 1 (pv 1))))))
theorem sc_is_row : FnScope ["width", "value"] ["width", "value"] (defScope (top 21)) := ⟨rfl, rfl, rfl, by decide +kernel, rfl, by decide +kernel, by decide +kernel⟩
theorem ok_is_row {f : Addr} {fd : FuncData} (T : Glb mg) (F : Fun K "is_row" "is_row" (top 21) f fd) (hm : mg "is_row" = some (.ref f)) (hb : Binds K fd ["width", "value"] []) (h_require_width : FnD P w K mg base "require_width" 2 1 F_require_width) (h_is_plain_row : FnD P w K mg base "is_plain_row" 2 2 F_is_plain_row) : FnD P w K mg base "is_row" 3 2 F_is_row := by
  refine fnD (k := 2) F hm hb sc_is_row F_is_row fun cdv A outer s H E hr hgu ds μ hl hG => ⟨b_is_row, ?_, rfl⟩
  have hu := room_u hr
  exact (sd_cons (sd_drop (pd_call h_require_width (hr.mono (by decide)) hgu (by rfl) (pa_c (pd_var 0 (pv 0)) pa_n) (al_c al_n)))
    (sd_one (sd_ret (pd_call h_is_plain_row (hr.mono (by decide)) hgu (by rfl) (pa_c (pd_var 0 (pv 0)) (pa_c (pd_var 1 (pv 1)) pa_n)) (al_c (al_c al_n))))))
theorem sc_is_lot : FnScope ["width", "value"] ["width", "value"] (defScope (top 22)) := ⟨rfl, rfl, rfl, by decide +kernel, rfl, by decide +kernel, by decide +kernel⟩
theorem ok_is_lot {f : Addr} {fd : FuncData} (T : Glb mg) (F : Fun K "is_lot" "is_lot" (top 22) f fd) (hm : mg "is_lot" = some (.ref f)) (hb : Binds K fd ["width", "value"] []) (h_require_width : FnD P w K mg base "require_width" 2 1 F_require_width) (h_is_plain_lot : FnD P w K mg base "is_plain_lot" 3 2 F_is_plain_lot) : FnD P w K mg base "is_lot" 4 2 F_is_lot := by
  refine fnD (k := 3) F hm hb sc_is_lot F_is_lot fun cdv A outer s H E hr hgu ds μ hl hG => ⟨b_is_lot, ?_, rfl⟩
  have hu := room_u hr
  exact (sd_cons (sd_drop (pd_call h_require_width (hr.mono (by decide)) hgu (by rfl) (pa_c (pd_var 0 (pv 0)) pa_n) (al_c al_n)))
    (sd_one (sd_ret (pd_call h_is_plain_lot (hr.mono (by decide)) hgu (by rfl) (pa_c (pd_var 0 (pv 0)) (pa_c (pd_var 1 (pv 1)) pa_n)) (al_c (al_c al_n))))))
theorem sc_require_row : FnScope ["width", "row"] ["width", "row"] (defScope (top 23)) := ⟨rfl, rfl, rfl, by decide +kernel, rfl, by decide +kernel, by decide +kernel⟩
theorem ok_require_row {f : Addr} {fd : FuncData} (T : Glb mg) (F : Fun K "require_row" "require_row" (top 23) f fd) (hm : mg "require_row" = some (.ref f)) (hb : Binds K fd ["width", "row"] []) (h_is_plain_row : FnD P w K mg base "is_plain_row" 2 2 F_is_plain_row) : FnD P w K mg base "require_row" 3 2 F_require_row := by
  refine fnD (k := 2) F hm hb sc_require_row F_require_row fun cdv A outer s H E hr hgu ds μ hl hG => ⟨b_require_row, ?_, rfl⟩
  have hu := room_u hr
  exact (sd_one (sd_if (pt_nt (pt_tr (pd_call h_is_plain_row (hr.mono (by decide)) hgu (by rfl) (pa_c (pd_var 0 (pv 0)) (pa_c (pd_var 1 (pv 1)) pa_n)) (al_c (al_c al_n))))) (sd_one sd_bad) sd_nil))
theorem sc_require_rows : FnScope ["width", "rows", "row"] ["width", "rows"] (defScope (top 24)) := ⟨rfl, rfl, rfl, by decide +kernel, rfl, by decide +kernel, by decide +kernel⟩
theorem ok_require_rows {f : Addr} {fd : FuncData} (T : Glb mg) (F : Fun K "require_rows" "require_rows" (top 24) f fd) (hm : mg "require_rows" = some (.ref f)) (hb : Binds K fd ["width", "rows"] []) (h_is_plain_row : FnD P w K mg base "is_plain_row" 2 2 F_is_plain_row) : FnD P w K mg base "require_rows" 3 2 F_require_rows := by
  refine fnD (k := 2) F hm hb sc_require_rows F_require_rows fun cdv A outer s H E hr hgu ds μ hl hG => ⟨b_require_rows, ?_, rfl⟩
  have hu := room_u hr
  exact (sd_one (sd_if (PWD.pt (pw_o (pt_nt (pt_tr (pd_b bi_isi (by rfl) T.b_isinstance rfl (pa_c (pd_var 1 (pv 1)) (pa_c (pd_bltT (by rfl) T.b_tuple rfl) pa_n))))) (pw_o1 (pt_nt (pt_tr (pd_b (bi_all rfl) (by rfl) T.b_all rfl (pa_c (pd_f (pf_lc (own := [("row", 2)]) rfl sc_require_rows.nd (by kernel_rfl) (id_seq (pd_var 1 (pv 1))) (fun b => (gd_name (pg_name (i := 2) sc_require_rows.nd rfl (by first | exact Or.inl rfl | exact Or.inr rfl)))) (fun b => td_nil) (fun b => (pd_call h_is_plain_row (hr.mono (by decide)) hgu (by rfl) (pa_c (pd_var 0 (pv 0)) (pa_c (pd_var 2 (pv 2)) pa_n)) (al_c (al_c al_n)))))) pa_n))))))) (sd_one sd_bad) sd_nil))
theorem sc_row_plus : FnScope ["width", "one", "other"] ["width", "one", "other"] (defScope (top 25)) := ⟨rfl, rfl, rfl, by decide +kernel, rfl, by decide +kernel, by decide +kernel⟩
theorem ok_row_plus {f : Addr} {fd : FuncData} (T : Glb mg) (F : Fun K "row_plus" "row_plus" (top 25) f fd) (hm : mg "row_plus" = some (.ref f)) (hb : Binds K fd ["width", "one", "other"] []) (h_require_width : FnD P w K mg base "require_width" 2 1 F_require_width) (h_sum_of_rows : FnD P w K mg base "sum_of_rows" 1 2 F_sum_of_rows) (h_require_row : FnD P w K mg base "require_row" 3 2 F_require_row) : FnD P w K mg base "row_plus" 4 3 F_row_plus := by
  refine fnD (k := 3) F hm hb sc_row_plus F_row_plus fun cdv A outer s H E hr hgu ds μ hl hG => ⟨b_row_plus, ?_, rfl⟩
  have hu := room_u hr
  exact (sd_cons (sd_drop (pd_call h_require_width (hr.mono (by decide)) hgu (by rfl) (pa_c (pd_var 0 (pv 0)) pa_n) (al_c al_n)))
    (sd_cons (sd_drop (pd_call h_require_row (hr.mono (by decide)) hgu (by rfl) (pa_c (pd_var 0 (pv 0)) (pa_c (pd_var 1 (pv 1)) pa_n)) (al_c (al_c al_n))))
    (sd_cons (sd_drop (pd_call h_require_row (hr.mono (by decide)) hgu (by rfl) (pa_c (pd_var 0 (pv 0)) (pa_c (pd_var 2 (pv 2)) pa_n)) (al_c (al_c al_n))))
    (sd_one (sd_ret (pd_call h_sum_of_rows (hr.mono (by decide)) hgu (by rfl) (pa_c (pd_var 1 (pv 1)) (pa_c (pd_var 2 (pv 2)) pa_n)) (al_c (al_c al_n))))))))
theorem sc_row_times : FnScope ["width", "number", "row"] ["width", "number", "row"] (defScope (top 26)) := ⟨rfl, rfl, rfl, by decide +kernel, rfl, by decide +kernel, by decide +kernel⟩
theorem ok_row_times {f : Addr} {fd : FuncData} (T : Glb mg) (F : Fun K "row_times" "row_times" (top 26) f fd) (hm : mg "row_times" = some (.ref f)) (hb : Binds K fd ["width", "number", "row"] []) (h_is_integer : FnD P w K mg base "is_integer" 1 1 F_is_integer) (h_require_width : FnD P w K mg base "require_width" 2 1 F_require_width) (h_times_row : FnD P w K mg base "times_row" 1 2 F_times_row) (h_require_row : FnD P w K mg base "require_row" 3 2 F_require_row) : FnD P w K mg base "row_times" 4 3 F_row_times := by
  refine fnD (k := 3) F hm hb sc_row_times F_row_times fun cdv A outer s H E hr hgu ds μ hl hG => ⟨b_row_times, ?_, rfl⟩
  have hu := room_u hr
  exact (sd_cons (sd_drop (pd_call h_require_width (hr.mono (by decide)) hgu (by rfl) (pa_c (pd_var 0 (pv 0)) pa_n) (al_c al_n)))
    (sd_cons (sd_if (pt_nt (pt_tr (pd_call h_is_integer (hr.mono (by decide)) hgu (by rfl) (pa_c (pd_var 1 (pv 1)) pa_n) (al_c al_n)))) (sd_one sd_bad) sd_nil)
    (sd_cons (sd_drop (pd_call h_require_row (hr.mono (by decide)) hgu (by rfl) (pa_c (pd_var 0 (pv 0)) (pa_c (pd_var 2 (pv 2)) pa_n)) (al_c (al_c al_n))))
    (sd_one (sd_ret (pd_call h_times_row (hr.mono (by decide)) hgu (by rfl) (pa_c (pd_var 1 (pv 1)) (pa_c (pd_var 2 (pv 2)) pa_n)) (al_c (al_c al_n))))))))
theorem sc_product : FnScope ["width", "one", "other"] ["width", "one", "other"] (defScope (top 27)) := ⟨rfl, rfl, rfl, by decide +kernel, rfl, by decide +kernel, by decide +kernel⟩
theorem ok_product {f : Addr} {fd : FuncData} (T : Glb mg) (F : Fun K "product" "product" (top 27) f fd) (hm : mg "product" = some (.ref f)) (hb : Binds K fd ["width", "one", "other"] []) (h_require_width : FnD P w K mg base "require_width" 2 1 F_require_width) (h_dot : FnD P w K mg base "dot" 1 2 F_dot) (h_require_row : FnD P w K mg base "require_row" 3 2 F_require_row) : FnD P w K mg base "product" 4 3 F_product := by
  refine fnD (k := 3) F hm hb sc_product F_product fun cdv A outer s H E hr hgu ds μ hl hG => ⟨b_product, ?_, rfl⟩
  have hu := room_u hr
  exact (sd_cons (sd_drop (pd_call h_require_width (hr.mono (by decide)) hgu (by rfl) (pa_c (pd_var 0 (pv 0)) pa_n) (al_c al_n)))
    (sd_cons (sd_drop (pd_call h_require_row (hr.mono (by decide)) hgu (by rfl) (pa_c (pd_var 0 (pv 0)) (pa_c (pd_var 1 (pv 1)) pa_n)) (al_c (al_c al_n))))
    (sd_cons (sd_drop (pd_call h_require_row (hr.mono (by decide)) hgu (by rfl) (pa_c (pd_var 0 (pv 0)) (pa_c (pd_var 2 (pv 2)) pa_n)) (al_c (al_c al_n))))
    (sd_one (sd_ret (pd_call h_dot (hr.mono (by decide)) hgu (by rfl) (pa_c (pd_var 1 (pv 1)) (pa_c (pd_var 2 (pv 2)) pa_n)) (al_c (al_c al_n))))))))
theorem sc_lowest : FnScope ["width", "row"] ["width", "row"] (defScope (top 28)) := ⟨rfl, rfl, rfl, by decide +kernel, rfl, by decide +kernel, by decide +kernel⟩
theorem ok_lowest {f : Addr} {fd : FuncData} (T : Glb mg) (F : Fun K "lowest" "lowest" (top 28) f fd) (hm : mg "lowest" = some (.ref f)) (hb : Binds K fd ["width", "row"] []) (h_require_width : FnD P w K mg base "require_width" 2 1 F_require_width) (h_lowest_row : FnD P w K mg base "lowest_row" 2 1 F_lowest_row) (h_require_row : FnD P w K mg base "require_row" 3 2 F_require_row) : FnD P w K mg base "lowest" 4 2 F_lowest := by
  refine fnD (k := 3) F hm hb sc_lowest F_lowest fun cdv A outer s H E hr hgu ds μ hl hG => ⟨b_lowest, ?_, rfl⟩
  have hu := room_u hr
  exact (sd_cons (sd_drop (pd_call h_require_width (hr.mono (by decide)) hgu (by rfl) (pa_c (pd_var 0 (pv 0)) pa_n) (al_c al_n)))
    (sd_cons (sd_drop (pd_call h_require_row (hr.mono (by decide)) hgu (by rfl) (pa_c (pd_var 0 (pv 0)) (pa_c (pd_var 1 (pv 1)) pa_n)) (al_c (al_c al_n))))
    (sd_one (sd_ret (pd_call h_lowest_row (hr.mono (by decide)) hgu (by rfl) (pa_c (pd_var 1 (pv 1)) pa_n) (al_c al_n))))))
theorem sc_lot_of : FnScope ["width", "rows"] ["width", "rows"] (defScope (top 29)) := ⟨rfl, rfl, rfl, by decide +kernel, rfl, by decide +kernel, by decide +kernel⟩
theorem ok_lot_of {f : Addr} {fd : FuncData} (T : Glb mg) (F : Fun K "lot_of" "lot_of" (top 29) f fd) (hm : mg "lot_of" = some (.ref f)) (hb : Binds K fd ["width", "rows"] []) (h_require_width : FnD P w K mg base "require_width" 2 1 F_require_width) (h_lot_in : FnD P w K mg base "lot_in" 5 1 F_lot_in) (h_require_rows : FnD P w K mg base "require_rows" 3 2 F_require_rows) : FnD P w K mg base "lot_of" 6 2 F_lot_of := by
  refine fnD (k := 5) F hm hb sc_lot_of F_lot_of fun cdv A outer s H E hr hgu ds μ hl hG => ⟨b_lot_of, ?_, rfl⟩
  have hu := room_u hr
  exact (sd_cons (sd_drop (pd_call h_require_width (hr.mono (by decide)) hgu (by rfl) (pa_c (pd_var 0 (pv 0)) pa_n) (al_c al_n)))
    (sd_cons (sd_drop (pd_call h_require_rows (hr.mono (by decide)) hgu (by rfl) (pa_c (pd_var 0 (pv 0)) (pa_c (pd_var 1 (pv 1)) pa_n)) (al_c (al_c al_n))))
    (sd_one (sd_ret (pd_call h_lot_in (hr.mono (by decide)) hgu (by rfl) (pa_c (pd_var 1 (pv 1)) pa_n) (al_c al_n))))))
theorem sc_L_dice : FnScope ["script", "spot", "cell", "great", "seed"] ["script", "spot"] (defScope (top 31)) := ⟨rfl, rfl, rfl, by decide +kernel, rfl, by decide +kernel, by decide +kernel⟩
theorem ok_L_dice {f : Addr} {fd : FuncData} (T : Glb mg) (F : Fun K "_law_dice" "_law_dice" (top 31) f fd) (hm : mg "_law_dice" = some (.ref f)) (hb : Binds K fd ["script", "spot"] []) : FnD P w K mg base "_law_dice" 1 2 F_L_dice := by
  refine fnD (k := 0) F hm hb sc_L_dice F_L_dice fun cdv A outer s H E hr hgu ds μ hl hG => ⟨b_L_dice, ?_, rfl⟩
  have hu := room_u hr
  exact (sd_cons (sd_asg (fun te h => ps_set (i := 2) sc_L_dice.nd rfl (by first | exact Or.inl rfl | exact Or.inr rfl) h) (pd_if (pt_cm c_lt (pd_var 1 (pv 1)) (pd_b bi_len (by rfl) T.b_len rfl (pa_c (pd_var 0 (pv 0)) pa_n))) (pd_ty bi_int (by rfl) T.b_int rfl (pa_c (pd_ix (pd_var 0 (pv 0)) (pd_var 1 (pv 1))) pa_n)) (pd_add (pd_mul pd_int (pd_var 1 (pv 1))) pd_int)))
    (sd_cons (sd_asg (fun te h => ps_set (i := 3) sc_L_dice.nd rfl (by first | exact Or.inl rfl | exact Or.inr rfl) h) (pd_mod (pd_ty bi_int (by rfl) T.b_int rfl (pa_c (pd_b bi_abs (by rfl) T.b_abs rfl (pa_c (pd_var 2 (pv 2)) pa_n)) pa_n)) (pd_pow (pd_pow pd_int pd_int) pd_int)))
    (sd_cons (sd_asg (fun te h => ps_set (i := 4) sc_L_dice.nd rfl (by first | exact Or.inl rfl | exact Or.inr rfl) h) (pd_add (pd_add (pd_add (pd_mul (pd_mod (pd_var 3 (pv 3)) pd_int) pd_int) (pd_mul pd_int (pd_var 1 (pv 1)))) (pd_mul pd_int (pd_ty bi_int (by rfl) T.b_int rfl (pa_c (pd_cm c_lt (pd_var 2 (pv 2)) pd_int) pa_n)))) pd_int))
    (sd_one (sd_retF (pf_lst (pa_c (pd_b (bi_max2 rfl) (by rfl) T.b_max rfl (pa_c pd_int (pa_c (pd_sub (pd_var 3 (pv 3)) (pd_pow pd_int pd_int)) pa_n))) (pa_c (pd_var 4 (pv 4)) (pa_c pd_int pa_n)))))))))
theorem sc_L_roll : FnScope ["dice", "total", "found", "one", "two"] ["dice", "total"] (defScope (top 32)) := ⟨rfl, rfl, rfl, by decide +kernel, rfl, by decide +kernel, by decide +kernel⟩
theorem ok_L_roll {f : Addr} {fd : FuncData} (T : Glb mg) (F : Fun K "_law_roll" "_law_roll" (top 32) f fd) (hm : mg "_law_roll" = some (.ref f)) (hb : Binds K fd ["dice", "total"] []) : FnD P w K mg base "_law_roll" 1 2 F_L_roll := by
  refine fnD (k := 0) F hm hb sc_L_roll F_L_roll fun cdv A outer s H E hr hgu ds μ hl hG => ⟨b_L_roll, ?_, rfl⟩
  have hu := room_u hr
  exact (sd_cons (sd_if (pt_cm c_gt (pd_ix (pd_var 0 (pv 0)) pd_int) pd_int) (sd_cons (sd_asg (fun te h => ps_set (i := 2) sc_L_roll.nd rfl (by first | exact Or.inl rfl | exact Or.inr rfl) h) (pd_mod (pd_ix (pd_var 0 (pv 0)) pd_int) (pd_var 1 (pv 1))))
    (sd_cons (sd_setI (fun te t h g => ps_asg h g) set_list ss_list (pd_fdiv (pd_ix (pd_var 0 (pv 0)) pd_int) (pd_var 1 (pv 1))) (pd_var 0 (pv 0)) pd_int)
    (sd_one (sd_ret (pd_ty bi_int (by rfl) T.b_int rfl (pa_c (pd_var 2 (pv 2)) pa_n)))))) sd_nil)
    (sd_cons (sd_setI (fun te t h g => ps_asg h g) set_list ss_list (pd_add (pd_ix (pd_var 0 (pv 0)) pd_int) pd_int) (pd_var 0 (pv 0)) pd_int)
    (sd_cons (sd_asg (fun te h => ps_set (i := 3) sc_L_roll.nd rfl (by first | exact Or.inl rfl | exact Or.inr rfl) h) (pd_mod (pd_add (pd_ix (pd_var 0 (pv 0)) pd_int) (pd_mul pd_int (pd_ix (pd_var 0 (pv 0)) pd_int))) pd_int))
    (sd_cons (sd_asg (fun te h => ps_set (i := 4) sc_L_roll.nd rfl (by first | exact Or.inl rfl | exact Or.inr rfl) h) (pd_add (pd_mul (pd_mod (pd_add (pd_mul (pd_var 3 (pv 3)) (pd_var 3 (pv 3))) (pd_mul pd_int (pd_ix (pd_var 0 (pv 0)) pd_int))) pd_int) pd_int) (pd_var 3 (pv 3))))
    (sd_one (sd_ret (pd_mod (pd_ty bi_int (by rfl) T.b_int rfl (pa_c (pd_fdiv (pd_var 4 (pv 4)) pd_int) pa_n)) (pd_var 1 (pv 1)))))))))
theorem sc_L_pick : FnScope ["dice", "items"] ["dice", "items"] (defScope (top 33)) := ⟨rfl, rfl, rfl, by decide +kernel, rfl, by decide +kernel, by decide +kernel⟩
theorem ok_L_pick {f : Addr} {fd : FuncData} (T : Glb mg) (F : Fun K "_law_pick" "_law_pick" (top 33) f fd) (hm : mg "_law_pick" = some (.ref f)) (hb : Binds K fd ["dice", "items"] []) (h_L_roll : FnD P w K mg base "_law_roll" 1 2 F_L_roll) : FnD P w K mg base "_law_pick" 2 2 F_L_pick := by
  refine fnD (k := 1) F hm hb sc_L_pick F_L_pick fun cdv A outer s H E hr hgu ds μ hl hG => ⟨b_L_pick, ?_, rfl⟩
  have hu := room_u hr
  exact (sd_one (sd_ret (pd_ix (pd_var 1 (pv 1)) (pd_call h_L_roll (hr.mono (by decide)) hgu (by rfl) (pa_c (pd_var 0 (pv 0)) (pa_c (pd_b bi_len (by rfl) T.b_len rfl (pa_c (pd_var 1 (pv 1)) pa_n)) pa_n)) (al_c (al_c al_n))))))
theorem sc_L_gcd : FnScope ["one", "other"] ["one", "other"] (defScope (top 34)) := ⟨rfl, rfl, rfl, by decide +kernel, rfl, by decide +kernel, by decide +kernel⟩
theorem ok_L_gcd {f : Addr} {fd : FuncData} (T : Glb mg) (F : Fun K "_law_gcd" "_law_gcd" (top 34) f fd) (hm : mg "_law_gcd" = some (.ref f)) (hb : Binds K fd ["one", "other"] []) : FnD P w K mg base "_law_gcd" 1 2 F_L_gcd := by
  refine fnD (k := 0) F hm hb sc_L_gcd F_L_gcd fun cdv A outer s H E hr hgu ds μ hl hG => ⟨b_L_gcd (fu0_L_gcd ds μ), ?_, rfl⟩
  have hu := room_u hr
  exact (sd_cons (sd_while (fu0_L_gcd ds μ) (passes_of rfl) (pt_cm (c_neS hu) (pd_var 1 (pv 1)) pd_int) (sd_one (sd_par (fun ta h => ps_par (i := 0) (j := 1) rfl sc_L_gcd.nd rfl rfl (by decide) rfl rfl h (by rfl)) (pa_c (pd_var 1 (pv 1)) (pa_c (pd_mod (pd_var 0 (pv 0)) (pd_var 1 (pv 1))) pa_n)))))
    (sd_one (sd_ret (pd_b bi_abs (by rfl) T.b_abs rfl (pa_c (pd_var 0 (pv 0)) pa_n)))))
theorem sc_L_lead : FnScope ["row", "at", "number"] ["row"] (defScope (top 35)) := ⟨rfl, rfl, rfl, by decide +kernel, rfl, by decide +kernel, by decide +kernel⟩
theorem ok_L_lead {f : Addr} {fd : FuncData} (T : Glb mg) (F : Fun K "_law_lead" "_law_lead" (top 35) f fd) (hm : mg "_law_lead" = some (.ref f)) (hb : Binds K fd ["row"] []) : FnD P w K mg base "_law_lead" 1 1 F_L_lead := by
  refine fnD (k := 0) F hm hb sc_L_lead F_L_lead fun cdv A outer s H E hr hgu ds μ hl hG => ⟨b_L_lead, ?_, rfl⟩
  have hu := room_u hr
  exact (sd_one (sd_ret (pd_b (bi_min rfl) (by rfl) T.b_min rfl (pa_c (pd_add (pd_f (pf_lc (own := [("at", 1), ("number", 2)]) rfl sc_L_lead.nd (by kernel_rfl) (id_en (pa_c (pd_var 0 (pv 0)) pa_n) (by rfl) T.b_enumerate) (fun b => (gd_tup rfl (gd_cons (gd_name (pg_name (i := 1) sc_L_lead.nd rfl (by first | exact Or.inl rfl | exact Or.inr rfl))) (gd_cons (gd_name (pg_name (i := 2) sc_L_lead.nd rfl (by first | exact Or.inl rfl | exact Or.inr rfl))) gd_nil)))) (fun b => (td_one (pt_cm (c_neS hu) (pd_var 2 (pv 2)) pd_int))) (fun b => (pd_var 1 (pv 1))))) (pd_f (pf_lst (pa_c (pd_b bi_len (by rfl) T.b_len rfl (pa_c (pd_var 0 (pv 0)) pa_n)) pa_n)))) pa_n))))
theorem sc_L_lowest : FnScope ["row", "share", "number", "sign"] ["row"] (defScope (top 36)) := ⟨rfl, rfl, rfl, by decide +kernel, rfl, by decide +kernel, by decide +kernel⟩
theorem ok_L_lowest {f : Addr} {fd : FuncData} (T : Glb mg) (F : Fun K "_law_lowest" "_law_lowest" (top 36) f fd) (hm : mg "_law_lowest" = some (.ref f)) (hb : Binds K fd ["row"] []) (h_L_gcd : FnD P w K mg base "_law_gcd" 1 2 F_L_gcd) (h_L_lead : FnD P w K mg base "_law_lead" 1 1 F_L_lead) : FnD P w K mg base "_law_lowest" 2 1 F_L_lowest := by
  refine fnD (k := 1) F hm hb sc_L_lowest F_L_lowest fun cdv A outer s H E hr hgu ds μ hl hG => ⟨b_L_lowest, ?_, rfl⟩
  have hu := room_u hr
  exact (sd_cons (sd_asg (fun te h => ps_set (i := 1) sc_L_lowest.nd rfl (by first | exact Or.inl rfl | exact Or.inr rfl) h) pd_int)
    (sd_cons (sd_for (passes_of rfl) rfl (id_seq (pd_var 0 (pv 0))) (gd_name (pg_name (i := 2) sc_L_lowest.nd rfl (by first | exact Or.inl rfl | exact Or.inr rfl))) (sd_one (sd_asg (fun te h => ps_set (i := 1) sc_L_lowest.nd rfl (by first | exact Or.inl rfl | exact Or.inr rfl) h) (pd_call h_L_gcd (hr.mono (by decide)) hgu (by rfl) (pa_c (pd_var 1 (pv 1)) (pa_c (pd_var 2 (pv 2)) pa_n)) (al_c (al_c al_n))))))
    (sd_cons (sd_if (pt_cm (c_eqS hu) (pd_var 1 (pv 1)) pd_int) (sd_one (sd_ret (pd_ty bi_tuple (by rfl) T.b_tuple rfl (pa_c (pd_var 0 (pv 0)) pa_n)))) sd_nil)
    (sd_cons (sd_asg (fun te h => ps_set (i := 3) sc_L_lowest.nd rfl (by first | exact Or.inl rfl | exact Or.inr rfl) h) (pd_if (pt_cm c_gt (pd_ix (pd_var 0 (pv 0)) (pd_call h_L_lead (hr.mono (by decide)) hgu (by rfl) (pa_c (pd_var 0 (pv 0)) pa_n) (al_c al_n))) pd_int) pd_int (pd_neg pd_int)))
    (sd_one (sd_ret (pd_ty bi_tuple (by rfl) T.b_tuple rfl (pa_c (pd_f (pf_lc (own := [("number", 2)]) rfl sc_L_lowest.nd (by kernel_rfl) (id_seq (pd_var 0 (pv 0))) (fun b => (gd_name (pg_name (i := 2) sc_L_lowest.nd rfl (by first | exact Or.inl rfl | exact Or.inr rfl)))) (fun b => td_nil) (fun b => (pd_mul (pd_var 3 (pv 3)) (pd_fdiv (pd_var 2 (pv 2)) (pd_var 1 (pv 1))))))) pa_n))))))))
theorem sc_L_dot : FnScope ["one", "other", "left", "right"] ["one", "other"] (defScope (top 37)) := ⟨rfl, rfl, rfl, by decide +kernel, rfl, by decide +kernel, by decide +kernel⟩
theorem ok_L_dot {f : Addr} {fd : FuncData} (T : Glb mg) (F : Fun K "_law_dot" "_law_dot" (top 37) f fd) (hm : mg "_law_dot" = some (.ref f)) (hb : Binds K fd ["one", "other"] []) : FnD P w K mg base "_law_dot" 1 2 F_L_dot := by
  refine fnD (k := 0) F hm hb sc_L_dot F_L_dot fun cdv A outer s H E hr hgu ds μ hl hG => ⟨b_L_dot, ?_, rfl⟩
  have hu := room_u hr
  exact (sd_one (sd_ret (pd_b (bi_sum rfl) (by rfl) T.b_sum rfl (pa_c (pd_f (pf_lc (own := [("left", 2), ("right", 3)]) rfl sc_L_dot.nd (by kernel_rfl) (id_zp (pa_c (pd_var 0 (pv 0)) (pa_c (pd_var 1 (pv 1)) pa_n)) (by rfl) T.b_zip) (fun b => (gd_tup rfl (gd_cons (gd_name (pg_name (i := 2) sc_L_dot.nd rfl (by first | exact Or.inl rfl | exact Or.inr rfl))) (gd_cons (gd_name (pg_name (i := 3) sc_L_dot.nd rfl (by first | exact Or.inl rfl | exact Or.inr rfl))) gd_nil)))) (fun b => td_nil) (fun b => (pd_mul (pd_var 2 (pv 2)) (pd_var 3 (pv 3)))))) pa_n))))
theorem sc_L_drawn : FnScope ["dice", "wide", "great", "at"] ["dice", "wide"] (defScope (top 38)) := ⟨rfl, rfl, rfl, by decide +kernel, rfl, by decide +kernel, by decide +kernel⟩
theorem ok_L_drawn {f : Addr} {fd : FuncData} (T : Glb mg) (F : Fun K "_law_drawn" "_law_drawn" (top 38) f fd) (hm : mg "_law_drawn" = some (.ref f)) (hb : Binds K fd ["dice", "wide"] []) (h_L_pick : FnD P w K mg base "_law_pick" 2 2 F_L_pick) : FnD P w K mg base "_law_drawn" 3 2 F_L_drawn := by
  refine fnD (k := 2) F hm hb sc_L_drawn F_L_drawn fun cdv A outer s H E hr hgu ds μ hl hG => ⟨b_L_drawn, ?_, rfl⟩
  have hu := room_u hr
  exact (sd_cons (sd_asg (fun te h => ps_set (i := 2) sc_L_drawn.nd rfl (by first | exact Or.inl rfl | exact Or.inr rfl) h) (pd_pow pd_int pd_int))
    (sd_one (sd_ret (pd_ty bi_tuple (by rfl) T.b_tuple rfl (pa_c (pd_f (pf_lc (own := [("at", 3)]) rfl sc_L_drawn.nd (by kernel_rfl) (id_rng1 (by rfl) T.b_range (pa_c (pd_var 1 (pv 1)) pa_n)) (fun b => (gd_name (pg_name (i := 3) sc_L_drawn.nd rfl (by first | exact Or.inl rfl | exact Or.inr rfl)))) (fun b => td_nil) (fun b => (pd_call h_L_pick (hr.mono (by decide)) hgu (by rfl) (pa_c (pd_var 0 (pv 0)) (pa_c (pd_f (pf_lst (pa_c pd_int (pa_c pd_int (pa_c pd_int (pa_c (pd_neg pd_int) (pa_c pd_int (pa_c (pd_neg pd_int) (pa_c pd_int (pa_c (pd_add (pd_var 2 (pv 2)) pd_int) (pa_c (pd_sub pd_int (pd_var 2 (pv 2))) pa_n))))))))))) pa_n)) (al_c (al_c al_n)))))) pa_n)))))
theorem sc_L_is_row : FnScope ["wide", "value", "one"] ["wide", "value"] (defScope (top 39)) := ⟨rfl, rfl, rfl, by decide +kernel, rfl, by decide +kernel, by decide +kernel⟩
theorem ok_L_is_row {f : Addr} {fd : FuncData} (T : Glb mg) (F : Fun K "_law_is_row" "_law_is_row" (top 39) f fd) (hm : mg "_law_is_row" = some (.ref f)) (hb : Binds K fd ["wide", "value"] []) : FnD P w K mg base "_law_is_row" 1 2 F_L_is_row := by
  refine fnD (k := 0) F hm hb sc_L_is_row F_L_is_row fun cdv A outer s H E hr hgu ds μ hl hG => ⟨b_L_is_row, ?_, rfl⟩
  have hu := room_u hr
  exact (sd_cons (sd_if (PWD.pt (pw_o (pt_nt (pt_tr (pd_b bi_isi (by rfl) T.b_isinstance rfl (pa_c (pd_var 1 (pv 1)) (pa_c (pd_bltT (by rfl) T.b_tuple rfl) pa_n))))) (pw_o1 (pt_cm (c_neS hu) (pd_b bi_len (by rfl) T.b_len rfl (pa_c (pd_var 1 (pv 1)) pa_n)) (pd_var 0 (pv 0)))))) (sd_one (sd_ret pd_bl)) sd_nil)
    (sd_one (sd_ret (pd_cm (c_eqS hu) (pd_f (pf_lc (own := [("one", 2)]) rfl sc_L_is_row.nd (by kernel_rfl) (id_seq (pd_var 1 (pv 1))) (fun b => (gd_name (pg_name (i := 2) sc_L_is_row.nd rfl (by first | exact Or.inl rfl | exact Or.inr rfl)))) (fun b => (td_one (PWD.pt (pw_o (pt_nt (pt_tr (pd_b bi_isi (by rfl) T.b_isinstance rfl (pa_c (pd_var 2 (pv 2)) (pa_c (pd_bltT (by rfl) T.b_int rfl) pa_n))))) (pw_o1 (pt_tr (pd_b bi_isi (by rfl) T.b_isinstance rfl (pa_c (pd_var 2 (pv 2)) (pa_c (pd_bltT (by rfl) T.b_bool rfl) pa_n))))))))) (fun b => pd_int))) (pd_f (pf_lst pa_n))))))
theorem sc_L_is_lot : FnScope ["wide", "value", "leads", "lead", "row"] ["wide", "value"] (defScope (top 40)) := ⟨rfl, rfl, rfl, by decide +kernel, rfl, by decide +kernel, by decide +kernel⟩
theorem ok_L_is_lot {f : Addr} {fd : FuncData} (T : Glb mg) (F : Fun K "_law_is_lot" "_law_is_lot" (top 40) f fd) (hm : mg "_law_is_lot" = some (.ref f)) (hb : Binds K fd ["wide", "value"] []) (h_L_lead : FnD P w K mg base "_law_lead" 1 1 F_L_lead) (h_L_lowest : FnD P w K mg base "_law_lowest" 2 1 F_L_lowest) (h_L_is_row : FnD P w K mg base "_law_is_row" 1 2 F_L_is_row) : FnD P w K mg base "_law_is_lot" 3 2 F_L_is_lot := by
  refine fnD (k := 2) F hm hb sc_L_is_lot F_L_is_lot fun cdv A outer s H E hr hgu ds μ hl hG => ⟨b_L_is_lot, ?_, rfl⟩
  have hu := room_u hr
  exact (sd_cons (sd_if (PWD.pt (pw_o (pt_nt (pt_tr (pd_b bi_isi (by rfl) T.b_isinstance rfl (pa_c (pd_var 1 (pv 1)) (pa_c (pd_bltT (by rfl) T.b_tuple rfl) pa_n))))) (pw_o1 (pt_cm (c_neS hu) (pd_f (pf_lc (own := [("row", 4)]) rfl sc_L_is_lot.nd (by kernel_rfl) (id_seq (pd_var 1 (pv 1))) (fun b => (gd_name (pg_name (i := 4) sc_L_is_lot.nd rfl (by first | exact Or.inl rfl | exact Or.inr rfl)))) (fun b => (td_one (pt_nt (pt_tr (pd_call h_L_is_row (hr.mono (by decide)) hgu (by rfl) (pa_c (pd_var 0 (pv 0)) (pa_c (pd_var 4 (pv 4)) pa_n)) (al_c (al_c al_n))))))) (fun b => pd_int))) (pd_f (pf_lst pa_n)))))) (sd_one (sd_ret pd_bl)) sd_nil)
    (sd_cons (sd_frz 2 (sd_setLc (own := [("row", 4)]) (i := 2) rfl sc_L_is_lot.nd rfl rfl (by rfl) (by kernel_rfl) (id_seq (pd_var 1 (pv 1))) (fun b => (gd_name (pg_name (i := 4) sc_L_is_lot.nd rfl (by first | exact Or.inl rfl | exact Or.inr rfl)))) (fun b => td_nil) (fun b => (pd_call h_L_lead (hr.mono (by decide)) hgu (by rfl) (pa_c (pd_var 4 (pv 4)) pa_n) (al_c al_n)))))
    (sd_cons (sd_if (PWD.pt (pw_o (pt_cm (c_neS hu) (pd_var 2 (pv 2)) (pd_f (pf_sortSet rfl (by rfl) T.b_sorted (by rfl) T.b_set (pd_var 2 (pv 2))))) (pw_o (pt_cm (c_in hu) (pd_var 0 (pv 0)) (pd_var 2 (pv 2))) (pw_o1 (pt_cm (c_neS hu) (pd_f (pf_lc (own := [("row", 4)]) rfl sc_L_is_lot.nd (by kernel_rfl) (id_seq (pd_var 1 (pv 1))) (fun b => (gd_name (pg_name (i := 4) sc_L_is_lot.nd rfl (by first | exact Or.inl rfl | exact Or.inr rfl)))) (fun b => (td_one (pt_cm (c_neS hu) (pd_call h_L_lowest (hr.mono (by decide)) hgu (by rfl) (pa_c (pd_var 4 (pv 4)) pa_n) (al_c al_n)) (pd_var 4 (pv 4))))) (fun b => pd_int))) (pd_f (pf_lst pa_n))))))) (sd_one (sd_ret pd_bl)) sd_nil)
    (sd_cons (sd_for (passes_of rfl) rfl (id_seq (pd_var 2 (pv 2))) (gd_name (pg_name (i := 3) sc_L_is_lot.nd rfl (by first | exact Or.inl rfl | exact Or.inr rfl))) (sd_one (sd_if (pt_cm (c_neS hu) (pd_b bi_len (by rfl) T.b_len rfl (pa_c (pd_f (pf_lc (own := [("row", 4)]) rfl sc_L_is_lot.nd (by kernel_rfl) (id_seq (pd_var 1 (pv 1))) (fun b => (gd_name (pg_name (i := 4) sc_L_is_lot.nd rfl (by first | exact Or.inl rfl | exact Or.inr rfl)))) (fun b => (td_one (pt_cm (c_neS hu) (pd_ix (pd_var 4 (pv 4)) (pd_var 3 (pv 3))) pd_int))) (fun b => (pd_var 4 (pv 4))))) pa_n)) pd_int) (sd_one (sd_ret pd_bl)) sd_nil)))
    (sd_one (sd_ret pd_bl))))))
theorem sc_L_near : FnScope ["dice", "wide", "lot", "row", "some", "line", "at", "spot", "one"] ["dice", "wide", "lot"] (defScope (top 41)) := ⟨rfl, rfl, rfl, by decide +kernel, rfl, by decide +kernel, by decide +kernel⟩
theorem ok_L_near {f : Addr} {fd : FuncData} (T : Glb mg) (F : Fun K "_law_near" "_law_near" (top 41) f fd) (hm : mg "_law_near" = some (.ref f)) (hb : Binds K fd ["dice", "wide", "lot"] []) (h_L_roll : FnD P w K mg base "_law_roll" 1 2 F_L_roll) (h_L_lowest : FnD P w K mg base "_law_lowest" 2 1 F_L_lowest) (h_L_drawn : FnD P w K mg base "_law_drawn" 3 2 F_L_drawn) : FnD P w K mg base "_law_near" 4 3 F_L_near := by
  refine fnD (k := 3) F hm hb sc_L_near F_L_near fun cdv A outer s H E hr hgu ds μ hl hG => ⟨b_L_near, ?_, rfl⟩
  have hu := room_u hr
  exact (sd_cons (sd_asg (fun te h => ps_set (i := 3) sc_L_near.nd rfl (by first | exact Or.inl rfl | exact Or.inr rfl) h) (pd_call h_L_drawn (hr.mono (by decide)) hgu (by rfl) (pa_c (pd_var 0 (pv 0)) (pa_c (pd_var 1 (pv 1)) pa_n)) (al_c (al_c al_n))))
    (sd_cons (sd_asgO (fun te h => ps_set (i := 4) sc_L_near.nd rfl (by first | exact Or.inl rfl | exact Or.inr rfl) h) (pf_lst (pa_c (pd_var 2 (pv 2)) (pa_c (pd_f (pf_ty bif_list (by rfl) T.b_list rfl (pa_c (pd_var 2 (pv 2)) pa_n))) (pa_c (pd_rev (pd_var 2 (pv 2))) (pa_c (pd_add (pd_var 2 (pv 2)) (pd_sl (pd_var 2 (pv 2)) po_n (po_s pd_int))) (pa_c (pd_add (pd_var 2 (pv 2)) (pd_tup (pa_c (pd_var 3 (pv 3)) pa_n))) (pa_c (pd_tup (pa_c (pd_var 3 (pv 3)) pa_n)) (pa_c (pd_tup pa_n) (pa_c (pd_tup (pa_c (pd_call h_L_lowest (hr.mono (by decide)) hgu (by rfl) (pa_c (pd_var 3 (pv 3)) pa_n) (al_c al_n)) pa_n)) (pa_c pd_non (pa_c pd_int (pa_c (pd_tup (pa_c (pd_tup pa_n) pa_n)) (pa_c (pd_tup (pa_c pd_non pa_n)) pa_n))))))))))))))
    (sd_cons (sd_asgO (fun te h => ps_set (i := 4) sc_L_near.nd rfl (by first | exact Or.inl rfl | exact Or.inr rfl) h) (pf_cat (pd_var 4 (pv 4)) (pd_f (pf_lst (pa_c (pd_add (pd_var 2 (pv 2)) (pd_tup (pa_c (pd_mul (pd_tup (pa_c pd_int pa_n)) (pd_var 1 (pv 1))) pa_n))) (pa_c (pd_tup (pa_c (pd_add (pd_var 3 (pv 3)) (pd_tup (pa_c pd_int pa_n))) pa_n)) (pa_c (pd_ty bi_tuple (by rfl) T.b_tuple rfl (pa_c (pd_f (pf_lc (own := [("line", 5)]) rfl sc_L_near.nd (by kernel_rfl) (id_seq (pd_var 2 (pv 2))) (fun b => (gd_name (pg_name (i := 5) sc_L_near.nd rfl (by first | exact Or.inl rfl | exact Or.inr rfl)))) (fun b => td_nil) (fun b => (pd_ty bi_tuple (by rfl) T.b_tuple rfl (pa_c (pd_f (pf_lc (own := [("one", 8)]) rfl sc_L_near.nd (by kernel_rfl) (id_seq (pd_var 5 (pv 5))) (fun b => (gd_name (pg_name (i := 8) sc_L_near.nd rfl (by first | exact Or.inl rfl | exact Or.inr rfl)))) (fun b => td_nil) (fun b => (pd_sub pd_int (pd_var 8 (pv 8)))))) pa_n))))) pa_n)) pa_n)))))))
    (sd_cons (sd_if (pt_cm (c_neS hu) (pd_var 2 (pv 2)) (pd_tup pa_n)) (sd_cons (sd_asg (fun te h => ps_set (i := 6) sc_L_near.nd rfl (by first | exact Or.inl rfl | exact Or.inr rfl) h) (pd_call h_L_roll (hr.mono (by decide)) hgu (by rfl) (pa_c (pd_var 0 (pv 0)) (pa_c (pd_b bi_len (by rfl) T.b_len rfl (pa_c (pd_var 2 (pv 2)) pa_n)) pa_n)) (al_c (al_c al_n))))
    (sd_cons (sd_par (fun ta h => ps_par (i := 7) (j := 5) rfl sc_L_near.nd rfl rfl (by decide) rfl rfl h (by rfl)) (pa_c (pd_call h_L_roll (hr.mono (by decide)) hgu (by rfl) (pa_c (pd_var 0 (pv 0)) (pa_c (pd_var 1 (pv 1)) pa_n)) (al_c (al_c al_n))) (pa_c (pd_ix (pd_var 2 (pv 2)) (pd_var 6 (pv 6))) pa_n)))
    (sd_cons (sd_drop (pd_append (pd_var 4 (pv 4)) (pa_c (pd_add (pd_add (pd_sl (pd_var 2 (pv 2)) po_n (po_s (pd_var 6 (pv 6)))) (pd_tup (pa_c (pd_add (pd_add (pd_sl (pd_var 5 (pv 5)) po_n (po_s (pd_var 7 (pv 7)))) (pd_tup (pa_c (pd_add (pd_ix (pd_var 5 (pv 5)) (pd_var 7 (pv 7))) pd_int) pa_n))) (pd_sl (pd_var 5 (pv 5)) (po_s (pd_add (pd_var 7 (pv 7)) pd_int)) po_n)) pa_n))) (pd_sl (pd_var 2 (pv 2)) (po_s (pd_add (pd_var 6 (pv 6)) pd_int)) po_n)) pa_n)))
    (sd_cons (sd_drop (pd_append (pd_var 4 (pv 4)) (pa_c (pd_add (pd_add (pd_sl (pd_var 2 (pv 2)) po_n (po_s (pd_var 6 (pv 6)))) (pd_tup (pa_c (pd_ty bi_tuple (by rfl) T.b_tuple rfl (pa_c (pd_f (pf_lc (own := [("one", 8)]) rfl sc_L_near.nd (by kernel_rfl) (id_seq (pd_var 5 (pv 5))) (fun b => (gd_name (pg_name (i := 8) sc_L_near.nd rfl (by first | exact Or.inl rfl | exact Or.inr rfl)))) (fun b => td_nil) (fun b => (pd_mul pd_int (pd_var 8 (pv 8)))))) pa_n)) pa_n))) (pd_sl (pd_var 2 (pv 2)) (po_s (pd_add (pd_var 6 (pv 6)) pd_int)) po_n)) pa_n)))
    (sd_cons (sd_drop (pd_append (pd_var 4 (pv 4)) (pa_c (pd_add (pd_add (pd_sl (pd_var 2 (pv 2)) po_n (po_s (pd_var 6 (pv 6)))) (pd_tup (pa_c (pd_f (pf_ty bif_list (by rfl) T.b_list rfl (pa_c (pd_var 5 (pv 5)) pa_n))) pa_n))) (pd_sl (pd_var 2 (pv 2)) (po_s (pd_add (pd_var 6 (pv 6)) pd_int)) po_n)) pa_n)))
    (sd_cons (sd_drop (pd_append (pd_var 4 (pv 4)) (pa_c (pd_add (pd_add (pd_sl (pd_var 2 (pv 2)) po_n (po_s (pd_var 6 (pv 6)))) (pd_tup (pa_c (pd_ty bi_tuple (by rfl) T.b_tuple rfl (pa_c (pd_f (pf_lc (own := [("one", 8)]) rfl sc_L_near.nd (by kernel_rfl) (id_seq (pd_var 5 (pv 5))) (fun b => (gd_name (pg_name (i := 8) sc_L_near.nd rfl (by first | exact Or.inl rfl | exact Or.inr rfl)))) (fun b => td_nil) (fun b => (pd_if (pt_cm (c_in hu) (pd_var 8 (pv 8)) (pd_tup (pa_c pd_int (pa_c pd_int pa_n)))) (pd_cm (c_eqS hu) (pd_var 8 (pv 8)) pd_int) (pd_var 8 (pv 8)))))) pa_n)) pa_n))) (pd_sl (pd_var 2 (pv 2)) (po_s (pd_add (pd_var 6 (pv 6)) pd_int)) po_n)) pa_n)))
    (sd_one (sd_drop (pd_append (pd_var 4 (pv 4)) (pa_c (pd_add (pd_sl (pd_var 2 (pv 2)) po_n (po_s (pd_var 6 (pv 6)))) (pd_sl (pd_var 2 (pv 2)) (po_s (pd_add (pd_var 6 (pv 6)) pd_int)) po_n)) pa_n)))))))))) sd_nil)
    (sd_one (sd_retF (pf_take 4 (pv 4))))))))
theorem sc_L_right : FnScope ["dice", "wide", "one", "other", "by", "lot", "value", "rows", "left", "right", "turn"] ["dice", "wide"] (defScope (top 42)) := ⟨rfl, rfl, rfl, by decide +kernel, rfl, by decide +kernel, by decide +kernel⟩
theorem ok_L_right {f : Addr} {fd : FuncData} (T : Glb mg) (F : Fun K "_law_right" "_law_right" (top 42) f fd) (hm : mg "_law_right" = some (.ref f)) (hb : Binds K fd ["dice", "wide"] []) (h_is_row : FnD P w K mg base "is_row" 3 2 F_is_row) (h_is_lot : FnD P w K mg base "is_lot" 4 2 F_is_lot) (h_row_plus : FnD P w K mg base "row_plus" 4 3 F_row_plus) (h_row_times : FnD P w K mg base "row_times" 4 3 F_row_times) (h_product : FnD P w K mg base "product" 4 3 F_product) (h_lowest : FnD P w K mg base "lowest" 4 2 F_lowest) (h_lot_of : FnD P w K mg base "lot_of" 6 2 F_lot_of) (h_L_roll : FnD P w K mg base "_law_roll" 1 2 F_L_roll) (h_L_pick : FnD P w K mg base "_law_pick" 2 2 F_L_pick) (h_L_lowest : FnD P w K mg base "_law_lowest" 2 1 F_L_lowest) (h_L_dot : FnD P w K mg base "_law_dot" 1 2 F_L_dot) (h_L_drawn : FnD P w K mg base "_law_drawn" 3 2 F_L_drawn) (h_L_is_row : FnD P w K mg base "_law_is_row" 1 2 F_L_is_row) (h_L_is_lot : FnD P w K mg base "_law_is_lot" 3 2 F_L_is_lot) (h_L_near : FnD P w K mg base "_law_near" 4 3 F_L_near) : FnD P w K mg base "_law_right" 7 2 F_L_right := by
  refine fnD (k := 6) F hm hb sc_L_right F_L_right fun cdv A outer s H E hr hgu ds μ hl hG => ⟨b_L_right, ?_, rfl⟩
  have hu := room_u hr
  exact (sd_cons (sd_asgG (fun te t h g => ps_asg h g) (pd_tup (pa_c (pd_call h_L_drawn (hr.mono (by decide)) hgu (by rfl) (pa_c (pd_var 0 (pv 0)) (pa_c (pd_var 1 (pv 1)) pa_n)) (al_c (al_c al_n))) (pa_c (pd_call h_L_drawn (hr.mono (by decide)) hgu (by rfl) (pa_c (pd_var 0 (pv 0)) (pa_c (pd_var 1 (pv 1)) pa_n)) (al_c (al_c al_n))) (pa_c (pd_call h_L_pick (hr.mono (by decide)) hgu (by rfl) (pa_c (pd_var 0 (pv 0)) (pa_c (pd_f (pf_lst (pa_c pd_int (pa_c pd_int (pa_c (pd_neg pd_int) (pa_c pd_int (pa_c (pd_pow pd_int pd_int) pa_n))))))) pa_n)) (al_c (al_c al_n))) pa_n)))) (gd_tup rfl (gd_cons (gd_name (pg_name (i := 2) sc_L_right.nd rfl (by first | exact Or.inl rfl | exact Or.inr rfl))) (gd_cons (gd_name (pg_name (i := 3) sc_L_right.nd rfl (by first | exact Or.inl rfl | exact Or.inr rfl))) (gd_cons (gd_name (pg_name (i := 4) sc_L_right.nd rfl (by first | exact Or.inl rfl | exact Or.inr rfl))) gd_nil)))))
    (sd_cons (sd_if (pt_cm (c_neS hu) (pd_b (bi_repr hgu hu) (by rfl) T.b_repr rfl (pa_c (pd_call h_row_plus (hr.mono (by decide)) hgu (by rfl) (pa_c (pd_var 1 (pv 1)) (pa_c (pd_var 2 (pv 2)) (pa_c (pd_var 3 (pv 3)) pa_n))) (al_c (al_c (al_c al_n)))) pa_n)) (pd_b (bi_repr hgu hu) (by rfl) T.b_repr rfl (pa_c (pd_ty bi_tuple (by rfl) T.b_tuple rfl (pa_c (pd_f (pf_lc (own := [("left", 8), ("right", 9)]) rfl sc_L_right.nd (by kernel_rfl) (id_zp (pa_c (pd_var 2 (pv 2)) (pa_c (pd_var 3 (pv 3)) pa_n)) (by rfl) T.b_zip) (fun b => (gd_tup rfl (gd_cons (gd_name (pg_name (i := 8) sc_L_right.nd rfl (by first | exact Or.inl rfl | exact Or.inr rfl))) (gd_cons (gd_name (pg_name (i := 9) sc_L_right.nd rfl (by first | exact Or.inl rfl | exact Or.inr rfl))) gd_nil)))) (fun b => td_nil) (fun b => (pd_add (pd_var 8 (pv 8)) (pd_var 9 (pv 9)))))) pa_n)) pa_n))) (sd_one (sd_ret pd_bl)) sd_nil)
    (sd_cons (sd_if (pt_cm (c_neS hu) (pd_b (bi_repr hgu hu) (by rfl) T.b_repr rfl (pa_c (pd_call h_row_times (hr.mono (by decide)) hgu (by rfl) (pa_c (pd_var 1 (pv 1)) (pa_c (pd_var 4 (pv 4)) (pa_c (pd_var 2 (pv 2)) pa_n))) (al_c (al_c (al_c al_n)))) pa_n)) (pd_b (bi_repr hgu hu) (by rfl) T.b_repr rfl (pa_c (pd_ty bi_tuple (by rfl) T.b_tuple rfl (pa_c (pd_f (pf_lc (own := [("left", 8)]) rfl sc_L_right.nd (by kernel_rfl) (id_seq (pd_var 2 (pv 2))) (fun b => (gd_name (pg_name (i := 8) sc_L_right.nd rfl (by first | exact Or.inl rfl | exact Or.inr rfl)))) (fun b => td_nil) (fun b => (pd_mul (pd_var 4 (pv 4)) (pd_var 8 (pv 8)))))) pa_n)) pa_n))) (sd_one (sd_ret pd_bl)) sd_nil)
    (sd_cons (sd_if (pt_cm (c_neS hu) (pd_b (bi_repr hgu hu) (by rfl) T.b_repr rfl (pa_c (pd_f (pf_lst (pa_c (pd_call h_product (hr.mono (by decide)) hgu (by rfl) (pa_c (pd_var 1 (pv 1)) (pa_c (pd_var 2 (pv 2)) (pa_c (pd_var 3 (pv 3)) pa_n))) (al_c (al_c (al_c al_n)))) (pa_c (pd_call h_lowest (hr.mono (by decide)) hgu (by rfl) (pa_c (pd_var 1 (pv 1)) (pa_c (pd_var 2 (pv 2)) pa_n)) (al_c (al_c al_n))) pa_n)))) pa_n)) (pd_b (bi_repr hgu hu) (by rfl) T.b_repr rfl (pa_c (pd_f (pf_lst (pa_c (pd_call h_L_dot (hr.mono (by decide)) hgu (by rfl) (pa_c (pd_var 2 (pv 2)) (pa_c (pd_var 3 (pv 3)) pa_n)) (al_c (al_c al_n))) (pa_c (pd_call h_L_lowest (hr.mono (by decide)) hgu (by rfl) (pa_c (pd_var 2 (pv 2)) pa_n) (al_c al_n)) pa_n)))) pa_n))) (sd_one (sd_ret pd_bl)) sd_nil)
    (sd_cons (sd_if (PWD.pt (pw_o (pt_cm (c_neS hu) (pd_call h_lowest (hr.mono (by decide)) hgu (by rfl) (pa_c (pd_var 1 (pv 1)) (pa_c (pd_call h_row_times (hr.mono (by decide)) hgu (by rfl) (pa_c (pd_var 1 (pv 1)) (pa_c (pd_neg pd_int) (pa_c (pd_var 2 (pv 2)) pa_n))) (al_c (al_c (al_c al_n)))) pa_n)) (al_c (al_c al_n))) (pd_call h_L_lowest (hr.mono (by decide)) hgu (by rfl) (pa_c (pd_var 2 (pv 2)) pa_n) (al_c al_n))) (pw_o1 (pt_cm (c_neS hu) (pd_call h_product (hr.mono (by decide)) hgu (by rfl) (pa_c (pd_var 1 (pv 1)) (pa_c (pd_var 3 (pv 3)) (pa_c (pd_var 2 (pv 2)) pa_n))) (al_c (al_c (al_c al_n)))) (pd_call h_L_dot (hr.mono (by decide)) hgu (by rfl) (pa_c (pd_var 2 (pv 2)) (pa_c (pd_var 3 (pv 3)) pa_n)) (al_c (al_c al_n))))))) (sd_one (sd_ret pd_bl)) sd_nil)
    (sd_cons (sd_asg (fun te h => ps_set (i := 5) sc_L_right.nd rfl (by first | exact Or.inl rfl | exact Or.inr rfl) h) (pd_call h_lot_of (hr.mono (by decide)) hgu (by rfl) (pa_c (pd_var 1 (pv 1)) (pa_c (pd_ty bi_tuple (by rfl) T.b_tuple rfl (pa_c (pd_f (pf_lc (own := [("turn", 10)]) rfl sc_L_right.nd (by kernel_rfl) (id_rng1 (by rfl) T.b_range (pa_c (pd_call h_L_roll (hr.mono (by decide)) hgu (by rfl) (pa_c (pd_var 0 (pv 0)) (pa_c pd_int pa_n)) (al_c (al_c al_n))) pa_n)) (fun b => (gd_name (pg_name (i := 10) sc_L_right.nd rfl (by first | exact Or.inl rfl | exact Or.inr rfl)))) (fun b => td_nil) (fun b => (pd_call h_L_drawn (hr.mono (by decide)) hgu (by rfl) (pa_c (pd_var 0 (pv 0)) (pa_c (pd_var 1 (pv 1)) pa_n)) (al_c (al_c al_n)))))) pa_n)) pa_n)) (al_c (al_c al_n))))
    (sd_cons (sd_for (passes_of rfl) rfl (id_seq (pd_f (pf_call h_L_near (hr.mono (by decide)) hgu (by rfl) (pa_c (pd_var 0 (pv 0)) (pa_c (pd_var 1 (pv 1)) (pa_c (pd_var 5 (pv 5)) pa_n))) (al_c (al_c (al_c al_n)))))) (gd_name (pg_name (i := 6) sc_L_right.nd rfl (by first | exact Or.inl rfl | exact Or.inr rfl))) (sd_one (sd_if (pt_cm (c_neS hu) (pd_b (bi_repr hgu hu) (by rfl) T.b_repr rfl (pa_c (pd_call h_is_lot (hr.mono (by decide)) hgu (by rfl) (pa_c (pd_var 1 (pv 1)) (pa_c (pd_var 6 (pv 6)) pa_n)) (al_c (al_c al_n))) pa_n)) (pd_b (bi_repr hgu hu) (by rfl) T.b_repr rfl (pa_c (pd_call h_L_is_lot (hr.mono (by decide)) hgu (by rfl) (pa_c (pd_var 1 (pv 1)) (pa_c (pd_var 6 (pv 6)) pa_n)) (al_c (al_c al_n))) pa_n))) (sd_one (sd_ret pd_bl)) sd_nil)))
    (sd_cons (sd_asgO (fun te h => ps_set (i := 7) sc_L_right.nd rfl (by first | exact Or.inl rfl | exact Or.inr rfl) h) (pf_lst (pa_c (pd_var 2 (pv 2)) (pa_c (pd_f (pf_ty bif_list (by rfl) T.b_list rfl (pa_c (pd_var 2 (pv 2)) pa_n))) (pa_c (pd_add (pd_var 2 (pv 2)) (pd_tup (pa_c pd_int pa_n))) (pa_c (pd_sl (pd_var 2 (pv 2)) (po_s pd_int) po_n) (pa_c (pd_mul (pd_tup (pa_c pd_non pa_n)) (pd_var 1 (pv 1))) (pa_c (pd_mul (pd_tup (pa_c pd_bl pa_n)) (pd_var 1 (pv 1))) (pa_c pd_non (pa_c (pd_tup pa_n) (pa_c (pd_mul (pd_tup (pa_c pd_str pa_n)) (pd_var 1 (pv 1))) (pa_c pd_int (pa_c (pd_f pf_emp) pa_n)))))))))))))
    (sd_cons (sd_frz 7 (sd_drop (pd_append (pd_var 7 (pv 7)) (pa_c (pd_add (pd_sl (pd_var 2 (pv 2)) po_n (po_s (pd_neg pd_int))) (pd_tup (pa_c (pd_cm (c_eqS hu) (pd_ix (pd_var 2 (pv 2)) (pd_neg pd_int)) pd_int) pa_n))) pa_n))))
    (sd_one (sd_ret (pd_cm (c_eqS hu) (pd_f (pf_lc (own := [("value", 6)]) rfl sc_L_right.nd (by kernel_rfl) (id_seq (pd_var 7 (pv 7))) (fun b => (gd_name (pg_name (i := 6) sc_L_right.nd rfl (by first | exact Or.inl rfl | exact Or.inr rfl)))) (fun b => (td_one (pt_cm (c_neS hu) (pd_b (bi_repr hgu hu) (by rfl) T.b_repr rfl (pa_c (pd_call h_is_row (hr.mono (by decide)) hgu (by rfl) (pa_c (pd_var 1 (pv 1)) (pa_c (pd_var 6 (pv 6)) pa_n)) (al_c (al_c al_n))) pa_n)) (pd_b (bi_repr hgu hu) (by rfl) T.b_repr rfl (pa_c (pd_call h_L_is_row (hr.mono (by decide)) hgu (by rfl) (pa_c (pd_var 1 (pv 1)) (pa_c (pd_var 6 (pv 6)) pa_n)) (al_c (al_c al_n))) pa_n))))) (fun b => (pd_var 6 (pv 6))))) (pd_f (pf_lst pa_n))))))))))))))
theorem sc_law : FnScope ["script", "spot", "dice", "turn", "told"] ["script"] (defScope (top 43)) := ⟨rfl, rfl, rfl, by decide +kernel, rfl, by decide +kernel, by decide +kernel⟩
theorem ok_law {f : Addr} {fd : FuncData} (T : Glb mg) (F : Fun K "law" "law" (top 43) f fd) (hm : mg "law" = some (.ref f)) (hb : Binds K fd ["script"] []) (h_is_lot : FnD P w K mg base "is_lot" 4 2 F_is_lot) (h_product : FnD P w K mg base "product" 4 3 F_product) (h_lowest : FnD P w K mg base "lowest" 4 2 F_lowest) (h_L_dice : FnD P w K mg base "_law_dice" 1 2 F_L_dice) (h_L_roll : FnD P w K mg base "_law_roll" 1 2 F_L_roll) (h_L_right : FnD P w K mg base "_law_right" 7 2 F_L_right) : FnD P w K mg base "law" 8 1 F_law := by
  refine fnD (k := 7) F hm hb sc_law F_law fun cdv A outer s H E hr hgu ds μ hl hG => ⟨b_law, ?_, rfl⟩
  have hu := room_u hr
  exact (sd_cons (sd_for (passes_of rfl) rfl (id_rng1 (by rfl) T.b_range (pa_c (pd_b (bi_max2 rfl) (by rfl) T.b_max rfl (pa_c pd_int (pa_c (pd_b (bi_min2 rfl) (by rfl) T.b_min rfl (pa_c pd_int (pa_c (pd_b bi_len (by rfl) T.b_len rfl (pa_c (pd_var 0 (pv 0)) pa_n)) pa_n))) pa_n))) pa_n)) (gd_name (pg_name (i := 1) sc_law.nd rfl (by first | exact Or.inl rfl | exact Or.inr rfl))) (sd_cons (sd_asgR (fun te h => ps_set (i := 2) sc_law.nd rfl (by first | exact Or.inl rfl | exact Or.inr rfl) h) (pf_call h_L_dice (hr.mono (by decide)) hgu (by rfl) (pa_c (pd_var 0 (pv 0)) (pa_c (pd_var 1 (pv 1)) pa_n)) (al_c (al_c al_n))))
    (sd_one (sd_for (passes_of rfl) rfl (id_rng1 (by rfl) T.b_range (pa_c pd_int pa_n)) (gd_name (pg_name (i := 3) sc_law.nd rfl (by first | exact Or.inl rfl | exact Or.inr rfl))) (sd_one (sd_if (pt_nt (pt_tr (pd_call h_L_right (hr.mono (by decide)) hgu (by rfl) (pa_c (pd_var 2 (pv 2)) (pa_c (pd_add pd_int (pd_call h_L_roll (hr.mono (by decide)) hgu (by rfl) (pa_c (pd_var 2 (pv 2)) (pa_c pd_int pa_n)) (al_c (al_c al_n)))) pa_n)) (al_c (al_c al_n))))) (sd_one (sd_ret pd_bl)) sd_nil))))))
    (sd_cons (sd_asg (fun te h => ps_set (i := 4) sc_law.nd rfl (by first | exact Or.inl rfl | exact Or.inr rfl) h) (pd_f (pf_lst (pa_c (pd_call h_lowest (hr.mono (by decide)) hgu (by rfl) (pa_c pd_int (pa_c (pd_tup (pa_c pd_int (pa_c (pd_neg pd_int) (pa_c pd_int pa_n)))) pa_n)) (al_c (al_c al_n))) (pa_c (pd_call h_lowest (hr.mono (by decide)) hgu (by rfl) (pa_c pd_int (pa_c (pd_tup (pa_c pd_int (pa_c pd_int pa_n))) pa_n)) (al_c (al_c al_n))) (pa_c (pd_call h_product (hr.mono (by decide)) hgu (by rfl) (pa_c pd_int (pa_c (pd_tup (pa_c pd_int (pa_c (pd_neg pd_int) pa_n))) (pa_c (pd_tup (pa_c pd_int (pa_c pd_int pa_n))) pa_n))) (al_c (al_c (al_c al_n)))) (pa_c (pd_call h_is_lot (hr.mono (by decide)) hgu (by rfl) (pa_c pd_int (pa_c (pd_tup (pa_c (pd_tup (pa_c pd_int (pa_c pd_int pa_n))) pa_n)) pa_n)) (al_c (al_c al_n))) (pa_c (pd_call h_is_lot (hr.mono (by decide)) hgu (by rfl) (pa_c pd_int (pa_c (pd_tup pa_n) pa_n)) (al_c (al_c al_n))) pa_n))))))))
    (sd_one (sd_ret (pd_cm (c_eqS hu) (pd_b (bi_repr hgu hu) (by rfl) T.b_repr rfl (pa_c (pd_var 4 (pv 4)) pa_n)) (pd_b (bi_repr hgu hu) (by rfl) T.b_repr rfl (pa_c (pd_f (pf_lst (pa_c (pd_tup (pa_c pd_int (pa_c pd_int (pa_c (pd_neg pd_int) pa_n)))) (pa_c (pd_tup (pa_c pd_int (pa_c pd_int pa_n))) (pa_c pd_int (pa_c pd_bl (pa_c pd_bl pa_n))))))) pa_n)))))))
end
end K13

namespace K13
open PySem PySem.Spec PyProof.Rows L2 DL
theorem all_mk {P : Program} {w : World} {K : PySem.W.Frag} {h : Heap} {mg : Str → Option Value} (X : K.In h) (G : h.Ns mainGlobals mg)
    {f0 : Addr} {od0 an0 : Option Addr} {sl0 : Array (Option Value)} {oc0 kV0 dc0 pm0 cd0 ct0 : Value}
    (a0 : PySem.W.nsIn K mainGlobals "is_integer" = some (some (.ref f0))) (l0 : K.lookup f0 = some ⟨oc0, od0, .func (PySem.W.fnOf "is_integer" "is_integer" (defArgs (top 7)) (defBody (top 7)) (defScope (top 7)) .none kV0 dc0 pm0 an0 cd0 ct0), sl0⟩) (c0 : PySem.W.codeIn K cd0 "is_integer" = true) (k0 : PySem.W.keepIn K (.ref f0) = true)
    {f1 : Addr} {od1 an1 : Option Addr} {sl1 : Array (Option Value)} {oc1 kV1 dc1 pm1 cd1 ct1 : Value}
    (a1 : PySem.W.nsIn K mainGlobals "require_width" = some (some (.ref f1))) (l1 : K.lookup f1 = some ⟨oc1, od1, .func (PySem.W.fnOf "require_width" "require_width" (defArgs (top 8)) (defBody (top 8)) (defScope (top 8)) .none kV1 dc1 pm1 an1 cd1 ct1), sl1⟩) (c1 : PySem.W.codeIn K cd1 "require_width" = true) (k1 : PySem.W.keepIn K (.ref f1) = true)
    {f2 : Addr} {od2 an2 : Option Addr} {sl2 : Array (Option Value)} {oc2 kV2 dc2 pm2 cd2 ct2 : Value}
    (a2 : PySem.W.nsIn K mainGlobals "is_plain_row" = some (some (.ref f2))) (l2 : K.lookup f2 = some ⟨oc2, od2, .func (PySem.W.fnOf "is_plain_row" "is_plain_row" (defArgs (top 9)) (defBody (top 9)) (defScope (top 9)) .none kV2 dc2 pm2 an2 cd2 ct2), sl2⟩) (c2 : PySem.W.codeIn K cd2 "is_plain_row" = true) (k2 : PySem.W.keepIn K (.ref f2) = true)
    {f3 : Addr} {od3 an3 : Option Addr} {sl3 : Array (Option Value)} {oc3 kV3 dc3 pm3 cd3 ct3 : Value}
    (a3 : PySem.W.nsIn K mainGlobals "lead_in" = some (some (.ref f3))) (l3 : K.lookup f3 = some ⟨oc3, od3, .func (PySem.W.fnOf "lead_in" "lead_in" (defArgs (top 10)) (defBody (top 10)) (defScope (top 10)) .none kV3 dc3 pm3 an3 cd3 ct3), sl3⟩) (c3 : PySem.W.codeIn K cd3 "lead_in" = true) (k3 : PySem.W.keepIn K (.ref f3) = true)
    {f4 : Addr} {od4 an4 : Option Addr} {sl4 : Array (Option Value)} {oc4 kV4 dc4 pm4 cd4 ct4 : Value}
    (a4 : PySem.W.nsIn K mainGlobals "common_share" = some (some (.ref f4))) (l4 : K.lookup f4 = some ⟨oc4, od4, .func (PySem.W.fnOf "common_share" "common_share" (defArgs (top 11)) (defBody (top 11)) (defScope (top 11)) .none kV4 dc4 pm4 an4 cd4 ct4), sl4⟩) (c4 : PySem.W.codeIn K cd4 "common_share" = true) (k4 : PySem.W.keepIn K (.ref f4) = true)
    {f5 : Addr} {od5 an5 : Option Addr} {sl5 : Array (Option Value)} {oc5 kV5 dc5 pm5 cd5 ct5 : Value}
    (a5 : PySem.W.nsIn K mainGlobals "lowest_row" = some (some (.ref f5))) (l5 : K.lookup f5 = some ⟨oc5, od5, .func (PySem.W.fnOf "lowest_row" "lowest_row" (defArgs (top 12)) (defBody (top 12)) (defScope (top 12)) .none kV5 dc5 pm5 an5 cd5 ct5), sl5⟩) (c5 : PySem.W.codeIn K cd5 "lowest_row" = true) (k5 : PySem.W.keepIn K (.ref f5) = true)
    {f6 : Addr} {od6 an6 : Option Addr} {sl6 : Array (Option Value)} {oc6 kV6 dc6 pm6 cd6 ct6 : Value}
    (a6 : PySem.W.nsIn K mainGlobals "is_plain_lot" = some (some (.ref f6))) (l6 : K.lookup f6 = some ⟨oc6, od6, .func (PySem.W.fnOf "is_plain_lot" "is_plain_lot" (defArgs (top 13)) (defBody (top 13)) (defScope (top 13)) .none kV6 dc6 pm6 an6 cd6 ct6), sl6⟩) (c6 : PySem.W.codeIn K cd6 "is_plain_lot" = true) (k6 : PySem.W.keepIn K (.ref f6) = true)
    {f7 : Addr} {od7 an7 : Option Addr} {sl7 : Array (Option Value)} {oc7 kV7 dc7 pm7 cd7 ct7 : Value}
    (a7 : PySem.W.nsIn K mainGlobals "dot" = some (some (.ref f7))) (l7 : K.lookup f7 = some ⟨oc7, od7, .func (PySem.W.fnOf "dot" "dot" (defArgs (top 14)) (defBody (top 14)) (defScope (top 14)) .none kV7 dc7 pm7 an7 cd7 ct7), sl7⟩) (c7 : PySem.W.codeIn K cd7 "dot" = true) (k7 : PySem.W.keepIn K (.ref f7) = true)
    {f8 : Addr} {od8 an8 : Option Addr} {sl8 : Array (Option Value)} {oc8 kV8 dc8 pm8 cd8 ct8 : Value}
    (a8 : PySem.W.nsIn K mainGlobals "sum_of_rows" = some (some (.ref f8))) (l8 : K.lookup f8 = some ⟨oc8, od8, .func (PySem.W.fnOf "sum_of_rows" "sum_of_rows" (defArgs (top 15)) (defBody (top 15)) (defScope (top 15)) .none kV8 dc8 pm8 an8 cd8 ct8), sl8⟩) (c8 : PySem.W.codeIn K cd8 "sum_of_rows" = true) (k8 : PySem.W.keepIn K (.ref f8) = true)
    {f9 : Addr} {od9 an9 : Option Addr} {sl9 : Array (Option Value)} {oc9 kV9 dc9 pm9 cd9 ct9 : Value}
    (a9 : PySem.W.nsIn K mainGlobals "times_row" = some (some (.ref f9))) (l9 : K.lookup f9 = some ⟨oc9, od9, .func (PySem.W.fnOf "times_row" "times_row" (defArgs (top 16)) (defBody (top 16)) (defScope (top 16)) .none kV9 dc9 pm9 an9 cd9 ct9), sl9⟩) (c9 : PySem.W.codeIn K cd9 "times_row" = true) (k9 : PySem.W.keepIn K (.ref f9) = true)
    {f10 : Addr} {od10 an10 : Option Addr} {sl10 : Array (Option Value)} {oc10 kV10 dc10 pm10 cd10 ct10 : Value}
    (a10 : PySem.W.nsIn K mainGlobals "less_by" = some (some (.ref f10))) (l10 : K.lookup f10 = some ⟨oc10, od10, .func (PySem.W.fnOf "less_by" "less_by" (defArgs (top 17)) (defBody (top 17)) (defScope (top 17)) .none kV10 dc10 pm10 an10 cd10 ct10), sl10⟩) (c10 : PySem.W.codeIn K cd10 "less_by" = true) (k10 : PySem.W.keepIn K (.ref f10) = true)
    {f11 : Addr} {od11 an11 : Option Addr} {sl11 : Array (Option Value)} {oc11 kV11 dc11 pm11 cd11 ct11 : Value}
    (a11 : PySem.W.nsIn K mainGlobals "rest_by" = some (some (.ref f11))) (l11 : K.lookup f11 = some ⟨oc11, od11, .func (PySem.W.fnOf "rest_by" "rest_by" (defArgs (top 18)) (defBody (top 18)) (defScope (top 18)) .none kV11 dc11 pm11 an11 cd11 ct11), sl11⟩) (c11 : PySem.W.codeIn K cd11 "rest_by" = true) (k11 : PySem.W.keepIn K (.ref f11) = true)
    {f12 : Addr} {od12 an12 : Option Addr} {sl12 : Array (Option Value)} {oc12 kV12 dc12 pm12 cd12 ct12 : Value}
    (a12 : PySem.W.nsIn K mainGlobals "with_row" = some (some (.ref f12))) (l12 : K.lookup f12 = some ⟨oc12, od12, .func (PySem.W.fnOf "with_row" "with_row" (defArgs (top 19)) (defBody (top 19)) (defScope (top 19)) .none kV12 dc12 pm12 an12 cd12 ct12), sl12⟩) (c12 : PySem.W.codeIn K cd12 "with_row" = true) (k12 : PySem.W.keepIn K (.ref f12) = true)
    {f13 : Addr} {od13 an13 : Option Addr} {sl13 : Array (Option Value)} {oc13 kV13 dc13 pm13 cd13 ct13 : Value}
    (a13 : PySem.W.nsIn K mainGlobals "lot_in" = some (some (.ref f13))) (l13 : K.lookup f13 = some ⟨oc13, od13, .func (PySem.W.fnOf "lot_in" "lot_in" (defArgs (top 20)) (defBody (top 20)) (defScope (top 20)) .none kV13 dc13 pm13 an13 cd13 ct13), sl13⟩) (c13 : PySem.W.codeIn K cd13 "lot_in" = true) (k13 : PySem.W.keepIn K (.ref f13) = true)
    {f14 : Addr} {od14 an14 : Option Addr} {sl14 : Array (Option Value)} {oc14 kV14 dc14 pm14 cd14 ct14 : Value}
    (a14 : PySem.W.nsIn K mainGlobals "is_row" = some (some (.ref f14))) (l14 : K.lookup f14 = some ⟨oc14, od14, .func (PySem.W.fnOf "is_row" "is_row" (defArgs (top 21)) (defBody (top 21)) (defScope (top 21)) .none kV14 dc14 pm14 an14 cd14 ct14), sl14⟩) (c14 : PySem.W.codeIn K cd14 "is_row" = true) (k14 : PySem.W.keepIn K (.ref f14) = true)
    {f15 : Addr} {od15 an15 : Option Addr} {sl15 : Array (Option Value)} {oc15 kV15 dc15 pm15 cd15 ct15 : Value}
    (a15 : PySem.W.nsIn K mainGlobals "is_lot" = some (some (.ref f15))) (l15 : K.lookup f15 = some ⟨oc15, od15, .func (PySem.W.fnOf "is_lot" "is_lot" (defArgs (top 22)) (defBody (top 22)) (defScope (top 22)) .none kV15 dc15 pm15 an15 cd15 ct15), sl15⟩) (c15 : PySem.W.codeIn K cd15 "is_lot" = true) (k15 : PySem.W.keepIn K (.ref f15) = true)
    {f16 : Addr} {od16 an16 : Option Addr} {sl16 : Array (Option Value)} {oc16 kV16 dc16 pm16 cd16 ct16 : Value}
    (a16 : PySem.W.nsIn K mainGlobals "require_row" = some (some (.ref f16))) (l16 : K.lookup f16 = some ⟨oc16, od16, .func (PySem.W.fnOf "require_row" "require_row" (defArgs (top 23)) (defBody (top 23)) (defScope (top 23)) .none kV16 dc16 pm16 an16 cd16 ct16), sl16⟩) (c16 : PySem.W.codeIn K cd16 "require_row" = true) (k16 : PySem.W.keepIn K (.ref f16) = true)
    {f17 : Addr} {od17 an17 : Option Addr} {sl17 : Array (Option Value)} {oc17 kV17 dc17 pm17 cd17 ct17 : Value}
    (a17 : PySem.W.nsIn K mainGlobals "require_rows" = some (some (.ref f17))) (l17 : K.lookup f17 = some ⟨oc17, od17, .func (PySem.W.fnOf "require_rows" "require_rows" (defArgs (top 24)) (defBody (top 24)) (defScope (top 24)) .none kV17 dc17 pm17 an17 cd17 ct17), sl17⟩) (c17 : PySem.W.codeIn K cd17 "require_rows" = true) (k17 : PySem.W.keepIn K (.ref f17) = true)
    {f18 : Addr} {od18 an18 : Option Addr} {sl18 : Array (Option Value)} {oc18 kV18 dc18 pm18 cd18 ct18 : Value}
    (a18 : PySem.W.nsIn K mainGlobals "row_plus" = some (some (.ref f18))) (l18 : K.lookup f18 = some ⟨oc18, od18, .func (PySem.W.fnOf "row_plus" "row_plus" (defArgs (top 25)) (defBody (top 25)) (defScope (top 25)) .none kV18 dc18 pm18 an18 cd18 ct18), sl18⟩) (c18 : PySem.W.codeIn K cd18 "row_plus" = true) (k18 : PySem.W.keepIn K (.ref f18) = true)
    {f19 : Addr} {od19 an19 : Option Addr} {sl19 : Array (Option Value)} {oc19 kV19 dc19 pm19 cd19 ct19 : Value}
    (a19 : PySem.W.nsIn K mainGlobals "row_times" = some (some (.ref f19))) (l19 : K.lookup f19 = some ⟨oc19, od19, .func (PySem.W.fnOf "row_times" "row_times" (defArgs (top 26)) (defBody (top 26)) (defScope (top 26)) .none kV19 dc19 pm19 an19 cd19 ct19), sl19⟩) (c19 : PySem.W.codeIn K cd19 "row_times" = true) (k19 : PySem.W.keepIn K (.ref f19) = true)
    {f20 : Addr} {od20 an20 : Option Addr} {sl20 : Array (Option Value)} {oc20 kV20 dc20 pm20 cd20 ct20 : Value}
    (a20 : PySem.W.nsIn K mainGlobals "product" = some (some (.ref f20))) (l20 : K.lookup f20 = some ⟨oc20, od20, .func (PySem.W.fnOf "product" "product" (defArgs (top 27)) (defBody (top 27)) (defScope (top 27)) .none kV20 dc20 pm20 an20 cd20 ct20), sl20⟩) (c20 : PySem.W.codeIn K cd20 "product" = true) (k20 : PySem.W.keepIn K (.ref f20) = true)
    {f21 : Addr} {od21 an21 : Option Addr} {sl21 : Array (Option Value)} {oc21 kV21 dc21 pm21 cd21 ct21 : Value}
    (a21 : PySem.W.nsIn K mainGlobals "lowest" = some (some (.ref f21))) (l21 : K.lookup f21 = some ⟨oc21, od21, .func (PySem.W.fnOf "lowest" "lowest" (defArgs (top 28)) (defBody (top 28)) (defScope (top 28)) .none kV21 dc21 pm21 an21 cd21 ct21), sl21⟩) (c21 : PySem.W.codeIn K cd21 "lowest" = true) (k21 : PySem.W.keepIn K (.ref f21) = true)
    {f22 : Addr} {od22 an22 : Option Addr} {sl22 : Array (Option Value)} {oc22 kV22 dc22 pm22 cd22 ct22 : Value}
    (a22 : PySem.W.nsIn K mainGlobals "lot_of" = some (some (.ref f22))) (l22 : K.lookup f22 = some ⟨oc22, od22, .func (PySem.W.fnOf "lot_of" "lot_of" (defArgs (top 29)) (defBody (top 29)) (defScope (top 29)) .none kV22 dc22 pm22 an22 cd22 ct22), sl22⟩) (c22 : PySem.W.codeIn K cd22 "lot_of" = true) (k22 : PySem.W.keepIn K (.ref f22) = true)
    {f23 : Addr} {od23 an23 : Option Addr} {sl23 : Array (Option Value)} {oc23 kV23 dc23 pm23 cd23 ct23 : Value}
    (a23 : PySem.W.nsIn K mainGlobals "_law_dice" = some (some (.ref f23))) (l23 : K.lookup f23 = some ⟨oc23, od23, .func (PySem.W.fnOf "_law_dice" "_law_dice" (defArgs (top 31)) (defBody (top 31)) (defScope (top 31)) .none kV23 dc23 pm23 an23 cd23 ct23), sl23⟩) (c23 : PySem.W.codeIn K cd23 "_law_dice" = true) (k23 : PySem.W.keepIn K (.ref f23) = true)
    {f24 : Addr} {od24 an24 : Option Addr} {sl24 : Array (Option Value)} {oc24 kV24 dc24 pm24 cd24 ct24 : Value}
    (a24 : PySem.W.nsIn K mainGlobals "_law_roll" = some (some (.ref f24))) (l24 : K.lookup f24 = some ⟨oc24, od24, .func (PySem.W.fnOf "_law_roll" "_law_roll" (defArgs (top 32)) (defBody (top 32)) (defScope (top 32)) .none kV24 dc24 pm24 an24 cd24 ct24), sl24⟩) (c24 : PySem.W.codeIn K cd24 "_law_roll" = true) (k24 : PySem.W.keepIn K (.ref f24) = true)
    {f25 : Addr} {od25 an25 : Option Addr} {sl25 : Array (Option Value)} {oc25 kV25 dc25 pm25 cd25 ct25 : Value}
    (a25 : PySem.W.nsIn K mainGlobals "_law_pick" = some (some (.ref f25))) (l25 : K.lookup f25 = some ⟨oc25, od25, .func (PySem.W.fnOf "_law_pick" "_law_pick" (defArgs (top 33)) (defBody (top 33)) (defScope (top 33)) .none kV25 dc25 pm25 an25 cd25 ct25), sl25⟩) (c25 : PySem.W.codeIn K cd25 "_law_pick" = true) (k25 : PySem.W.keepIn K (.ref f25) = true)
    {f26 : Addr} {od26 an26 : Option Addr} {sl26 : Array (Option Value)} {oc26 kV26 dc26 pm26 cd26 ct26 : Value}
    (a26 : PySem.W.nsIn K mainGlobals "_law_gcd" = some (some (.ref f26))) (l26 : K.lookup f26 = some ⟨oc26, od26, .func (PySem.W.fnOf "_law_gcd" "_law_gcd" (defArgs (top 34)) (defBody (top 34)) (defScope (top 34)) .none kV26 dc26 pm26 an26 cd26 ct26), sl26⟩) (c26 : PySem.W.codeIn K cd26 "_law_gcd" = true) (k26 : PySem.W.keepIn K (.ref f26) = true)
    {f27 : Addr} {od27 an27 : Option Addr} {sl27 : Array (Option Value)} {oc27 kV27 dc27 pm27 cd27 ct27 : Value}
    (a27 : PySem.W.nsIn K mainGlobals "_law_lead" = some (some (.ref f27))) (l27 : K.lookup f27 = some ⟨oc27, od27, .func (PySem.W.fnOf "_law_lead" "_law_lead" (defArgs (top 35)) (defBody (top 35)) (defScope (top 35)) .none kV27 dc27 pm27 an27 cd27 ct27), sl27⟩) (c27 : PySem.W.codeIn K cd27 "_law_lead" = true) (k27 : PySem.W.keepIn K (.ref f27) = true)
    {f28 : Addr} {od28 an28 : Option Addr} {sl28 : Array (Option Value)} {oc28 kV28 dc28 pm28 cd28 ct28 : Value}
    (a28 : PySem.W.nsIn K mainGlobals "_law_lowest" = some (some (.ref f28))) (l28 : K.lookup f28 = some ⟨oc28, od28, .func (PySem.W.fnOf "_law_lowest" "_law_lowest" (defArgs (top 36)) (defBody (top 36)) (defScope (top 36)) .none kV28 dc28 pm28 an28 cd28 ct28), sl28⟩) (c28 : PySem.W.codeIn K cd28 "_law_lowest" = true) (k28 : PySem.W.keepIn K (.ref f28) = true)
    {f29 : Addr} {od29 an29 : Option Addr} {sl29 : Array (Option Value)} {oc29 kV29 dc29 pm29 cd29 ct29 : Value}
    (a29 : PySem.W.nsIn K mainGlobals "_law_dot" = some (some (.ref f29))) (l29 : K.lookup f29 = some ⟨oc29, od29, .func (PySem.W.fnOf "_law_dot" "_law_dot" (defArgs (top 37)) (defBody (top 37)) (defScope (top 37)) .none kV29 dc29 pm29 an29 cd29 ct29), sl29⟩) (c29 : PySem.W.codeIn K cd29 "_law_dot" = true) (k29 : PySem.W.keepIn K (.ref f29) = true)
    {f30 : Addr} {od30 an30 : Option Addr} {sl30 : Array (Option Value)} {oc30 kV30 dc30 pm30 cd30 ct30 : Value}
    (a30 : PySem.W.nsIn K mainGlobals "_law_drawn" = some (some (.ref f30))) (l30 : K.lookup f30 = some ⟨oc30, od30, .func (PySem.W.fnOf "_law_drawn" "_law_drawn" (defArgs (top 38)) (defBody (top 38)) (defScope (top 38)) .none kV30 dc30 pm30 an30 cd30 ct30), sl30⟩) (c30 : PySem.W.codeIn K cd30 "_law_drawn" = true) (k30 : PySem.W.keepIn K (.ref f30) = true)
    {f31 : Addr} {od31 an31 : Option Addr} {sl31 : Array (Option Value)} {oc31 kV31 dc31 pm31 cd31 ct31 : Value}
    (a31 : PySem.W.nsIn K mainGlobals "_law_is_row" = some (some (.ref f31))) (l31 : K.lookup f31 = some ⟨oc31, od31, .func (PySem.W.fnOf "_law_is_row" "_law_is_row" (defArgs (top 39)) (defBody (top 39)) (defScope (top 39)) .none kV31 dc31 pm31 an31 cd31 ct31), sl31⟩) (c31 : PySem.W.codeIn K cd31 "_law_is_row" = true) (k31 : PySem.W.keepIn K (.ref f31) = true)
    {f32 : Addr} {od32 an32 : Option Addr} {sl32 : Array (Option Value)} {oc32 kV32 dc32 pm32 cd32 ct32 : Value}
    (a32 : PySem.W.nsIn K mainGlobals "_law_is_lot" = some (some (.ref f32))) (l32 : K.lookup f32 = some ⟨oc32, od32, .func (PySem.W.fnOf "_law_is_lot" "_law_is_lot" (defArgs (top 40)) (defBody (top 40)) (defScope (top 40)) .none kV32 dc32 pm32 an32 cd32 ct32), sl32⟩) (c32 : PySem.W.codeIn K cd32 "_law_is_lot" = true) (k32 : PySem.W.keepIn K (.ref f32) = true)
    {f33 : Addr} {od33 an33 : Option Addr} {sl33 : Array (Option Value)} {oc33 kV33 dc33 pm33 cd33 ct33 : Value}
    (a33 : PySem.W.nsIn K mainGlobals "_law_near" = some (some (.ref f33))) (l33 : K.lookup f33 = some ⟨oc33, od33, .func (PySem.W.fnOf "_law_near" "_law_near" (defArgs (top 41)) (defBody (top 41)) (defScope (top 41)) .none kV33 dc33 pm33 an33 cd33 ct33), sl33⟩) (c33 : PySem.W.codeIn K cd33 "_law_near" = true) (k33 : PySem.W.keepIn K (.ref f33) = true)
    {f34 : Addr} {od34 an34 : Option Addr} {sl34 : Array (Option Value)} {oc34 kV34 dc34 pm34 cd34 ct34 : Value}
    (a34 : PySem.W.nsIn K mainGlobals "_law_right" = some (some (.ref f34))) (l34 : K.lookup f34 = some ⟨oc34, od34, .func (PySem.W.fnOf "_law_right" "_law_right" (defArgs (top 42)) (defBody (top 42)) (defScope (top 42)) .none kV34 dc34 pm34 an34 cd34 ct34), sl34⟩) (c34 : PySem.W.codeIn K cd34 "_law_right" = true) (k34 : PySem.W.keepIn K (.ref f34) = true)
    {f35 : Addr} {od35 an35 : Option Addr} {sl35 : Array (Option Value)} {oc35 kV35 dc35 pm35 cd35 ct35 : Value}
    (a35 : PySem.W.nsIn K mainGlobals "law" = some (some (.ref f35))) (l35 : K.lookup f35 = some ⟨oc35, od35, .func (PySem.W.fnOf "law" "law" (defArgs (top 43)) (defBody (top 43)) (defScope (top 43)) .none kV35 dc35 pm35 an35 cd35 ct35), sl35⟩) (c35 : PySem.W.codeIn K cd35 "law" = true) (k35 : PySem.W.keepIn K (.ref f35) = true)
    (z_abs : PySem.W.nsIn K mainGlobals "abs" = some none)
    (z_all : PySem.W.nsIn K mainGlobals "all" = some none)
    (z_any : PySem.W.nsIn K mainGlobals "any" = some none)
    (z_bool : PySem.W.nsIn K mainGlobals "bool" = some none)
    (z_enumerate : PySem.W.nsIn K mainGlobals "enumerate" = some none)
    (z_int : PySem.W.nsIn K mainGlobals "int" = some none)
    (z_isinstance : PySem.W.nsIn K mainGlobals "isinstance" = some none)
    (z_len : PySem.W.nsIn K mainGlobals "len" = some none)
    (z_list : PySem.W.nsIn K mainGlobals "list" = some none)
    (z_max : PySem.W.nsIn K mainGlobals "max" = some none)
    (z_min : PySem.W.nsIn K mainGlobals "min" = some none)
    (z_range : PySem.W.nsIn K mainGlobals "range" = some none)
    (z_repr : PySem.W.nsIn K mainGlobals "repr" = some none)
    (z_set : PySem.W.nsIn K mainGlobals "set" = some none)
    (z_sorted : PySem.W.nsIn K mainGlobals "sorted" = some none)
    (z_sum : PySem.W.nsIn K mainGlobals "sum" = some none)
    (z_tuple : PySem.W.nsIn K mainGlobals "tuple" = some none)
    (z_zip : PySem.W.nsIn K mainGlobals "zip" = some none)
    {t_MAX_WIDTH : Tok} (e_MAX_WIDTH : PySem.W.nsIn K mainGlobals "MAX_WIDTH" = some (some (.int (60) t_MAX_WIDTH)))
    {base : Heap} : FnD P w K mg base "law" 8 1 F_law := by
  have T : Glb mg := ⟨PySem.W.mg_none_of X G z_abs, PySem.W.mg_none_of X G z_all, PySem.W.mg_none_of X G z_any, PySem.W.mg_none_of X G z_bool, PySem.W.mg_none_of X G z_enumerate, PySem.W.mg_none_of X G z_int, PySem.W.mg_none_of X G z_isinstance, PySem.W.mg_none_of X G z_len, PySem.W.mg_none_of X G z_list, PySem.W.mg_none_of X G z_max, PySem.W.mg_none_of X G z_min, PySem.W.mg_none_of X G z_range, PySem.W.mg_none_of X G z_repr, PySem.W.mg_none_of X G z_set, PySem.W.mg_none_of X G z_sorted, PySem.W.mg_none_of X G z_sum, PySem.W.mg_none_of X G z_tuple, PySem.W.mg_none_of X G z_zip, ⟨_, PySem.W.mg_of X G e_MAX_WIDTH⟩⟩
  have F0 := fun_mk (st := top 7) l0 c0 k0
  have h_is_integer : FnD P w K mg base "is_integer" 1 1 F_is_integer := ok_is_integer T F0 (PySem.W.mg_of X G a0) (F0.binds (ps := ["value"]) fun _ _ _ _ _ _ us hl => match us, hl with | [_], _ => rfl) 
  have F1 := fun_mk (st := top 8) l1 c1 k1
  have h_require_width : FnD P w K mg base "require_width" 2 1 F_require_width := ok_require_width T F1 (PySem.W.mg_of X G a1) (F1.binds (ps := ["width"]) fun _ _ _ _ _ _ us hl => match us, hl with | [_], _ => rfl) h_is_integer
  have F2 := fun_mk (st := top 9) l2 c2 k2
  have h_is_plain_row : FnD P w K mg base "is_plain_row" 2 2 F_is_plain_row := ok_is_plain_row T F2 (PySem.W.mg_of X G a2) (F2.binds (ps := ["width", "value"]) fun _ _ _ _ _ _ us hl => match us, hl with | [_, _], _ => rfl) h_is_integer
  have F3 := fun_mk (st := top 10) l3 c3 k3
  have h_lead_in : FnD P w K mg base "lead_in" 1 1 F_lead_in := ok_lead_in T F3 (PySem.W.mg_of X G a3) (F3.binds (ps := ["row"]) fun _ _ _ _ _ _ us hl => match us, hl with | [_], _ => rfl) 
  have F4 := fun_mk (st := top 11) l4 c4 k4
  have h_common_share : FnD P w K mg base "common_share" 1 2 F_common_share := ok_common_share T F4 (PySem.W.mg_of X G a4) (F4.binds (ps := ["one", "other"]) fun _ _ _ _ _ _ us hl => match us, hl with | [_, _], _ => rfl) 
  have F5 := fun_mk (st := top 12) l5 c5 k5
  have h_lowest_row : FnD P w K mg base "lowest_row" 2 1 F_lowest_row := ok_lowest_row T F5 (PySem.W.mg_of X G a5) (F5.binds (ps := ["row"]) fun _ _ _ _ _ _ us hl => match us, hl with | [_], _ => rfl) h_lead_in h_common_share
  have F6 := fun_mk (st := top 13) l6 c6 k6
  have h_is_plain_lot : FnD P w K mg base "is_plain_lot" 3 2 F_is_plain_lot := ok_is_plain_lot T F6 (PySem.W.mg_of X G a6) (F6.binds (ps := ["width", "value"]) fun _ _ _ _ _ _ us hl => match us, hl with | [_, _], _ => rfl) h_is_plain_row h_lead_in h_lowest_row
  have F7 := fun_mk (st := top 14) l7 c7 k7
  have h_dot : FnD P w K mg base "dot" 1 2 F_dot := ok_dot T F7 (PySem.W.mg_of X G a7) (F7.binds (ps := ["one", "other"]) fun _ _ _ _ _ _ us hl => match us, hl with | [_, _], _ => rfl) 
  have F8 := fun_mk (st := top 15) l8 c8 k8
  have h_sum_of_rows : FnD P w K mg base "sum_of_rows" 1 2 F_sum_of_rows := ok_sum_of_rows T F8 (PySem.W.mg_of X G a8) (F8.binds (ps := ["one", "other"]) fun _ _ _ _ _ _ us hl => match us, hl with | [_, _], _ => rfl) 
  have F9 := fun_mk (st := top 16) l9 c9 k9
  have h_times_row : FnD P w K mg base "times_row" 1 2 F_times_row := ok_times_row T F9 (PySem.W.mg_of X G a9) (F9.binds (ps := ["number", "row"]) fun _ _ _ _ _ _ us hl => match us, hl with | [_, _], _ => rfl) 
  have F10 := fun_mk (st := top 17) l10 c10 k10
  have h_less_by : FnD P w K mg base "less_by" 2 2 F_less_by := ok_less_by T F10 (PySem.W.mg_of X G a10) (F10.binds (ps := ["row", "other"]) fun _ _ _ _ _ _ us hl => match us, hl with | [_, _], _ => rfl) h_lead_in
  have F11 := fun_mk (st := top 18) l11 c11 k11
  have h_rest_by : FnD P w K mg base "rest_by" 3 2 F_rest_by := ok_rest_by T F11 (PySem.W.mg_of X G a11) (F11.binds (ps := ["lot", "row"]) fun _ _ _ _ _ _ us hl => match us, hl with | [_, _], _ => rfl) h_less_by
  have F12 := fun_mk (st := top 19) l12 c12 k12
  have h_with_row : FnD P w K mg base "with_row" 4 2 F_with_row := ok_with_row T F12 (PySem.W.mg_of X G a12) (F12.binds (ps := ["lot", "row"]) fun _ _ _ _ _ _ us hl => match us, hl with | [_, _], _ => rfl) h_lead_in h_lowest_row h_less_by h_rest_by
  have F13 := fun_mk (st := top 20) l13 c13 k13
  have h_lot_in : FnD P w K mg base "lot_in" 5 1 F_lot_in := ok_lot_in T F13 (PySem.W.mg_of X G a13) (F13.binds (ps := ["rows"]) fun _ _ _ _ _ _ us hl => match us, hl with | [_], _ => rfl) h_with_row
  have F14 := fun_mk (st := top 21) l14 c14 k14
  have h_is_row : FnD P w K mg base "is_row" 3 2 F_is_row := ok_is_row T F14 (PySem.W.mg_of X G a14) (F14.binds (ps := ["width", "value"]) fun _ _ _ _ _ _ us hl => match us, hl with | [_, _], _ => rfl) h_require_width h_is_plain_row
  have F15 := fun_mk (st := top 22) l15 c15 k15
  have h_is_lot : FnD P w K mg base "is_lot" 4 2 F_is_lot := ok_is_lot T F15 (PySem.W.mg_of X G a15) (F15.binds (ps := ["width", "value"]) fun _ _ _ _ _ _ us hl => match us, hl with | [_, _], _ => rfl) h_require_width h_is_plain_lot
  have F16 := fun_mk (st := top 23) l16 c16 k16
  have h_require_row : FnD P w K mg base "require_row" 3 2 F_require_row := ok_require_row T F16 (PySem.W.mg_of X G a16) (F16.binds (ps := ["width", "row"]) fun _ _ _ _ _ _ us hl => match us, hl with | [_, _], _ => rfl) h_is_plain_row
  have F17 := fun_mk (st := top 24) l17 c17 k17
  have h_require_rows : FnD P w K mg base "require_rows" 3 2 F_require_rows := ok_require_rows T F17 (PySem.W.mg_of X G a17) (F17.binds (ps := ["width", "rows"]) fun _ _ _ _ _ _ us hl => match us, hl with | [_, _], _ => rfl) h_is_plain_row
  have F18 := fun_mk (st := top 25) l18 c18 k18
  have h_row_plus : FnD P w K mg base "row_plus" 4 3 F_row_plus := ok_row_plus T F18 (PySem.W.mg_of X G a18) (F18.binds (ps := ["width", "one", "other"]) fun _ _ _ _ _ _ us hl => match us, hl with | [_, _, _], _ => rfl) h_require_width h_sum_of_rows h_require_row
  have F19 := fun_mk (st := top 26) l19 c19 k19
  have h_row_times : FnD P w K mg base "row_times" 4 3 F_row_times := ok_row_times T F19 (PySem.W.mg_of X G a19) (F19.binds (ps := ["width", "number", "row"]) fun _ _ _ _ _ _ us hl => match us, hl with | [_, _, _], _ => rfl) h_is_integer h_require_width h_times_row h_require_row
  have F20 := fun_mk (st := top 27) l20 c20 k20
  have h_product : FnD P w K mg base "product" 4 3 F_product := ok_product T F20 (PySem.W.mg_of X G a20) (F20.binds (ps := ["width", "one", "other"]) fun _ _ _ _ _ _ us hl => match us, hl with | [_, _, _], _ => rfl) h_require_width h_dot h_require_row
  have F21 := fun_mk (st := top 28) l21 c21 k21
  have h_lowest : FnD P w K mg base "lowest" 4 2 F_lowest := ok_lowest T F21 (PySem.W.mg_of X G a21) (F21.binds (ps := ["width", "row"]) fun _ _ _ _ _ _ us hl => match us, hl with | [_, _], _ => rfl) h_require_width h_lowest_row h_require_row
  have F22 := fun_mk (st := top 29) l22 c22 k22
  have h_lot_of : FnD P w K mg base "lot_of" 6 2 F_lot_of := ok_lot_of T F22 (PySem.W.mg_of X G a22) (F22.binds (ps := ["width", "rows"]) fun _ _ _ _ _ _ us hl => match us, hl with | [_, _], _ => rfl) h_require_width h_lot_in h_require_rows
  have F23 := fun_mk (st := top 31) l23 c23 k23
  have h_L_dice : FnD P w K mg base "_law_dice" 1 2 F_L_dice := ok_L_dice T F23 (PySem.W.mg_of X G a23) (F23.binds (ps := ["script", "spot"]) fun _ _ _ _ _ _ us hl => match us, hl with | [_, _], _ => rfl) 
  have F24 := fun_mk (st := top 32) l24 c24 k24
  have h_L_roll : FnD P w K mg base "_law_roll" 1 2 F_L_roll := ok_L_roll T F24 (PySem.W.mg_of X G a24) (F24.binds (ps := ["dice", "total"]) fun _ _ _ _ _ _ us hl => match us, hl with | [_, _], _ => rfl) 
  have F25 := fun_mk (st := top 33) l25 c25 k25
  have h_L_pick : FnD P w K mg base "_law_pick" 2 2 F_L_pick := ok_L_pick T F25 (PySem.W.mg_of X G a25) (F25.binds (ps := ["dice", "items"]) fun _ _ _ _ _ _ us hl => match us, hl with | [_, _], _ => rfl) h_L_roll
  have F26 := fun_mk (st := top 34) l26 c26 k26
  have h_L_gcd : FnD P w K mg base "_law_gcd" 1 2 F_L_gcd := ok_L_gcd T F26 (PySem.W.mg_of X G a26) (F26.binds (ps := ["one", "other"]) fun _ _ _ _ _ _ us hl => match us, hl with | [_, _], _ => rfl) 
  have F27 := fun_mk (st := top 35) l27 c27 k27
  have h_L_lead : FnD P w K mg base "_law_lead" 1 1 F_L_lead := ok_L_lead T F27 (PySem.W.mg_of X G a27) (F27.binds (ps := ["row"]) fun _ _ _ _ _ _ us hl => match us, hl with | [_], _ => rfl) 
  have F28 := fun_mk (st := top 36) l28 c28 k28
  have h_L_lowest : FnD P w K mg base "_law_lowest" 2 1 F_L_lowest := ok_L_lowest T F28 (PySem.W.mg_of X G a28) (F28.binds (ps := ["row"]) fun _ _ _ _ _ _ us hl => match us, hl with | [_], _ => rfl) h_L_gcd h_L_lead
  have F29 := fun_mk (st := top 37) l29 c29 k29
  have h_L_dot : FnD P w K mg base "_law_dot" 1 2 F_L_dot := ok_L_dot T F29 (PySem.W.mg_of X G a29) (F29.binds (ps := ["one", "other"]) fun _ _ _ _ _ _ us hl => match us, hl with | [_, _], _ => rfl) 
  have F30 := fun_mk (st := top 38) l30 c30 k30
  have h_L_drawn : FnD P w K mg base "_law_drawn" 3 2 F_L_drawn := ok_L_drawn T F30 (PySem.W.mg_of X G a30) (F30.binds (ps := ["dice", "wide"]) fun _ _ _ _ _ _ us hl => match us, hl with | [_, _], _ => rfl) h_L_pick
  have F31 := fun_mk (st := top 39) l31 c31 k31
  have h_L_is_row : FnD P w K mg base "_law_is_row" 1 2 F_L_is_row := ok_L_is_row T F31 (PySem.W.mg_of X G a31) (F31.binds (ps := ["wide", "value"]) fun _ _ _ _ _ _ us hl => match us, hl with | [_, _], _ => rfl) 
  have F32 := fun_mk (st := top 40) l32 c32 k32
  have h_L_is_lot : FnD P w K mg base "_law_is_lot" 3 2 F_L_is_lot := ok_L_is_lot T F32 (PySem.W.mg_of X G a32) (F32.binds (ps := ["wide", "value"]) fun _ _ _ _ _ _ us hl => match us, hl with | [_, _], _ => rfl) h_L_lead h_L_lowest h_L_is_row
  have F33 := fun_mk (st := top 41) l33 c33 k33
  have h_L_near : FnD P w K mg base "_law_near" 4 3 F_L_near := ok_L_near T F33 (PySem.W.mg_of X G a33) (F33.binds (ps := ["dice", "wide", "lot"]) fun _ _ _ _ _ _ us hl => match us, hl with | [_, _, _], _ => rfl) h_L_roll h_L_lowest h_L_drawn
  have F34 := fun_mk (st := top 42) l34 c34 k34
  have h_L_right : FnD P w K mg base "_law_right" 7 2 F_L_right := ok_L_right T F34 (PySem.W.mg_of X G a34) (F34.binds (ps := ["dice", "wide"]) fun _ _ _ _ _ _ us hl => match us, hl with | [_, _], _ => rfl) h_is_row h_is_lot h_row_plus h_row_times h_product h_lowest h_lot_of h_L_roll h_L_pick h_L_lowest h_L_dot h_L_drawn h_L_is_row h_L_is_lot h_L_near
  have F35 := fun_mk (st := top 43) l35 c35 k35
  have h_law : FnD P w K mg base "law" 8 1 F_law := ok_law T F35 (PySem.W.mg_of X G a35) (F35.binds (ps := ["script"]) fun _ _ _ _ _ _ us hl => match us, hl with | [_], _ => rfl) h_is_lot h_product h_lowest h_L_dice h_L_roll h_L_right
  exact h_law
end K13

namespace K13
open PySem PySem.Spec PyProof.Rows L2 DL
/-! ### the values that are met: trees without things that change -/
inductive Fine : D → Prop
  | non : Fine .non
  | bl (b : Bool) : Fine (.bl b)
  | int (i : Int) : Fine (.int i)
  | str (x : Str) : Fine (.str x)
  | tup (xs : List D) (h : ∀ x ∈ xs, Fine x) : Fine (.tup xs)
  | lst (xs : List D) (h : ∀ x ∈ xs, Fine x) : Fine (.lst xs)
  | dct (kvs : List (D × D)) : Fine (.dct kvs)
def isI : D → Bool | .int _ => true | _ => false
theorem Fine.no {d : D} (h : Fine d) : noOwn d = true := by cases h <;> rfl
theorem is_integer_ok {d : D} (h : Fine d) (μ : List Cell) : F_is_integer [d] μ = .ok (.bl (isI d)) μ := by
  cases h <;> rfl
theorem ri_fine (xs : List Int) : Fine (Ri xs) := .tup _ fun x hx => by
  obtain ⟨i, _, rfl⟩ := List.mem_map.mp hx
  exact .int i
/-- a row of w ints -/
def rowB (w : Nat) : D → Bool
  | .tup xs => xs.length == w && xs.all isI
  | _ => false
theorem rowB_of {w : Nat} {d : D} (h : rowB w d = true) : ∃ xs : List Int, d = Ri xs ∧ xs.length = w := by
  unfold rowB at h
  split at h
  · rename_i ds
    rw [Bool.and_eq_true] at h
    have key : ∀ ds : List D, ds.all isI = true → ∃ xs : List Int, ds = xs.map .int := by
      intro ds
      induction ds with
      | nil => exact fun _ => ⟨[], rfl⟩
      | cons d ds ih =>
        intro h
        rw [List.all_cons, Bool.and_eq_true] at h
        obtain ⟨xs, rfl⟩ := ih h.2
        cases d <;> simp [isI] at h
        exact ⟨_ :: xs, rfl⟩
    obtain ⟨xs, rfl⟩ := key ds h.2
    exact ⟨xs, rfl, by simpa using h.1⟩
  · cases h
theorem rowB_ri (w : Nat) (xs : List Int) : rowB w (Ri xs) = (xs.length == w) := by
  unfold rowB
  have : (xs.map D.int).all isI = true := by simp [isI]
  simp [this]
/-- all(..) of bools -/
theorem bl_py {α : Type} (f : α → Bool) : ∀ xs : List α, toPyL (xs.map fun x => D.bl (f x)) = some (xs.map fun x => .bool (f x))
  | [] => rfl
  | x :: xs => by simp [toPyL, toPy, bl_py f xs]
theorem bl_plain {α : Type} (f : α → Bool) : ∀ xs : List α, PyData.plainAll (xs.map fun x => PyData.bool (f x)) = true
  | [] => by simp [PyData.plainAll]
  | x :: xs => by simp [PyData.plainAll, PyData.plain, bl_plain f xs]
@[simp] theorem all_bl {α : Type} (s : S) (f : α → Bool) (xs : List α) : gAll s [.lst (xs.map fun x => .bl (f x))] = some (.bl (xs.all f)) := by
  simp only [gAll, asl_lst, Option.bind_some, truthP, bl_py, bl_plain, Bool.true_and]
  rw [if_pos (by simp)]
  simp only [Option.map_some]
  congr 2
  rw [List.all_map]
  rfl
@[simp] theorem any_bl {α : Type} (s : S) (f : α → Bool) (xs : List α) : gAny s [.lst (xs.map fun x => .bl (f x))] = some (.bl (xs.any f)) := by
  simp only [gAny, asl_lst, Option.bind_some, truthP, bl_py, bl_plain, Bool.true_and]
  rw [if_pos (by simp)]
  simp only [Option.map_some]
  congr 2
  rw [List.any_map]
  rfl
theorem require_width_ok {w : Nat} (h1 : 1 ≤ w) (h2 : w ≤ 60) (μ : List Cell) : F_require_width [.int w] μ = .ok .non μ := by
  have d1 : decide ((1 : Int) ≤ w) = true := decide_eq_true (by omega)
  have d2 : decide ((w : Int) ≤ 60) = true := decide_eq_true (by omega)
  simp [F_require_width, b_require_width, runF, is_integer_ok (.int _), isI, dChainT, dChain, d1, d2]
/-- a comprehension over fine data -/
theorem isI_comp (a b : D) (c : Slot) (μ : List Cell) : ∀ ds : List D, (∀ d ∈ ds, Fine d) → dLcGo [2] (gNm 2) dYes (dCall F_is_integer (dCons (dVar 2) dNil)) ds ⟨[.val a, .val b, c], μ⟩ = .ok (ds.map fun d => .bl (isI d)) ⟨[.val a, .val b, c], μ⟩
  | [], _ => rfl
  | d :: ds, h => by
    have hd := h d (by simp)
    simp [dLcGo, wipeD, backD, is_integer_ok hd, hd.no, isI_comp a b c μ ds fun x hx => h x (by simp [hx])]
theorem is_plain_row_ok {w : Nat} {v : D} (h : Fine v) (hl : ∀ xs, v = .tup xs → xs.length ≤ 16777216) (μ : List Cell) : F_is_plain_row [.int w, v] μ = .ok (.bl (rowB w v)) μ := by
  cases h with
  | tup xs hx =>
    have hl := hl xs rfl
    by_cases hw : xs.length = w
    · subst hw
      simp [F_is_plain_row, b_is_plain_row, runF, gIsi, tyD, kitB, gLen, hl, isI_comp _ _ _ _ _ hx, rowB]
    · have e : ((xs.length : Int) == (w : Int)) = false := by simp; omega
      have e2 : (xs.length == w) = false := by simpa using hw
      simp [F_is_plain_row, b_is_plain_row, runF, gIsi, tyD, kitB, gLen, e, rowB, e2]
  | non => rfl
  | bl b => rfl
  | int i => rfl
  | str x => rfl
  | lst xs h => rfl
  | dct k => rfl
end K13

namespace K13
open PySem PySem.Spec PyProof.Rows L2 DL
def lead : List Int → Option Nat
  | [] => none
  | x :: xs => if x = 0 then (lead xs).map (· + 1) else some 0
def optD : Option Nat → D | some i => .int i | none => .non
theorem lead_loop (r : Slot) (μ : List Cell) : ∀ (xs : List Int) (k : Nat) (a b : Slot), ∃ a' b', dFor (gT (gC (gNm 1) (gC (gNm 2) gN))) (dIfS (dCmpT neS (dVar 2) (dC (.int (0)))) (dRet (dVar 1)) dSkip) (enD k (xs.map .int)) ⟨[r, a, b], μ⟩ =
    (match lead xs with | some i => .rt (.int ((k : Int) + (i : Int))) ⟨[r, a', b'], μ⟩ | none => .nx ⟨[r, a', b'], μ⟩)
  | [], k, a, b => ⟨a, b, rfl⟩
  | x :: xs, k, a, b => by
    by_cases h : x = 0
    · subst h
      obtain ⟨a', b', e⟩ := lead_loop r μ xs (k + 1) (.val (.int k)) (.val (.int 0))
      refine ⟨a', b', ?_⟩
      simp [enD, dFor, lead]
      rw [e]
      cases lead xs with
      | none => rfl
      | some i =>
        simp only [Option.map_some]
        rw [show ((k + 1 : Nat) : Int) + (i : Int) = (k : Int) + ((i + 1 : Nat) : Int) from by omega]
    · refine ⟨.val (.int k), .val (.int x), ?_⟩
      have hx : (!(x == 0)) = true := by simpa using h
      simp [enD, dFor, lead, h, hx]
theorem lead_in_ok (xs : List Int) (μ : List Cell) : F_lead_in [Ri xs] μ = .ok (optD (lead xs)) μ := by
  obtain ⟨a', b', e⟩ := lead_loop (.val (Ri xs)) μ xs 0 .no .no
  simp [F_lead_in, b_lead_in, runF, dForI, e]
  cases lead xs with
  | none => simp [optD]
  | some i => simp [optD]
/-! the common share -/
theorem fmod_lt {a b : Int} (h : b ≠ 0) : (a.fmod b).natAbs < b.natAbs := by
  rcases Int.lt_or_gt_of_ne h with h | h
  · have e : a.fmod b = -((-a).fmod (-b)) := by rw [Int.neg_fmod_neg, Int.neg_neg]
    have h1 := Int.fmod_nonneg_of_pos (-a) (b := -b) (by omega)
    have h2 := Int.fmod_lt_of_pos (-a) (b := -b) (by omega)
    omega
  · have h1 := Int.fmod_nonneg_of_pos a h
    have h2 := Int.fmod_lt_of_pos a h
    omega
theorem gcd_fmod (a b : Int) : Int.gcd b (a.fmod b) = Int.gcd a b := by
  rw [Int.fmod_def, Int.gcd_sub_mul_left_right, Int.gcd_comm]
theorem share_loop (μ : List Cell) : ∀ (n : Nat) (a b : Int), b.natAbs < n → ∃ g : Int, g.natAbs = Int.gcd a b ∧ dWhile (dCmpT neS (dVar 1) (dC (.int (0)))) (dPar 0 1 (dCons (dVar 1) (dCons (dOp gMod (dVar 0) (dVar 1)) dNil))) n ⟨[.val (.int a), .val (.int b)], μ⟩ = .nx ⟨[.val (.int g), .val (.int 0)], μ⟩
  | 0, a, b, h => by omega
  | n + 1, a, b, h => by
    by_cases hb : b = 0
    · subst hb
      exact ⟨a, by simp, by simp [dWhile]⟩
    · obtain ⟨g, h1, h2⟩ := share_loop μ n b (a.fmod b) (by have := fmod_lt (a := a) hb; omega)
      refine ⟨g, by rw [h1, gcd_fmod], ?_⟩
      have hx : (!(b == 0)) = true := by simpa using hb
      simp [dWhile, hx, dPar, mod_ii hb, h2]
theorem common_share_ok (a b : Int) (μ : List Cell) : F_common_share [.int a, .int b] μ = .ok (.int (Int.gcd a b)) μ := by
  obtain ⟨g, h1, h2⟩ := share_loop μ (b.natAbs + 1) a b (by omega)
  simp [F_common_share, fu0_common_share, b_common_share, runF, h2, gAbs]
  split <;> omega
theorem L_gcd_ok (a b : Int) (μ : List Cell) : F_L_gcd [.int a, .int b] μ = .ok (.int (Int.gcd a b)) μ := common_share_ok a b μ
/-! the lowest row -/
def gcdF (g : Nat) : List Int → Nat
  | [] => g
  | x :: xs => gcdF (Int.gcd g x) xs
def gcdL (xs : List Int) : Nat := gcdF 0 xs
def leadV (xs : List Int) : Int := match lead xs with | some i => xs.getD i 0 | none => 0
def sgn (xs : List Int) : Int := if leadV xs < 0 then -(gcdL xs : Int) else gcdL xs
def low (xs : List Int) : List Int := if gcdL xs = 0 then xs else xs.map fun x => x.fdiv (sgn xs)
theorem gcdF_dvd : ∀ (xs : List Int) (g : Nat), gcdF g xs ∣ g ∧ ∀ x ∈ xs, (gcdF g xs : Int) ∣ x
  | [], g => ⟨Nat.dvd_refl _, by simp⟩
  | x :: xs, g => by
    obtain ⟨h1, h2⟩ := gcdF_dvd xs (Int.gcd g x)
    have a1 : (Int.gcd g x : Int) ∣ (g : Int) := Int.gcd_dvd_left ..
    have a2 : (Int.gcd g x : Int) ∣ x := Int.gcd_dvd_right ..
    refine ⟨Nat.dvd_trans h1 (Int.natCast_dvd_natCast.mp a1), fun y hy => ?_⟩
    rcases List.mem_cons.mp hy with rfl | hy
    · exact Int.dvd_trans (Int.natCast_dvd_natCast.mpr h1) a2
    · exact h2 y hy
theorem gcdF_zero : ∀ (xs : List Int) (g : Nat), gcdF g xs = 0 ↔ g = 0 ∧ ∀ x ∈ xs, x = 0
  | [], g => by simp [gcdF]
  | x :: xs, g => by
    rw [gcdF, gcdF_zero xs]
    simp only [Int.gcd_eq_zero_iff, List.mem_cons, forall_eq_or_imp]
    constructor
    · rintro ⟨⟨a, b⟩, c⟩
      exact ⟨by omega, b, c⟩
    · rintro ⟨a, b, c⟩
      exact ⟨⟨by omega, b⟩, c⟩
theorem lead_some : ∀ {xs : List Int} {i : Nat}, lead xs = some i → ∃ h : i < xs.length, xs[i] ≠ 0
  | [], i, h => by simp [lead] at h
  | x :: xs, i, h => by
    unfold lead at h
    split at h
    · simp only [Option.map_eq_some_iff] at h
      obtain ⟨j, h1, rfl⟩ := h
      obtain ⟨h2, h3⟩ := lead_some h1
      exact ⟨by simp; omega, by simpa using h3⟩
    · cases h
      exact ⟨by simp, by simpa⟩
theorem lead_none : ∀ {xs : List Int}, lead xs = none ↔ ∀ x ∈ xs, x = 0
  | [] => by simp [lead]
  | x :: xs => by
    unfold lead
    split
    · rename_i h
      simp [h, lead_none (xs := xs)]
    · rename_i h
      simp [h]
theorem gcdL_zero {xs : List Int} : gcdL xs = 0 ↔ lead xs = none := by
  rw [lead_none, gcdL, gcdF_zero]
  simp
/-- the ints are not too great -/
def Bd (n : Nat) (xs : List Int) : Prop := ∀ x ∈ xs, x.natAbs < 2 ^ n
theorem log_lt {a n : Nat} (h : a < 2 ^ n) (hn : 0 < n) : a.log2 < n := by
  by_cases ha : a = 0
  · subst ha; simpa using hn
  · exact (Nat.log2_lt ha).mpr h
theorem fdivOk_of {a b : Int} {n : Nat} (h0 : b ≠ 0) (h : b.natAbs < 2 ^ n) (hn : 0 < n) (hn2 : n ≤ 8900) : fdivOk a b = true := by
  have hl := log_lt h hn
  unfold fdivOk Builtin.divisionGoesByPylong
  have e : (b == 0) = false := by simpa using h0
  have e2 : (b != 0) = true := by simpa using h0
  simp only [e, e2, Bool.true_and, Bool.not_eq_true', Bool.and_eq_false_iff, decide_eq_false_iff_not]
  left
  simp only [Bool.false_eq_true, if_false]
  omega
theorem gcdL_bd {xs : List Int} {n : Nat} (h : Bd n xs) (h0 : gcdL xs ≠ 0) : gcdL xs < 2 ^ n := by
  have h1 : lead xs ≠ none := fun z => h0 (gcdL_zero.mpr z)
  cases e : lead xs with
  | none => exact absurd e h1
  | some i =>
    obtain ⟨hi, hx⟩ := lead_some e
    have hm : xs[i] ∈ xs := List.getElem_mem hi
    have hd := (gcdF_dvd xs 0).2 _ hm
    have := Nat.le_of_dvd (by omega) (Int.ofNat_dvd_left.mp hd)
    have := h _ hm
    unfold gcdL
    omega
theorem share_for (r : Slot) (μ : List Cell) : ∀ (xs : List Int) (g : Nat) (c : DL.Slot), ∃ c', (c' = c ∨ ∃ d, c' = .val d) ∧ dFor (gNm 2) (dAsg 1 (dCall F_common_share (dCons (dVar 1) (dCons (dVar 2) dNil)))) (xs.map .int) ⟨[r, .val (.int g), c], μ⟩ = .nx ⟨[r, .val (.int (gcdF g xs)), c'], μ⟩
  | [], g, c => ⟨c, .inl rfl, rfl⟩
  | x :: xs, g, c => by
    obtain ⟨c', hc, e⟩ := share_for r μ xs (Int.gcd g x) (.val (.int x))
    refine ⟨c', .inr (hc.elim (fun z => ⟨_, z⟩) fun z => z), ?_⟩
    simp [dFor, common_share_ok, gcdF]
    exact e
theorem div_comp (r c : Slot) (μ : List Cell) {s : Int} (h : ∀ a, fdivOk a s = true) : ∀ xs : List Int, dLcGo [2] (gNm 2) dYes (dOp gFdiv (dVar 2) (dVar 1)) (xs.map .int) ⟨[r, .val (.int s), c], μ⟩ = .ok (xs.map fun x => .int (x.fdiv s)) ⟨[r, .val (.int s), c], μ⟩
  | [] => rfl
  | x :: xs => by
    simp [dLcGo, wipeD, backD, fdiv_ii (h x), div_comp r c μ h xs]
theorem ix_row (s : S) (xs : List Int) (i : Nat) (h : i < xs.length) : gIx s (.tup (xs.map .int)) (.int i) = some (.int xs[i]) := by
  simp [gIx, L2.atI, L2.ixN, h]
theorem lowest_row_ok {xs : List Int} (h : Bd 8000 xs) (hl : xs.length ≤ 16777216) (μ : List Cell) : F_lowest_row [Ri xs] μ = .ok (Ri (low xs)) μ := by
  obtain ⟨c', hc, e⟩ := share_for (.val (Ri xs)) μ xs 0 .no
  have hc : c' = .no ∨ ∃ d, c' = .val d := hc
  have e : dFor (gNm 2) (dAsg 1 (dCall F_common_share (dCons (dVar 1) (dCons (dVar 2) dNil)))) (xs.map .int) ⟨[.val (Ri xs), .val (.int 0), .no], μ⟩ = .nx ⟨[.val (Ri xs), .val (.int (gcdL xs)), c'], μ⟩ := e
  by_cases h0 : gcdL xs = 0
  · simp [F_lowest_row, b_lowest_row, runF, dForI, e, h0, gTuple, low]
  · have h1 : ((gcdL xs : Int) == 0) = false := by simpa using h0
    cases el : lead xs with
    | none => exact absurd (gcdL_zero.mpr el) h0
    | some i =>
      obtain ⟨hi, hx⟩ := lead_some el
      have hb := gcdL_bd h h0
      have lv : leadV xs = xs[i] := by
        unfold leadV
        rw [el]
        simp [List.getD, hi]
      by_cases hs : xs[i] < 0
      · have ed : decide (xs[i] < 0) = true := decide_eq_true hs
        have es : sgn xs = -(gcdL xs : Int) := by unfold sgn; rw [lv, if_pos hs]
        have ok : ∀ a, fdivOk a (-(gcdL xs : Int)) = true := fun a => fdivOk_of (n := 8000) (by omega) (by omega) (by decide) (by decide)
        rcases hc with rfl | ⟨d, rfl⟩ <;> simp [F_lowest_row, b_lowest_row, runF, dForI, e, h1, lead_in_ok, el, optD, ix_row _ _ _ hi, ed, gTuple, low, h0, hl, div_comp _ _ _ ok, es]
      · have ed : decide (xs[i] < 0) = false := decide_eq_false hs
        have es : sgn xs = (gcdL xs : Int) := by unfold sgn; rw [lv, if_neg hs]
        have ok : ∀ a, fdivOk a (gcdL xs : Int) = true := fun a => fdivOk_of (n := 8000) (by omega) (by omega) (by decide) (by decide)
        rcases hc with rfl | ⟨d, rfl⟩ <;> simp [F_lowest_row, b_lowest_row, runF, dForI, e, h1, lead_in_ok, el, optD, ix_row _ _ _ hi, ed, gTuple, low, h0, hl, div_comp _ _ _ ok, es]
end K13

namespace K13
open PySem PySem.Spec PyProof.Rows L2 DL
/-! ### the law's lead and lowest -/
def nz (k : Nat) : List Int → List Int
  | [] => []
  | x :: xs => if x = 0 then nz (k + 1) xs else (k : Int) :: nz (k + 1) xs
def leadL (xs : List Int) : Nat := match lead xs with | some i => i | none => xs.length
theorem nz_comp (r : DL.Slot) (μ : List Cell) : ∀ (xs : List Int) (k : Nat), dLcGo [1, 2] (gT (gC (gNm 1) (gC (gNm 2) gN))) (dCmpT neS (dVar 2) (dC (.int (0)))) (dVar 1) (enD k (xs.map .int)) ⟨[r, .no, .no], μ⟩ = .ok ((nz k xs).map .int) ⟨[r, .no, .no], μ⟩
  | [], k => rfl
  | x :: xs, k => by
    by_cases h : x = 0
    · subst h
      simp [enD, dLcGo, wipeD, backD, nz, nz_comp r μ xs (k + 1)]
    · have hx : (!(x == 0)) = true := by simpa using h
      simp [enD, dLcGo, wipeD, backD, nz, nz_comp r μ xs (k + 1), h, hx]
theorem nz_ge : ∀ (xs : List Int) (k : Nat), ∀ y ∈ nz k xs, (k : Int) ≤ y
  | [], k => by simp [nz]
  | x :: xs, k => by
    intro y hy
    unfold nz at hy
    split at hy
    · have := nz_ge xs (k + 1) y hy
      omega
    · rcases List.mem_cons.mp hy with rfl | hy
      · omega
      · have := nz_ge xs (k + 1) y hy
        omega
theorem nz_lead : ∀ (xs : List Int) (k : Nat), match lead xs with | some i => ∃ rest, nz k xs = ((k + i : Nat) : Int) :: rest ∧ ∀ y ∈ rest, ((k + i : Nat) : Int) ≤ y | none => nz k xs = []
  | [], k => by simp [lead, nz]
  | x :: xs, k => by
    have ih := nz_lead xs (k + 1)
    by_cases hx : x = 0
    · simp only [lead, nz, hx, if_true]
      cases e : lead xs with
      | none => rw [e] at ih; simpa using ih
      | some i =>
        rw [e] at ih
        obtain ⟨rest, h1, h2⟩ := ih
        simp only [Option.map_some]
        rw [show k + 1 + i = k + (i + 1) from by omega] at h1 h2
        exact ⟨rest, h1, h2⟩
    · simp only [lead, nz, hx, if_false]
      refine ⟨nz (k + 1) xs, by simp, fun y hy => ?_⟩
      have := nz_ge xs (k + 1) y hy
      omega
theorem min_head (a : Int) (l : List Int) (h : ∀ y ∈ l, a ≤ y) : l.foldl min a = a := by
  induction l with
  | nil => rfl
  | cons b l ih =>
    rw [List.foldl_cons, show min a b = a from by have := h b (by simp); omega]
    exact ih fun y hy => h y (by simp [hy])
theorem ints_map (ns : List Int) : intsD (ns.map .int) = some ns := by
  unfold intsD
  induction ns with
  | nil => rfl
  | cons n ns ih => simp [List.mapM_cons, DL.intD, ih]
theorem nz_len : ∀ (xs : List Int) (k : Nat), (nz k xs).length ≤ xs.length
  | [], k => by simp [nz]
  | x :: xs, k => by
    have := nz_len xs (k + 1)
    unfold nz
    split <;> simp <;> omega
theorem add_ll (s : S) (a b : List D) (h : a.length + b.length ≤ 16777216) : gAdd s (.lst a) (.lst b) = some (.lst (a ++ b)) := by
  simp [gAdd, h]
theorem lead_lt {xs : List Int} : leadL xs ≤ xs.length := by
  unfold leadL
  cases e : lead xs with
  | none => exact Nat.le_refl _
  | some i => exact Nat.le_of_lt (lead_some e).1
theorem L_lead_ok (xs : List Int) (hl : xs.length < 16777216) (μ : List Cell) : F_L_lead [Ri xs] μ = .ok (.int (leadL xs)) μ := by
  have h2 := nz_len xs 0
  have h3 := nz_lead xs 0
  have e : gAdd ⟨[.val (Ri xs), .no, .no], μ⟩ (.lst ((nz 0 xs).map .int)) (.lst [.int (xs.length : Int)]) = some (.lst ((nz 0 xs).map .int ++ [.int (xs.length : Int)])) := add_ll _ _ _ (by simp; omega)
  have ei : intsD ((nz 0 xs).map .int ++ [.int (xs.length : Int)]) = some (nz 0 xs ++ [(xs.length : Int)]) := by
    have := ints_map (nz 0 xs ++ [(xs.length : Int)])
    rwa [List.map_append] at this
  have en : (enD 0 (xs.map .int)).length = xs.length := by rw [enD_len]; simp
  have em : minD (nz 0 xs ++ [(xs.length : Int)]) = some (.int (leadL xs)) := by
    cases el : lead xs with
    | none => rw [el] at h3; simp [h3, minD, leadL, el]
    | some i =>
      rw [el] at h3
      obtain ⟨rest, h4, h5⟩ := h3
      rw [h4]
      simp only [List.cons_append, minD, Nat.zero_add]
      rw [min_head]
      · simp [leadL, el]
      · intro y hy
        rcases List.mem_append.mp hy with hy | hy
        · simpa using h5 y hy
        · have := (lead_some el).1
          simp at hy
          omega
  simp [F_L_lead, b_L_lead, runF, en, nz_comp, gLen, e, gMin, ei, em, Nat.le_of_lt hl]
theorem fdiv_neg {x g : Int} (h : g ∣ x) (h0 : g ≠ 0) : x.fdiv (-g) = -1 * x.fdiv g := by
  obtain ⟨c, rfl⟩ := h
  have h1 : (g * c).fdiv g = c := by rw [Int.mul_fdiv_cancel_left _ h0]
  have h2 : (g * c).fdiv (-g) = -c := by
    rw [show g * c = (-g) * (-c) from by rw [Int.neg_mul_neg], Int.mul_fdiv_cancel_left _ (by omega)]
  rw [h1, h2]
  omega
theorem mulOk_of {a b : Int} {n m : Nat} (ha : a.natAbs < 2 ^ n) (hb : b.natAbs < 2 ^ m) (hn : 0 < n) (hm : 0 < m) (h : n + m ≤ 50000) : mulOk a b = true := by
  have h1 := log_lt ha hn
  have h2 := log_lt hb hm
  unfold mulOk
  exact decide_eq_true (by omega)
theorem fdiv_abs {x g : Int} (h : g ∣ x) (h0 : g ≠ 0) : (x.fdiv g).natAbs ≤ x.natAbs := by
  obtain ⟨c, rfl⟩ := h
  rw [Int.mul_fdiv_cancel_left _ h0, Int.natAbs_mul]
  have : 1 ≤ g.natAbs := by omega
  exact Nat.le_mul_of_pos_left _ this
theorem shareL_for (r q : DL.Slot) (μ : List Cell) : ∀ (xs : List Int) (g : Nat) (c : DL.Slot), ∃ c', (c' = c ∨ ∃ d, c' = .val d) ∧ dFor (gNm 2) (dAsg 1 (dCall F_L_gcd (dCons (dVar 1) (dCons (dVar 2) dNil)))) (xs.map .int) ⟨[r, .val (.int g), c, q], μ⟩ = .nx ⟨[r, .val (.int (gcdF g xs)), c', q], μ⟩
  | [], g, c => ⟨c, .inl rfl, rfl⟩
  | x :: xs, g, c => by
    obtain ⟨c', hc, e⟩ := shareL_for r q μ xs (Int.gcd g x) (.val (.int x))
    refine ⟨c', .inr (hc.elim (fun z => ⟨_, z⟩) fun z => z), ?_⟩
    simp [dFor, L_gcd_ok, gcdF]
    exact e
theorem divL_comp (r c : DL.Slot) (μ : List Cell) {s g : Int} (hs : s = 1 ∨ s = -1) (h0 : g ≠ 0) (h : ∀ a, fdivOk a g = true) : ∀ xs : List Int, (∀ x ∈ xs, g ∣ x ∧ x.natAbs < 2 ^ 8000) → dLcGo [2] (gNm 2) dYes (dOp gMul (dVar 3) (dOp gFdiv (dVar 2) (dVar 1))) (xs.map .int) ⟨[r, .val (.int g), c, .val (.int s)], μ⟩ = .ok (xs.map fun x => .int (s * x.fdiv g)) ⟨[r, .val (.int g), c, .val (.int s)], μ⟩
  | [], _ => rfl
  | x :: xs, hx => by
    obtain ⟨h1, h2⟩ := hx x (by simp)
    have hm : mulOk s (x.fdiv g) = true := mulOk_of (n := 1) (m := 8000) (by rcases hs with rfl | rfl <;> decide) (by have := fdiv_abs h1 h0; omega) (by decide) (by decide) (by decide)
    simp [dLcGo, wipeD, backD, fdiv_ii (h x), mul_ii hm, divL_comp r c μ hs h0 h xs fun y hy => hx y (by simp [hy])]
theorem L_lowest_ok {xs : List Int} (h : Bd 8000 xs) (hl : xs.length < 16777216) (μ : List Cell) : F_L_lowest [Ri xs] μ = .ok (Ri (low xs)) μ := by
  obtain ⟨c', hc, e⟩ := shareL_for (.val (Ri xs)) .no μ xs 0 .no
  have hc : c' = .no ∨ ∃ d, c' = .val d := hc
  have e : dFor (gNm 2) (dAsg 1 (dCall F_L_gcd (dCons (dVar 1) (dCons (dVar 2) dNil)))) (xs.map .int) ⟨[.val (Ri xs), .val (.int 0), .no, .no], μ⟩ = .nx ⟨[.val (Ri xs), .val (.int (gcdL xs)), c', .no], μ⟩ := e
  have hl2 := Nat.le_of_lt hl
  by_cases h0 : gcdL xs = 0
  · simp [F_L_lowest, b_L_lowest, runF, dForI, e, h0, gTuple, low]
  · have h1 : ((gcdL xs : Int) == 0) = false := by simpa using h0
    cases el : lead xs with
    | none => exact absurd (gcdL_zero.mpr el) h0
    | some i =>
      obtain ⟨hi, hx⟩ := lead_some el
      have hb := gcdL_bd h h0
      have hg : ((gcdL xs : Nat) : Int) ≠ 0 := by omega
      have lv : leadV xs = xs[i] := by
        unfold leadV
        rw [el]
        simp [List.getD, hi]
      have ll : leadL xs = i := by unfold leadL; rw [el]
      have hd : ∀ x ∈ xs, (gcdL xs : Int) ∣ x ∧ x.natAbs < 2 ^ 8000 := fun x hx => ⟨(gcdF_dvd xs 0).2 x hx, h x hx⟩
      have ok : ∀ a, fdivOk a (gcdL xs : Int) = true := fun a => fdivOk_of (n := 8000) (by omega) (by omega) (by decide) (by decide)
      by_cases hs : xs[i] < 0
      · have ed : decide (0 < xs[i]) = false := decide_eq_false (by omega)
        have es : sgn xs = -(gcdL xs : Int) := by unfold sgn; rw [lv, if_pos hs]
        have el2 : low xs = xs.map fun x => -1 * x.fdiv (gcdL xs) := by
          unfold low
          rw [if_neg h0, es]
          exact List.map_congr_left fun x hx => fdiv_neg (hd x hx).1 hg
        have dc := divL_comp (.val (Ri xs)) c' μ (.inr rfl : (-1 : Int) = 1 ∨ (-1 : Int) = -1) hg ok xs hd
        rw [el2]
        rcases hc with rfl | ⟨d, rfl⟩ <;> simp [F_L_lowest, b_L_lowest, runF, dForI, e, h1, L_lead_ok _ hl, ll, ix_row _ _ _ hi, ed, gTuple, hl2, dc]
      · have ed : decide (0 < xs[i]) = true := decide_eq_true (by omega)
        have es : sgn xs = (gcdL xs : Int) := by unfold sgn; rw [lv, if_neg hs]
        have el2 : low xs = xs.map fun x => 1 * x.fdiv (gcdL xs) := by
          unfold low
          rw [if_neg h0, es]
          exact List.map_congr_left fun x hx => by rw [Int.one_mul]
        have dc := divL_comp (.val (Ri xs)) c' μ (.inl rfl : (1 : Int) = 1 ∨ (1 : Int) = -1) hg ok xs hd
        rw [el2]
        rcases hc with rfl | ⟨d, rfl⟩ <;> simp [F_L_lowest, b_L_lowest, runF, dForI, e, h1, L_lead_ok _ hl, ll, ix_row _ _ _ hi, ed, gTuple, hl2, dc]
end K13

namespace K13
open PySem PySem.Spec PyProof.Rows L2 DL
/-! ### rows put together -/
def zw (f : Int → Int → Int) (xs ys : List Int) : List Int := List.zipWith f xs ys
theorem zw_len {f : Int → Int → Int} {xs ys : List Int} (h : xs.length = ys.length) : (zw f xs ys).length = xs.length := by simp [zw, h]
theorem tup_ints (s : S) (xs : List Int) : gTuple s [.lst (xs.map .int)] = some (Ri xs) := rfl
theorem sum_ints (s : S) (xs : List Int) : gSum s [.lst (xs.map .int)] = some (.int xs.sum) := by simp [gSum, ints_map]
theorem add_comp (a b : DL.Slot) (μ : List Cell) : ∀ xs ys : List Int, dLcGo [2, 3] (gT (gC (gNm 2) (gC (gNm 3) gN))) dYes (dOp gAdd (dVar 2) (dVar 3)) (zpD (xs.map .int) (ys.map .int)) ⟨[a, b, .no, .no], μ⟩ = .ok ((zw (· + ·) xs ys).map .int) ⟨[a, b, .no, .no], μ⟩
  | [], ys => by simp [zpD, dLcGo, zw]
  | x :: xs, [] => by simp [zpD, dLcGo, zw]
  | x :: xs, y :: ys => by
    have ih := add_comp a b μ xs ys
    unfold zw at ih
    simp [zpD, dLcGo, zw, wipeD, backD, ih]
theorem mul_comp (a b : DL.Slot) (μ : List Cell) {n m : Nat} (hn : 0 < n) (hm : 0 < m) (hnm : n + m ≤ 50000) : ∀ xs ys : List Int, Bd n xs → Bd m ys → dLcGo [2, 3] (gT (gC (gNm 2) (gC (gNm 3) gN))) dYes (dOp gMul (dVar 2) (dVar 3)) (zpD (xs.map .int) (ys.map .int)) ⟨[a, b, .no, .no], μ⟩ = .ok ((zw (· * ·) xs ys).map .int) ⟨[a, b, .no, .no], μ⟩
  | [], ys, _, _ => by simp [zpD, dLcGo, zw]
  | x :: xs, [], _, _ => by simp [zpD, dLcGo, zw]
  | x :: xs, y :: ys, h1, h2 => by
    have ih := mul_comp a b μ hn hm hnm xs ys (fun z hz => h1 z (by simp [hz])) (fun z hz => h2 z (by simp [hz]))
    have hk := mulOk_of (h1 x (by simp)) (h2 y (by simp)) hn hm hnm
    unfold zw at ih
    simp [zpD, dLcGo, zw, wipeD, backD, ih, mul_ii hk]
theorem zp_len (xs ys : List Int) : (zpD (xs.map .int) (ys.map .int)).length = min xs.length ys.length := by simp [zpD_len]
theorem sum_of_rows_ok (xs ys : List Int) (hl : xs.length ≤ 16777216) (μ : List Cell) : F_sum_of_rows [Ri xs, Ri ys] μ = .ok (Ri (zw (· + ·) xs ys)) μ := by
  have h : min xs.length ys.length ≤ 16777216 := by omega
  simp [F_sum_of_rows, b_sum_of_rows, runF, zp_len, h, add_comp, tup_ints]
theorem dot_ok {xs ys : List Int} {n m : Nat} (hn : 0 < n) (hm : 0 < m) (hnm : n + m ≤ 50000) (h1 : Bd n xs) (h2 : Bd m ys) (hl : xs.length ≤ 16777216) (μ : List Cell) : F_dot [Ri xs, Ri ys] μ = .ok (.int (zw (· * ·) xs ys).sum) μ := by
  have h : min xs.length ys.length ≤ 16777216 := by omega
  simp [F_dot, b_dot, runF, zp_len, h, mul_comp _ _ _ hn hm hnm _ _ h1 h2, sum_ints]
theorem L_dot_ok {xs ys : List Int} {n m : Nat} (hn : 0 < n) (hm : 0 < m) (hnm : n + m ≤ 50000) (h1 : Bd n xs) (h2 : Bd m ys) (hl : xs.length ≤ 16777216) (μ : List Cell) : F_L_dot [Ri xs, Ri ys] μ = .ok (.int (zw (· * ·) xs ys).sum) μ := dot_ok hn hm hnm h1 h2 hl μ
theorem times_comp (a b : DL.Slot) (μ : List Cell) {k : Int} {n m : Nat} (hn : 0 < n) (hm : 0 < m) (hnm : n + m ≤ 50000) (hk : k.natAbs < 2 ^ n) : ∀ xs : List Int, Bd m xs → dLcGo [2] (gNm 2) dYes (dOp gMul (dVar 0) (dVar 2)) (xs.map .int) ⟨[.val (.int k), b, .no], μ⟩ = .ok ((xs.map fun x => k * x).map .int) ⟨[.val (.int k), b, .no], μ⟩
  | [], _ => rfl
  | x :: xs, h => by
    have ih := times_comp a b μ hn hm hnm hk xs fun z hz => h z (by simp [hz])
    have hx := mulOk_of hk (h x (by simp)) hn hm hnm
    simp only [List.map_map] at ih
    simp [dLcGo, wipeD, backD, ih, mul_ii hx]
theorem times_row_ok {k : Int} {xs : List Int} {n m : Nat} (hn : 0 < n) (hm : 0 < m) (hnm : n + m ≤ 50000) (hk : k.natAbs < 2 ^ n) (h : Bd m xs) (hl : xs.length ≤ 16777216) (μ : List Cell) : F_times_row [.int k, Ri xs] μ = .ok (Ri (xs.map fun x => k * x)) μ := by
  have e := times_comp (.no) (.val (Ri xs)) μ hn hm hnm hk xs h
  simp only [List.map_map] at e
  simp [F_times_row, b_times_row, runF, hl, e, gTuple]
/-! ### the checks -/
theorem ri_len (xs : List Int) : ∀ ys, Ri xs = .tup ys → ys.length = xs.length := fun ys h => by
  cases h
  simp
theorem require_row_ok {w : Nat} {xs : List Int} (h : xs.length = w) (hl : w ≤ 16777216) (μ : List Cell) : F_require_row [.int w, Ri xs] μ = .ok .non μ := by
  have e := is_plain_row_ok (w := w) (ri_fine xs) (fun ys hy => by rw [ri_len _ _ hy]; omega) μ
  rw [rowB_ri, show (xs.length == w) = true from by simpa using h] at e
  simp [F_require_row, b_require_row, runF, e]
theorem plain_rows (a : D) (μ : List Cell) {w : Nat} (b c : DL.Slot) : ∀ ds : List D, (∀ d ∈ ds, Fine d ∧ ∀ xs, d = .tup xs → xs.length ≤ 16777216) → dLcGo [2] (gNm 2) dYes (dCall F_is_plain_row (dCons (dVar 0) (dCons (dVar 2) dNil))) ds ⟨[.val (.int w), b, c], μ⟩ = .ok (ds.map fun d => .bl (rowB w d)) ⟨[.val (.int w), b, c], μ⟩
  | [], _ => rfl
  | d :: ds, h => by
    obtain ⟨h1, h2⟩ := h d (by simp)
    simp [dLcGo, wipeD, backD, is_plain_row_ok h1 h2, h1.no, plain_rows a μ b c ds fun x hx => h x (by simp [hx])]
theorem require_rows_ok {w : Nat} {m : List (List Int)} (h : ∀ r ∈ m, r.length = w) (hw : w ≤ 16777216) (hl : m.length ≤ 16777216) (μ : List Cell) : F_require_rows [.int w, .tup (m.map Ri)] μ = .ok .non μ := by
  have e := plain_rows (.non) μ (w := w) (.val (.tup (m.map Ri))) .no (m.map Ri) fun d hd => by
    obtain ⟨r, hr, rfl⟩ := List.mem_map.mp hd
    exact ⟨ri_fine r, fun ys hy => by rw [ri_len _ _ hy, h r hr]; exact hw⟩
  have ha : (m.map Ri).all (rowB w) = true := by
    rw [List.all_map, List.all_eq_true]
    intro r hr
    show rowB w (Ri r) = true
    rw [rowB_ri]
    simpa using h r hr
  simp [F_require_rows, b_require_rows, runF, gIsi, tyD, kitB, hl, e, -List.map_map, ha]
end K13

namespace K13
open PySem PySem.Spec PyProof.Rows L2 DL
/-! ### the four words of rows -/
theorem row_plus_ok {w : Nat} (h1 : 1 ≤ w) (h2 : w ≤ 60) {xs ys : List Int} (hx : xs.length = w) (hy : ys.length = w) (μ : List Cell) : F_row_plus [.int w, Ri xs, Ri ys] μ = .ok (Ri (zw (· + ·) xs ys)) μ := by
  simp [F_row_plus, b_row_plus, runF, require_width_ok h1 h2, require_row_ok hx (by omega), require_row_ok hy (by omega), sum_of_rows_ok xs ys (by omega)]
theorem row_times_ok {w : Nat} (h1 : 1 ≤ w) (h2 : w ≤ 60) {k : Int} {xs : List Int} (hx : xs.length = w) {n m : Nat} (hn : 0 < n) (hm : 0 < m) (hnm : n + m ≤ 50000) (hk : k.natAbs < 2 ^ n) (h : Bd m xs) (μ : List Cell) : F_row_times [.int w, .int k, Ri xs] μ = .ok (Ri (xs.map fun x => k * x)) μ := by
  simp [F_row_times, b_row_times, runF, require_width_ok h1 h2, is_integer_ok (.int _), isI, require_row_ok hx (by omega), times_row_ok hn hm hnm hk h (by omega), -List.map_map]
theorem product_ok {w : Nat} (h1 : 1 ≤ w) (h2 : w ≤ 60) {xs ys : List Int} (hx : xs.length = w) (hy : ys.length = w) {n m : Nat} (hn : 0 < n) (hm : 0 < m) (hnm : n + m ≤ 50000) (b1 : Bd n xs) (b2 : Bd m ys) (μ : List Cell) : F_product [.int w, Ri xs, Ri ys] μ = .ok (.int (zw (· * ·) xs ys).sum) μ := by
  simp [F_product, b_product, runF, require_width_ok h1 h2, require_row_ok hx (by omega), require_row_ok hy (by omega), dot_ok hn hm hnm b1 b2 (by omega)]
theorem lowest_ok {w : Nat} (h1 : 1 ≤ w) (h2 : w ≤ 60) {xs : List Int} (hx : xs.length = w) (b : Bd 8000 xs) (μ : List Cell) : F_lowest [.int w, Ri xs] μ = .ok (Ri (low xs)) μ := by
  simp [F_lowest, b_lowest, runF, require_width_ok h1 h2, require_row_ok hx (by omega), lowest_row_ok b (by omega)]
/-! ### less -/
def at0 (xs : List Int) (j : Nat) : Int := xs.getD j 0
def less (row other : List Int) : List Int := match lead other with
  | none => row
  | some i => if at0 row i = 0 then row else zw (fun a b => at0 other i * a - at0 row i * b) row other
theorem at0_lt {xs : List Int} {i : Nat} (h : i < xs.length) : at0 xs i = xs[i] := by simp [at0, List.getD, h]
theorem at0_ge {xs : List Int} {i : Nat} (h : xs.length ≤ i) : at0 xs i = 0 := by simp [at0, List.getD, h]
theorem lead_iff {xs : List Int} {i : Nat} : lead xs = some i ↔ at0 xs i ≠ 0 ∧ ∀ j < i, at0 xs j = 0 := by
  induction xs generalizing i with
  | nil => simp [lead, at0]
  | cons x xs ih =>
    unfold lead
    by_cases h : x = 0
    · rw [if_pos h]
      simp only [Option.map_eq_some_iff]
      constructor
      · rintro ⟨k, h1, rfl⟩
        obtain ⟨h2, h3⟩ := ih.mp h1
        refine ⟨by simpa [at0] using h2, fun j hj => ?_⟩
        cases j with
        | zero => simpa [at0] using h
        | succ j => simpa [at0] using h3 j (by omega)
      · rintro ⟨h2, h3⟩
        cases i with
        | zero => simp [at0] at h2; exact absurd h h2
        | succ i => exact ⟨i, ih.mpr ⟨by simpa [at0] using h2, fun j hj => by simpa [at0] using h3 (j + 1) (by omega)⟩, rfl⟩
    · rw [if_neg h]
      constructor
      · intro e
        cases e
        exact ⟨by simpa [at0] using h, fun j hj => by omega⟩
      · rintro ⟨h2, h3⟩
        cases i with
        | zero => rfl
        | succ i => exact absurd (by simpa [at0] using h3 0 (by omega)) h
theorem lead_ne {xs : List Int} {j : Nat} (h : at0 xs j ≠ 0) : ∃ i, lead xs = some i ∧ i ≤ j := by
  cases e : lead xs with
  | none =>
    by_cases hj : j < xs.length
    · rw [at0_lt hj] at h
      exact absurd (lead_none.mp e _ (List.getElem_mem hj)) h
    · exact absurd (at0_ge (by omega)) h
  | some i =>
    refine ⟨i, rfl, ?_⟩
    by_cases hj : j < i
    · exact absurd ((lead_iff.mp e).2 j hj) h
    · omega
theorem zw_at {f : Int → Int → Int} (h0 : f 0 0 = 0) {xs ys : List Int} (h : xs.length = ys.length) (j : Nat) : at0 (zw f xs ys) j = f (at0 xs j) (at0 ys j) := by
  by_cases hj : j < xs.length
  · rw [at0_lt (by rw [zw_len h]; exact hj), at0_lt hj, at0_lt (by omega)]
    simp [zw]
  · rw [at0_ge (by rw [zw_len h]; omega), at0_ge (by omega), at0_ge (by omega), h0]
theorem less_len {row other : List Int} (h : row.length = other.length) : (less row other).length = row.length := by
  unfold less
  split
  · rfl
  · split
    · rfl
    · exact zw_len h
theorem less_zero {row other : List Int} (h : row.length = other.length) {i : Nat} (hi : lead other = some i) : at0 (less row other) i = 0 := by
  unfold less
  rw [hi]
  simp only
  split
  · assumption
  · rw [zw_at (by simp) h]
    rw [Int.mul_comm]
    omega
theorem less_iff {row other : List Int} (h : row.length = other.length) {j : Nat} (hj : at0 other j = 0) : at0 (less row other) j = 0 ↔ at0 row j = 0 := by
  unfold less
  split
  · exact Iff.rfl
  · rename_i i hi
    have h1 := (lead_iff.mp hi).1
    split
    · exact Iff.rfl
    · rw [zw_at (by simp) h, hj, Int.mul_zero, Int.sub_zero]
      constructor
      · intro e
        rcases Int.mul_eq_zero.mp e with e | e
        · exact absurd e h1
        · exact e
      · intro e
        rw [e, Int.mul_zero]
theorem bd_at {n : Nat} {xs : List Int} (h : Bd n xs) (j : Nat) : (at0 xs j).natAbs < 2 ^ n := by
  by_cases hj : j < xs.length
  · rw [at0_lt hj]
    exact h _ (List.getElem_mem hj)
  · rw [at0_ge (by omega)]
    exact Nat.pow_pos (by decide)
theorem Bd.mono {n m : Nat} {xs : List Int} (h : Bd n xs) (hn : n ≤ m) : Bd m xs := fun x hx => Nat.lt_of_lt_of_le (h x hx) (Nat.pow_le_pow_right (by decide) hn)
theorem comb_bd {a b c d : Int} {n m : Nat} (ha : a.natAbs < 2 ^ m) (hb : b.natAbs < 2 ^ n) (hc : c.natAbs < 2 ^ n) (hd : d.natAbs < 2 ^ m) : (a * b - c * d).natAbs < 2 ^ (n + m + 1) := by
  have h1 : (a * b).natAbs < 2 ^ (n + m) := by
    rw [Int.natAbs_mul, Nat.add_comm, Nat.pow_add]
    exact Nat.mul_lt_mul'' ha hb
  have h2 : (c * d).natAbs < 2 ^ (n + m) := by
    rw [Int.natAbs_mul, Nat.pow_add]
    exact Nat.mul_lt_mul'' hc hd
  have h3 : (2 : Nat) ^ (n + m + 1) = 2 ^ (n + m) + 2 ^ (n + m) := by rw [Nat.pow_succ]; omega
  omega
theorem less_bd {n m : Nat} {row other : List Int} (h1 : Bd n row) (h2 : Bd m other) : Bd (n + m + 1) (less row other) := by
  unfold less
  split
  · exact h1.mono (by omega)
  · split
    · exact h1.mono (by omega)
    · intro x hx
      unfold zw at hx
      rw [List.mem_iff_getElem] at hx
      obtain ⟨j, hj, rfl⟩ := hx
      rw [List.getElem_zipWith]
      exact comb_bd (bd_at h2 _) (h1 _ (List.getElem_mem _)) (bd_at h1 _) (h2 _ (List.getElem_mem _))
theorem less_comp (μ : List Cell) {row other : List Int} {i : Nat} (hi : i < row.length) (hi2 : i < other.length) {n m : Nat} (hn : 0 < n) (hm : 0 < m) (hnm : n + m ≤ 50000) (br : Bd n row) (bo : Bd m other) : ∀ xs ys : List Int, Bd n xs → Bd m ys →
    dLcGo [3, 4] (gT (gC (gNm 3) (gC (gNm 4) gN))) dYes (dOp gSub (dOp gMul (dOp gIx (dVar 1) (dVar 2)) (dVar 3)) (dOp gMul (dOp gIx (dVar 0) (dVar 2)) (dVar 4))) (zpD (xs.map .int) (ys.map .int)) ⟨[.val (Ri row), .val (Ri other), .val (.int i), .no, .no], μ⟩ =
      .ok ((zw (fun a b => at0 other i * a - at0 row i * b) xs ys).map .int) ⟨[.val (Ri row), .val (Ri other), .val (.int i), .no, .no], μ⟩
  | [], ys, _, _ => by simp [zpD, dLcGo, zw]
  | x :: xs, [], _, _ => by simp [zpD, dLcGo, zw]
  | x :: xs, y :: ys, h1, h2 => by
    have ih := less_comp μ hi hi2 hn hm hnm br bo xs ys (fun z hz => h1 z (by simp [hz])) (fun z hz => h2 z (by simp [hz]))
    have k1 := mulOk_of (bo _ (List.getElem_mem hi2)) (h1 x (by simp)) hm hn (by omega)
    have k2 := mulOk_of (br _ (List.getElem_mem hi)) (h2 y (by simp)) hn hm hnm
    unfold zw at ih
    simp [zpD, dLcGo, zw, wipeD, backD, ih, ix_row _ _ _ hi, ix_row _ _ _ hi2, mul_ii k1, mul_ii k2, at0_lt hi, at0_lt hi2]
theorem less_by_ok {row other : List Int} (h : row.length = other.length) (hl : row.length ≤ 16777216) {i : Nat} (hi : lead other = some i) {n m : Nat} (hn : 0 < n) (hm : 0 < m) (hnm : n + m ≤ 50000) (br : Bd n row) (bo : Bd m other) (μ : List Cell) :
    F_less_by [Ri row, Ri other] μ = .ok (Ri (less row other)) μ := by
  have hio := (lead_some hi).1
  have hir : i < row.length := by omega
  by_cases h0 : row[i] = 0
  · have e : (row[i] == 0) = true := by simpa using h0
    have el : less row other = row := by unfold less; rw [hi]; simp only [at0_lt hir, h0, if_true]
    rw [el]
    simp [F_less_by, b_less_by, runF, lead_in_ok, hi, optD, ix_row _ _ _ hir, e]
  · have e : (row[i] == 0) = false := by simpa using h0
    have el : less row other = zw (fun a b => at0 other i * a - at0 row i * b) row other := by unfold less; rw [hi]; simp only [at0_lt hir, h0, if_false]
    have hmin : min row.length other.length ≤ 16777216 := by omega
    rw [el]
    simp [F_less_by, b_less_by, runF, lead_in_ok, hi, optD, ix_row _ _ _ hir, e, zp_len, hmin, less_comp μ hir hio hn hm hnm br bo row other br bo, tup_ints]
end K13

namespace K13
open PySem PySem.Spec PyProof.Rows L2 DL
/-! ### low, by places -/
theorem fdiv_zero_iff {x g : Int} (h : g ∣ x) (h0 : g ≠ 0) : x.fdiv g = 0 ↔ x = 0 := by
  obtain ⟨c, rfl⟩ := h
  rw [Int.mul_fdiv_cancel_left _ h0]
  constructor
  · intro e; rw [e, Int.mul_zero]
  · intro e
    rcases Int.mul_eq_zero.mp e with e | e
    · exact absurd e h0
    · exact e
theorem sgn_ne {xs : List Int} (h : gcdL xs ≠ 0) : sgn xs ≠ 0 := by unfold sgn; split <;> omega
theorem sgn_dvd {xs : List Int} {x : Int} (h : x ∈ xs) : sgn xs ∣ x := by
  have := (gcdF_dvd xs 0).2 x h
  unfold sgn
  split
  · exact Int.neg_dvd.mpr this
  · exact this
theorem low_len (xs : List Int) : (low xs).length = xs.length := by unfold low; split <;> simp
theorem low_at {xs : List Int} (j : Nat) : at0 (low xs) j = 0 ↔ at0 xs j = 0 := by
  unfold low
  split
  · exact Iff.rfl
  · rename_i h
    by_cases hj : j < xs.length
    · rw [at0_lt (by simpa using hj), at0_lt hj, List.getElem_map]
      exact fdiv_zero_iff (sgn_dvd (List.getElem_mem hj)) (sgn_ne h)
    · rw [at0_ge (by simpa using hj), at0_ge (by omega)]
theorem low_bd {n : Nat} {xs : List Int} (h : Bd n xs) : Bd n (low xs) := by
  unfold low
  split
  · exact h
  · rename_i h0
    intro x hx
    obtain ⟨y, hy, rfl⟩ := List.mem_map.mp hx
    exact Nat.lt_of_le_of_lt (fdiv_abs (sgn_dvd hy) (sgn_ne h0)) (h y hy)
theorem lead_congr {xs ys : List Int} (h : ∀ j, at0 xs j = 0 ↔ at0 ys j = 0) : lead xs = lead ys := by
  cases e : lead xs with
  | none =>
    cases e2 : lead ys with
    | none => rfl
    | some i =>
      obtain ⟨k, h1, _⟩ := lead_ne (xs := xs) (j := i) (fun z => (lead_iff.mp e2).1 ((h i).mp z))
      rw [e] at h1
      cases h1
  | some i =>
    obtain ⟨h1, h2⟩ := lead_iff.mp e
    exact (lead_iff.mpr ⟨fun z => h1 ((h i).mpr z), fun j hj => (h j).mp (h2 j hj)⟩).symm
theorem lead_low (xs : List Int) : lead (low xs) = lead xs := lead_congr fun j => low_at j
/-! ### lots -/
def Apart (r r' : List Int) : Prop := (∀ i, lead r = some i → at0 r' i = 0) ∧ ∀ i, lead r' = some i → at0 r i = 0
theorem Apart.symm {r r' : List Int} (h : Apart r r') : Apart r' r := ⟨h.2, h.1⟩
structure Lt (w n : Nat) (m : List (List Int)) : Prop where
  len : ∀ r ∈ m, r.length = w
  bd : ∀ r ∈ m, Bd n r
  ld : ∀ r ∈ m, lead r ≠ none
  ap : m.Pairwise Apart
theorem Lt.mono {w n k : Nat} {m : List (List Int)} (h : Lt w n m) (hn : n ≤ k) : Lt w k m := ⟨h.len, fun r hr => (h.bd r hr).mono hn, h.ld, h.ap⟩
theorem Lt.perm {w n : Nat} {m m' : List (List Int)} (h : Lt w n m) (p : m'.Perm m) : Lt w n m' :=
  ⟨fun r hr => h.len r (p.mem_iff.mp hr), fun r hr => h.bd r (p.mem_iff.mp hr), fun r hr => h.ld r (p.mem_iff.mp hr), (p.pairwise_iff (fun {_ _} q => q.symm)).mpr h.ap⟩
def rest (lot : List (List Int)) (row : List Int) : List Int := lot.foldl less row
theorem rest_len {w : Nat} : ∀ {lot : List (List Int)} {row : List Int}, (∀ r ∈ lot, r.length = w) → row.length = w → (rest lot row).length = w
  | [], row, _, h => h
  | o :: lot, row, hl, h => by
    have ho := hl o (by simp)
    exact rest_len (lot := lot) (row := less row o) (fun r hr => hl r (by simp [hr])) (by rw [less_len (by omega)]; exact h)
theorem rest_bd {n : Nat} : ∀ {lot : List (List Int)} {row : List Int} {r : Nat}, (∀ o ∈ lot, Bd n o) → Bd r row → Bd (r + lot.length * (n + 1)) (rest lot row)
  | [], row, r, _, h => by simpa [rest] using h
  | o :: lot, row, r, hl, h => by
    have := rest_bd (lot := lot) (row := less row o) (r := r + n + 1) (fun o ho => hl o (by simp [ho])) (less_bd h (hl o (by simp)))
    rw [List.length_cons, show r + (lot.length + 1) * (n + 1) = r + n + 1 + lot.length * (n + 1) from by rw [Nat.add_mul]; omega]
    exact this
/-- what is 0 stays so -/
theorem rest_keep {w : Nat} {j : Nat} : ∀ {lot : List (List Int)} {row : List Int}, (∀ r ∈ lot, r.length = w) → row.length = w → (∀ o ∈ lot, at0 o j = 0) → at0 row j = 0 → at0 (rest lot row) j = 0
  | [], row, _, _, _, h => h
  | o :: lot, row, hl, hr, ho, h => rest_keep (lot := lot) (row := less row o) (fun r hr => hl r (by simp [hr])) (by rw [less_len (by have := hl o (by simp); omega)]; exact hr) (fun o ho' => ho o (by simp [ho']))
      ((less_iff (by have := hl o (by simp); omega) (ho o (by simp))).mpr h)
theorem rest_zero {w : Nat} : ∀ {lot : List (List Int)} {row : List Int}, (∀ r ∈ lot, r.length = w) → row.length = w → lot.Pairwise Apart → ∀ o ∈ lot, ∀ i, lead o = some i → at0 (rest lot row) i = 0
  | [], row, _, _, _ => fun o ho => by simp at ho
  | p :: lot, row, hl, hr, ha => fun o ho i hi => by
    rw [List.pairwise_cons] at ha
    have hp := hl p (by simp)
    have hl' : ∀ r ∈ lot, r.length = w := fun r hr => hl r (by simp [hr])
    have hr' : (less row p).length = w := by rw [less_len (by omega)]; exact hr
    rcases List.mem_cons.mp ho with rfl | ho
    · exact rest_keep (lot := lot) (row := less row o) hl' hr' (fun q hq => (ha.1 q hq).1 i hi) (less_zero (by omega) hi)
    · exact rest_zero (lot := lot) (row := less row p) hl' hr' ha.2 o ho i hi
/-- a row of the lot, rid of a new one that is 0 at its lead -/
theorem less_lead {o left : List Int} (h : o.length = left.length) {i j : Nat} (hi : lead o = some i) (hj : lead left = some j) (h0 : at0 left i = 0) : lead (less o left) = some i := by
  obtain ⟨a1, a2⟩ := lead_iff.mp hi
  obtain ⟨b1, b2⟩ := lead_iff.mp hj
  refine lead_iff.mpr ⟨fun z => a1 ((less_iff h h0).mp z), fun k hk => ?_⟩
  by_cases hz : at0 left k = 0
  · exact (less_iff h hz).mpr (a2 k hk)
  · obtain ⟨j', h1, h2⟩ := lead_ne hz
    rw [hj] at h1
    cases h1
    have e : less o left = o := by unfold less; rw [hj]; simp only [a2 j (by omega), if_true]
    rw [e]
    exact a2 k hk
theorem lt_with {w n : Nat} {lot : List (List Int)} {left : List Int} (L : Lt w n lot) (hl : left.length = w) {b : Nat} (hb : Bd b left) {j : Nat} (hj : lead left = some j) (h0 : ∀ o ∈ lot, ∀ i, lead o = some i → at0 left i = 0) :
    Lt w (n + b + 1) (lot.map (fun o => low (less o left)) ++ [left]) := by
  have key : ∀ o ∈ lot, lead (low (less o left)) = lead o := fun o ho => by
    cases e : lead o with
    | none => exact absurd e (L.ld o ho)
    | some i => rw [lead_low, less_lead (by rw [L.len o ho, hl]) e hj (h0 o ho i e)]
  refine ⟨fun r hr => ?_, fun r hr => ?_, fun r hr => ?_, ?_⟩
  · rcases List.mem_append.mp hr with hr | hr
    · obtain ⟨o, ho, rfl⟩ := List.mem_map.mp hr
      rw [low_len, less_len (by rw [L.len o ho, hl]), L.len o ho]
    · simp at hr; subst hr; exact hl
  · rcases List.mem_append.mp hr with hr | hr
    · obtain ⟨o, ho, rfl⟩ := List.mem_map.mp hr
      exact low_bd (less_bd (L.bd o ho) hb)
    · simp at hr; subst hr; exact hb.mono (by omega)
  · rcases List.mem_append.mp hr with hr | hr
    · obtain ⟨o, ho, rfl⟩ := List.mem_map.mp hr
      rw [key o ho]
      exact L.ld o ho
    · simp at hr; subst hr; rw [hj]; exact fun z => nomatch z
  · rw [List.pairwise_append]
    refine ⟨?_, by simp, fun r hr r' hr' => ?_⟩
    · rw [List.pairwise_map]
      refine L.ap.imp_of_mem fun {o o'} ho ho' ap => ?_
      have one : ∀ o ∈ lot, ∀ o' ∈ lot, (∀ i, lead o = some i → at0 o' i = 0) → ∀ i, lead (low (less o left)) = some i → at0 (low (less o' left)) i = 0 := fun o ho o' ho' h i hi => by
        rw [key o ho] at hi
        rw [low_at]
        exact (less_iff (by rw [L.len o' ho', hl]) (h0 o ho i hi)).mpr (h i hi)
      exact ⟨one o ho o' ho' ap.1, one o' ho' o ho ap.2⟩
    · simp at hr'
      subst hr'
      obtain ⟨o, ho, rfl⟩ := List.mem_map.mp hr
      refine ⟨fun i hi => ?_, fun i hi => ?_⟩
      · rw [key o ho] at hi
        exact h0 o ho i hi
      · rw [low_at]
        exact less_zero (by rw [L.len o ho, hl]) hi
/-! ### the program's words for lots -/
theorem rest_loop (μ : List Cell) (a : DL.Slot) {w n : Nat} (hw : w ≤ 16777216) (hn : 0 < n) : ∀ (lot : List (List Int)) (row : List Int) (r : Nat) (c : DL.Slot), (∀ o ∈ lot, o.length = w ∧ Bd n o ∧ lead o ≠ none) → row.length = w → Bd r row → 0 < r → r + (lot.length + 1) * (n + 1) ≤ 40000 →
    ∃ c', dFor (gNm 2) (dAsg 1 (dCall F_less_by (dCons (dVar 1) (dCons (dVar 2) dNil)))) (lot.map Ri) ⟨[a, .val (Ri row), c], μ⟩ = .nx ⟨[a, .val (Ri (rest lot row)), c'], μ⟩
  | [], row, r, c, _, _, _, _, _ => ⟨c, rfl⟩
  | o :: lot, row, r, c, hl, hr, hb, hr0, hz => by
    obtain ⟨h1, h2, h3⟩ := hl o (by simp)
    cases e : lead o with
    | none => exact absurd e h3
    | some i =>
      have hs : r + (lot.length + 1 + 1) * (n + 1) = r + n + 1 + (lot.length + 1) * (n + 1) := by rw [Nat.add_mul (lot.length + 1)]; omega
      rw [List.length_cons, hs] at hz
      obtain ⟨c', e2⟩ := rest_loop μ a hw hn lot (less row o) (r + n + 1) (.val (Ri o)) (fun q hq => hl q (by simp [hq])) (by rw [less_len (by omega)]; exact hr) (less_bd hb h2) (by omega) hz
      refine ⟨c', ?_⟩
      have e3 := less_by_ok (row := row) (other := o) (by omega) (by omega) e hr0 hn (by omega) hb h2 μ
      simp [dFor, e3, -List.map_map]
      exact e2
theorem rest_by_ok {w n r : Nat} (hw : w ≤ 16777216) (hn : 0 < n) {lot : List (List Int)} {row : List Int} (hl : ∀ o ∈ lot, o.length = w ∧ Bd n o ∧ lead o ≠ none) (hr : row.length = w) (hb : Bd r row) (hr0 : 0 < r) (hz : r + (lot.length + 1) * (n + 1) ≤ 40000) (μ : List Cell) :
    F_rest_by [.tup (lot.map Ri), Ri row] μ = .ok (Ri (rest lot row)) μ := by
  obtain ⟨c', e⟩ := rest_loop μ (.val (.tup (lot.map Ri))) hw hn lot row r .no hl hr hb hr0 hz
  simp [F_rest_by, b_rest_by, runF, dForI, e, -List.map_map]
theorem with_comp (μ : List Cell) (a b d : DL.Slot) {w n r : Nat} (hw : w ≤ 16777216) (hn : 0 < n) (hr0 : 0 < r) (hz : n + r + 1 ≤ 8000) {left : List Int} (hl : left.length = w) (hb : Bd r left) {j : Nat} (hj : lead left = some j) : ∀ lot : List (List Int), (∀ o ∈ lot, o.length = w ∧ Bd n o) →
    dLcGo [4] (gNm 4) dYes (dCall F_lowest_row (dCons (dCall F_less_by (dCons (dVar 4) (dCons (dVar 2) dNil))) dNil)) (lot.map Ri) ⟨[a, b, .val (Ri left), d, .no], μ⟩ = .ok ((lot.map fun o => low (less o left)).map Ri) ⟨[a, b, .val (Ri left), d, .no], μ⟩
  | [], _ => rfl
  | o :: lot, h => by
    obtain ⟨h1, h2⟩ := h o (by simp)
    have ih := with_comp μ a b d hw hn hr0 hz hl hb hj lot fun q hq => h q (by simp [hq])
    have e1 := less_by_ok (row := o) (other := left) (by omega) (by omega) hj hn hr0 (by omega) h2 hb μ
    have e2 := lowest_row_ok (xs := less o left) ((less_bd h2 hb).mono (by omega)) (by rw [less_len (by omega)]; omega) μ
    simp only [List.map_map] at ih
    simp [dLcGo, wipeD, backD, e1, e2, ih]
theorem keys_ok (μ : List Cell) : ∀ m : List (List Int), (∀ r ∈ m, lead r ≠ none) → ∃ ks, keysI F_lead_in (m.map Ri) μ = some (ks, μ) ∧ ks.length = m.length
  | [], _ => ⟨[], rfl, rfl⟩
  | r :: m, h => by
    obtain ⟨ks, h1, h2⟩ := keys_ok μ m fun q hq => h q (by simp [hq])
    cases e : lead r with
    | none => exact absurd e (h r (by simp))
    | some i => exact ⟨(i : Int) :: ks, by simp [keysI, lead_in_ok, e, optD, h1], by simp [h2]⟩
def unRi : D → List Int | .tup ds => ds.filterMap DL.intD | _ => []
theorem unRi_ri (r : List Int) : unRi (Ri r) = r := by
  show (r.map D.int).filterMap DL.intD = r
  rw [List.filterMap_map]
  have : (DL.intD ∘ D.int) = some := rfl
  rw [this, List.filterMap_some]
theorem perm_ri {m : List (List Int)} {ds : List D} (h : ds.Perm (m.map Ri)) : ∃ m' : List (List Int), ds = m'.map Ri ∧ m'.Perm m := by
  refine ⟨ds.map unRi, ?_, ?_⟩
  · rw [List.map_map]
    have : ∀ d ∈ ds, (Ri ∘ unRi) d = d := fun d hd => by
      obtain ⟨r, _, rfl⟩ := List.mem_map.mp (h.mem_iff.mp hd)
      show Ri (unRi (Ri r)) = Ri r
      rw [unRi_ri]
    rw [List.map_congr_left this]
    simp
  · have := h.map unRi
    rw [List.map_map] at this
    have e : (unRi ∘ Ri) = id := funext unRi_ri
    rw [e, List.map_id] at this
    exact this
theorem sortKey_ap {F : FF} {fa : FE} {s : S} {xs : List D} {ks : List Int} {μ' : List Cell} (h : fa s = .ok (.lst xs) s) (hl : xs.length ≤ 16777216) (hk : keysI F xs s.μ = some (ks, μ')) :
    dSortKey F fa s = .ok (.lst (((ks.zip xs).mergeSort fun p q => decide (p.1 ≤ q.1)).map (·.2))) { s with μ := μ' } := by
  unfold dSortKey
  rw [h]
  simp only [bind_ok, asl_lst]
  rw [if_pos hl, hk]
theorem with_row_ok {w n r : Nat} (hw : w ≤ 60) (hn : 0 < n) (hr0 : 0 < r) {lot : List (List Int)} {row : List Int} (L : Lt w n lot) (hr : row.length = w) (hb : Bd r row) (hk : lot.length ≤ 60) (hz : n + (r + lot.length * (n + 1)) + 1 ≤ 8000) (μ : List Cell) :
    ∃ m', F_with_row [.tup (lot.map Ri), Ri row] μ = .ok (.tup (m'.map Ri)) μ ∧ Lt w (n + (r + lot.length * (n + 1)) + 1) m' ∧ m'.length ≤ lot.length + 1 := by
  have hz2 : r + (lot.length + 1) * (n + 1) ≤ 40000 := by rw [Nat.add_mul, Nat.one_mul]; omega
  have e1 := rest_by_ok (w := w) (n := n) (r := r) (by omega) hn (lot := lot) (row := row) (fun o ho => ⟨L.len o ho, L.bd o ho, L.ld o ho⟩) hr hb hr0 hz2 μ
  have rl := rest_len (lot := lot) (row := row) L.len hr
  have rb : Bd (r + lot.length * (n + 1)) (rest lot row) := rest_bd L.bd hb
  have e2 := lowest_row_ok (rb.mono (by omega)) (by omega) μ
  cases ej : lead (low (rest lot row)) with
  | none =>
    refine ⟨lot, ?_, L.mono (by omega), Nat.le_succ _⟩
    simp [F_with_row, b_with_row, runF, e1, e2, lead_in_ok, ej, optD, isN, -List.map_map]
  | some j =>
    have ll : (low (rest lot row)).length = w := by rw [low_len]; exact rl
    have lb := low_bd rb
    have L2 := lt_with L ll lb ej fun o ho i hi => (low_at i).mpr (rest_zero L.len hr L.ap o ho i hi)
    have e3 := with_comp μ (.val (.tup (lot.map Ri))) (.val (Ri row)) .no (w := w) (n := n) (r := r + lot.length * (n + 1)) (by omega) hn (by omega) (by omega) ll lb ej lot fun o ho => ⟨L.len o ho, L.bd o ho⟩
    obtain ⟨ks, k1, k2⟩ := keys_ok μ _ L2.ld
    have pm : (((ks.zip ((lot.map (fun o => low (less o (low (rest lot row)))) ++ [low (rest lot row)]).map Ri)).mergeSort fun p q => decide (p.1 ≤ q.1)).map (·.2)).Perm ((lot.map (fun o => low (less o (low (rest lot row)))) ++ [low (rest lot row)]).map Ri) := by
      refine ((List.mergeSort_perm _ _).map _).trans ?_
      rw [List.map_snd_zip (by simp [k2])]
    obtain ⟨m', h1, h2⟩ := perm_ri pm
    refine ⟨m', ?_, L2.perm h2, by rw [h2.length_eq]; simp⟩
    have hk2 : lot.length ≤ 16777216 := by omega
    have hk3 : lot.length + 1 ≤ 16777216 := by omega
    rw [List.map_append, List.map_cons, List.map_nil] at k1 h1
    have ea : ∀ s : S, gAdd s (.lst ((lot.map fun o => low (less o (low (rest lot row)))).map Ri)) (.lst [Ri (low (rest lot row))]) = some (.lst ((lot.map fun o => low (less o (low (rest lot row)))).map Ri ++ [Ri (low (rest lot row))])) := fun s => add_ll _ _ _ (by simp; omega)
    simp [F_with_row, b_with_row, runF, e1, e2, lead_in_ok, ej, optD, isN, e3, ea, -List.map_map, hk2]
    have sk := sortKey_ap (F := F_lead_in) (fa := dVar 3) (s := ⟨[.val (.tup (lot.map Ri)), .val (Ri row), .val (Ri (low (rest lot row))), .val (.lst ((lot.map fun o => low (less o (low (rest lot row)))).map Ri ++ [Ri (low (rest lot row))])), .no], μ⟩) rfl (by simp; omega) k1
    rw [sk, h1]
    simp [gTuple]
/-- the size of what a lot may hold when t more rows of r bits come -/
def nb (r : Nat) : Nat → Nat → Nat → Nat
  | 0, n, _ => n
  | t + 1, n, k => nb r t (n + (r + k * (n + 1)) + 1) (k + 1)
theorem nb_ge (r : Nat) : ∀ (t n k : Nat), n ≤ nb r t n k
  | 0, n, k => Nat.le_refl _
  | t + 1, n, k => Nat.le_trans (by omega) (nb_ge r t _ _)
theorem nb_mono (r : Nat) : ∀ (t n k n' k' : Nat), n ≤ n' → k ≤ k' → nb r t n k ≤ nb r t n' k'
  | 0, n, k, n', k', h, _ => h
  | t + 1, n, k, n', k', h, h2 => nb_mono r t _ _ _ _ (by
      have : k * (n + 1) ≤ k' * (n' + 1) := Nat.mul_le_mul h2 (by omega)
      omega) (by omega)
theorem lot_loop (μ : List Cell) (a : DL.Slot) {w r : Nat} (hw : w ≤ 60) (hr0 : 0 < r) : ∀ (rows : List (List Int)) (lot : List (List Int)) (n : Nat) (c : DL.Slot), 0 < n → Lt w n lot → (∀ o ∈ rows, o.length = w ∧ Bd r o) → lot.length + rows.length ≤ 60 → nb r rows.length n lot.length ≤ 8000 →
    ∃ m' c', dFor (gNm 2) (dAsg 1 (dCall F_with_row (dCons (dVar 1) (dCons (dVar 2) dNil)))) (rows.map Ri) ⟨[a, .val (.tup (lot.map Ri)), c], μ⟩ = .nx ⟨[a, .val (.tup (m'.map Ri)), c'], μ⟩ ∧ Lt w (nb r rows.length n lot.length) m' ∧ m'.length ≤ lot.length + rows.length
  | [], lot, n, c, _, L, _, _, _ => ⟨lot, c, rfl, L, by simp⟩
  | o :: rows, lot, n, c, hn, L, hl, hk, hz => by
    obtain ⟨h1, h2⟩ := hl o (by simp)
    rw [List.length_cons] at hz hk
    have hz1 : n + (r + lot.length * (n + 1)) + 1 ≤ 8000 := Nat.le_trans (nb_ge r rows.length _ (lot.length + 1)) hz
    obtain ⟨m1, e1, L1, hm1⟩ := with_row_ok hw hn hr0 L h1 h2 (by omega) hz1 μ
    have hmono := nb_mono r rows.length (n + (r + lot.length * (n + 1)) + 1) m1.length _ _ (Nat.le_refl _) hm1
    obtain ⟨m', c', e2, L2, hm2⟩ := lot_loop μ a hw hr0 rows m1 _ (.val (Ri o)) (by omega) L1 (fun q hq => hl q (by simp [hq])) (by omega) (Nat.le_trans hmono hz)
    refine ⟨m', c', ?_, L2.mono hmono, by rw [List.length_cons]; omega⟩
    simp [dFor, e1, -List.map_map]
    exact e2
theorem lot_in_ok {w r : Nat} (hw : w ≤ 60) (hr0 : 0 < r) {rows : List (List Int)} (hl : ∀ o ∈ rows, o.length = w ∧ Bd r o) (hk : rows.length ≤ 60) (hz : nb r rows.length 1 0 ≤ 8000) (μ : List Cell) :
    ∃ m' : List (List Int), F_lot_in [.tup (rows.map Ri)] μ = .ok (.tup (m'.map Ri)) μ ∧ Lt w (nb r rows.length 1 0) m' ∧ m'.length ≤ rows.length := by
  obtain ⟨m', c', e, L, hm⟩ := lot_loop μ (.val (.tup (rows.map Ri))) hw hr0 rows [] 1 .no (by decide) ⟨by simp, by simp, by simp, .nil⟩ hl (by simpa using hk) hz
  refine ⟨m', ?_, L, by simpa using hm⟩
  have e : dFor (gNm 2) (dAsg 1 (dCall F_with_row (dCons (dVar 1) (dCons (dVar 2) dNil)))) (rows.map Ri) ⟨[.val (.tup (rows.map Ri)), .val (.tup []), .no], μ⟩ = .nx ⟨[.val (.tup (rows.map Ri)), .val (.tup (m'.map Ri)), c'], μ⟩ := e
  simp [F_lot_in, b_lot_in, runF, dForI, e, -List.map_map]
theorem lot_of_ok {w r : Nat} (h1 : 1 ≤ w) (hw : w ≤ 60) (hr0 : 0 < r) {rows : List (List Int)} (hl : ∀ o ∈ rows, o.length = w ∧ Bd r o) (hk : rows.length ≤ 60) (hz : nb r rows.length 1 0 ≤ 8000) (μ : List Cell) :
    ∃ m' : List (List Int), F_lot_of [.int w, .tup (rows.map Ri)] μ = .ok (.tup (m'.map Ri)) μ ∧ Lt w (nb r rows.length 1 0) m' ∧ m'.length ≤ rows.length := by
  obtain ⟨m', e, L, hm⟩ := lot_in_ok hw hr0 hl hk hz μ
  refine ⟨m', ?_, L, hm⟩
  simp [F_lot_of, b_lot_of, runF, require_width_ok h1 hw, require_rows_ok (w := w) (m := rows) (fun o ho => (hl o ho).1) (by omega) (by omega), e, -List.map_map]
end K13

namespace K13
open PySem PySem.Spec PyProof.Rows L2 DL
/-! ### is it a lot: the program's way -/
def anyAt (p i : Nat) : Nat → List (List Int) → Bool
  | _, [] => false
  | k, o :: os => (k != p && at0 o i != 0) || anyAt p i (k + 1) os
def plotGo (m : List (List Int)) : Nat → Int → List (List Int) → Bool
  | _, _, [] => true
  | p, ah, r :: rs => match lead r with
    | none => false
    | some i => if decide ((i : Int) ≤ ah) || !decide (low r = r) then false else if anyAt p i 0 m then false else plotGo m (p + 1) i rs
def othB (p i : Nat) : Nat → List (List Int) → List Bool
  | _, [] => []
  | k, o :: os => if k = p then othB p i (k + 1) os else (at0 o i != 0) :: othB p i (k + 1) os
theorem oth_any (p i : Nat) : ∀ (k : Nat) (os : List (List Int)), (othB p i k os).any id = anyAt p i k os
  | _, [] => rfl
  | k, o :: os => by
    unfold othB anyAt
    by_cases h : k = p
    · simp [h, oth_any p i (p + 1) os]
    · have e : (k != p) = true := by simpa using h
      simp [h, e, oth_any p i (k + 1) os]
theorem oth_comp (μ : List Cell) (a b c d : DL.Slot) {w i : Nat} (hi : i < w) (p : Nat) : ∀ (os : List (List Int)) (k : Nat), (∀ o ∈ os, o.length = w) → dLcGo [6, 7] (gT (gC (gNm 6) (gC (gNm 7) gN))) (dCmpT neS (dVar 6) (dVar 4)) (dOp neS (dOp gIx (dVar 7) (dVar 5)) (dC (.int (0)))) (enD k (os.map Ri)) ⟨[a, b, c, d, .val (.int (p : Nat)), .val (.int (i : Nat)), .no, .no], μ⟩ =
    .ok ((othB p i k os).map .bl) ⟨[a, b, c, d, .val (.int (p : Nat)), .val (.int (i : Nat)), .no, .no], μ⟩
  | [], k, _ => rfl
  | o :: os, k, h => by
    have ho := h o (by simp)
    have ih := oth_comp μ a b c d hi p os (k + 1) fun q hq => h q (by simp [hq])
    have hio : i < o.length := by omega
    by_cases e : k = p
    · subst e
      simp [enD, dLcGo, wipeD, backD, othB, ih]
    · have e2 : (!((k : Int) == (p : Int))) = true := by simp; omega
      simp [enD, dLcGo, wipeD, backD, othB, ih, e2, e, ix_row _ _ _ hio, at0_lt hio, bne]
theorem oth_len (p i : Nat) : ∀ (k : Nat) (os : List (List Int)), (othB p i k os).length ≤ os.length
  | _, [] => Nat.le_refl _
  | k, o :: os => by
    have := oth_len p i (k + 1) os
    unfold othB
    split <;> simp <;> omega
theorem any_bls (s : S) (bs : List Bool) : gAny s [.lst (bs.map .bl)] = some (.bl (bs.any id)) := any_bl s id bs
def plotBody : FS := (dSeq (dAsg 5 (dCall F_lead_in (dCons (dVar 2) dNil)))
    (dSeq (dIfS (dOrT (dCmpT isN (dVar 5) (dC .non)) (dOrT (dCmpT gLe (dVar 5) (dVar 3)) (dCmpT neS (dCall F_lowest_row (dCons (dVar 2) dNil)) (dVar 2)))) (dRet (dC (.bl false))) dSkip)
    (dSeq (dIfS (dTruth (dB gAny (dCons (dFrz (dLc [6, 7] (dIterEn (dCons (dVar 1) dNil)) (gT (gC (gNm 6) (gC (gNm 7) gN))) (dCmpT neS (dVar 6) (dVar 4)) (dOp neS (dOp gIx (dVar 7) (dVar 5)) (dC (.int (0)))))) dNil))) (dRet (dC (.bl false))) dSkip)
    (dAsg 3 (dVar 5)))))
theorem plot_loop (μ : List Cell) (W : DL.Slot) {w : Nat} {m : List (List Int)} (hm : ∀ r ∈ m, r.length = w ∧ Bd 8000 r) (hw : w ≤ 60) (hl : m.length ≤ 60) : ∀ (rs : List (List Int)) (p : Nat) (ah : Int) (c2 c4 c5 : DL.Slot), (∀ r ∈ rs, r ∈ m) →
    ∃ d2 d3 d4 d5, dFor (gT (gC (gNm 4) (gC (gNm 2) gN))) plotBody (enD p (rs.map Ri)) ⟨[W, .val (.tup (m.map Ri)), c2, .val (.int ah), c4, c5, .no, .no], μ⟩ =
      (if plotGo m p ah rs then .nx ⟨[W, .val (.tup (m.map Ri)), d2, d3, d4, d5, .no, .no], μ⟩ else .rt (.bl false) ⟨[W, .val (.tup (m.map Ri)), d2, d3, d4, d5, .no, .no], μ⟩)
  | [], p, ah, c2, c4, c5, _ => ⟨c2, _, c4, c5, rfl⟩
  | r :: rs, p, ah, c2, c4, c5, h => by
    have hr := h r (by simp)
    obtain ⟨h1, h2⟩ := hm r hr
    have e2 := lowest_row_ok h2 (by omega) μ
    cases el : lead r with
    | none =>
      refine ⟨.val (Ri r), .val (.int ah), .val (.int p), .val .non, ?_⟩
      simp [enD, dFor, plotBody, lead_in_ok, el, optD, isN, plotGo]
    | some i =>
      have hi : i < w := by have := (lead_some el).1; omega
      by_cases ha : (i : Int) ≤ ah
      · have ha2 : decide ((i : Int) ≤ ah) = true := decide_eq_true ha
        refine ⟨.val (Ri r), .val (.int ah), .val (.int p), .val (.int i), ?_⟩
        simp [enD, dFor, plotBody, lead_in_ok, el, optD, isN, plotGo, ha2]
      · have ha2 : decide ((i : Int) ≤ ah) = false := decide_eq_false ha
        by_cases hw2 : low r = r
        · have hm2 : (m.map Ri).length ≤ 16777216 := by simp; omega
          have oc := oth_comp μ W (.val (.tup (m.map Ri))) (.val (Ri r)) (.val (.int ah)) hi p m 0 fun o ho => (hm o ho).1
          have en : (enD 0 (m.map Ri)).length ≤ 16777216 := by rw [enD_len]; exact hm2
          by_cases hy : anyAt p i 0 m = true
          · refine ⟨.val (Ri r), .val (.int ah), .val (.int p), .val (.int i), ?_⟩
            simp [enD, dFor, plotBody, lead_in_ok, el, optD, isN, plotGo, ha2, e2, hw2, en, oc, any_bls, oth_any, hy, -List.map_map]
          · have hy : anyAt p i 0 m = false := by simpa using hy
            obtain ⟨d2, d3, d4, d5, e⟩ := plot_loop μ W hm hw hl rs (p + 1) i (.val (Ri r)) (.val (.int p)) (.val (.int i)) fun q hq => h q (by simp [hq])
            refine ⟨d2, d3, d4, d5, ?_⟩
            simp [enD, dFor, plotBody, lead_in_ok, el, optD, isN, plotGo, ha2, e2, hw2, en, oc, any_bls, oth_any, hy, -List.map_map]
            unfold plotBody at e
            rw [e]
        · refine ⟨.val (Ri r), .val (.int ah), .val (.int p), .val (.int i), ?_⟩
          simp [enD, dFor, plotBody, lead_in_ok, el, optD, isN, plotGo, ha2, e2, hw2]
/-- what a value tells as a lot -/
def lotB (w : Nat) (f : List (List Int) → Bool) : D → Bool
  | .tup ds => if ds.all (rowB w) then f (ds.map unRi) else false
  | _ => false
structure Okv (w : Nat) (v : D) : Prop where
  fine : Fine v
  len : ∀ xs, v = .tup xs → xs.length ≤ 60
  len2 : ∀ xs, v = .tup xs → ∀ x ∈ xs, ∀ ys, x = .tup ys → ys.length ≤ 16777216
  bd : ∀ xs, v = .tup xs → ∀ r, Ri r ∈ xs → Bd 8000 r
theorem rows_of {w : Nat} {ds : List D} (h : ds.all (rowB w) = true) : ∃ m : List (List Int), ds = m.map Ri ∧ ∀ r ∈ m, r.length = w := by
  induction ds with
  | nil => exact ⟨[], rfl, by simp⟩
  | cons d ds ih =>
    rw [List.all_cons, Bool.and_eq_true] at h
    obtain ⟨xs, rfl, hx⟩ := rowB_of h.1
    obtain ⟨m, rfl, hm⟩ := ih h.2
    exact ⟨xs :: m, rfl, fun r hr => (List.mem_cons.mp hr).elim (fun z => z ▸ hx) (hm r)⟩
theorem Fine.sub {ds : List D} (h : Fine (.tup ds)) : ∀ d ∈ ds, Fine d := by
  cases h with
  | tup _ h => exact h
theorem is_plain_lot_ok {w : Nat} (hw : w ≤ 60) {v : D} (h : Okv w v) (μ : List Cell) : F_is_plain_lot [.int w, v] μ = .ok (.bl (lotB w (fun m => plotGo m 0 (-1) m) v)) μ := by
  obtain ⟨h1, h2, h3, h4⟩ := h
  cases h1 with
  | tup ds hx =>
    have hl := h2 ds rfl
    have hl2 : ds.length ≤ 16777216 := by omega
    have pc := plain_rows .non μ (w := w) (.val (.tup ds)) .no ds fun d hd => ⟨hx d hd, h3 ds rfl d hd⟩
    have pc : ∀ a b c d e f : DL.Slot, dLcGo [2] (gNm 2) dYes (dCall F_is_plain_row (dCons (dVar 0) (dCons (dVar 2) dNil))) ds ⟨[.val (.int w), .val (.tup ds), .no, a, b, c, d, e], μ⟩ = .ok (ds.map fun d => .bl (rowB w d)) ⟨[.val (.int w), .val (.tup ds), .no, a, b, c, d, e], μ⟩ := by
      intro a b c d e f
      have key : ∀ es : List D, (∀ x ∈ es, Fine x ∧ ∀ xs, x = .tup xs → xs.length ≤ 16777216) → dLcGo [2] (gNm 2) dYes (dCall F_is_plain_row (dCons (dVar 0) (dCons (dVar 2) dNil))) es ⟨[.val (.int w), .val (.tup ds), .no, a, b, c, d, e], μ⟩ = .ok (es.map fun d => .bl (rowB w d)) ⟨[.val (.int w), .val (.tup ds), .no, a, b, c, d, e], μ⟩ := by
        intro es
        induction es with
        | nil => intro _; rfl
        | cons x es ih =>
          intro h
          obtain ⟨q1, q2⟩ := h x (by simp)
          simp [dLcGo, wipeD, backD, is_plain_row_ok q1 q2, q1.no, ih fun y hy => h y (by simp [hy])]
      exact key ds fun d hd => ⟨hx d hd, h3 ds rfl d hd⟩
    by_cases ha : ds.all (rowB w) = true
    · obtain ⟨m, rfl, hm⟩ := rows_of ha
      have hm2 : ∀ r ∈ m, r.length = w ∧ Bd 8000 r := fun r hr => ⟨hm r hr, h4 _ rfl r (List.mem_map_of_mem hr)⟩
      have um : (m.map Ri).map unRi = m := by
        rw [List.map_map, show (unRi ∘ Ri) = id from funext unRi_ri, List.map_id]
      obtain ⟨d2, d3, d4, d5, e⟩ := plot_loop μ (.val (.int w)) hm2 hw (by simpa using hl) m 0 (-1) .no .no .no fun _ z => z
      unfold plotBody at e
      have hl3 : m.length ≤ 16777216 := by simpa using hl2
      simp [F_is_plain_lot, b_is_plain_lot, runF, gIsi, tyD, kitB, hl3, pc .no .no .no .no .no .no, ha, dForI, e, lotB, um, -List.map_map]
      cases plotGo m 0 (-1) m <;> simp

    · have ha : ds.all (rowB w) = false := by simpa using ha
      simp [F_is_plain_lot, b_is_plain_lot, runF, gIsi, tyD, kitB, hl2, pc .no .no .no .no .no .no, ha, lotB]
  | non => rfl
  | bl b => rfl
  | int i => rfl
  | str x => rfl
  | lst xs h => rfl
  | dct k => rfl
end K13

namespace K13
open PySem PySem.Spec PyProof.Rows L2 DL
/-! ### is it a lot: the law's way -/
@[simp] theorem eq_l0 (s : S) (a : List Int) : eqS s (.lst (a.map .int)) (.lst []) = some (.bl (decide (a = []))) := eq_ll s a []
@[simp] theorem ne_l0 (s : S) (a : List Int) : neS s (.lst (a.map .int)) (.lst []) = some (.bl (!decide (a = []))) := ne_ll s a []
@[simp] theorem ne_00 (s : S) : neS s (.lst []) (.lst []) = some (.bl false) := ne_ll s [] []
@[simp] theorem eq_00 (s : S) : eqS s (.lst []) (.lst []) = some (.bl true) := eq_ll s [] []
def ones {α : Type} (f : α → Bool) : List α → List Int
  | [] => []
  | x :: xs => if f x then 1 :: ones f xs else ones f xs
theorem ones_nil {α : Type} (f : α → Bool) : ∀ xs : List α, decide (ones f xs = []) = xs.all (fun x => !f x)
  | [] => by simp [ones]
  | x :: xs => by
    have := ones_nil f xs
    unfold ones
    by_cases h : f x = true
    · simp [h]
    · have h : f x = false := by simpa using h
      simp [h, this]
theorem ones_len {α : Type} (f : α → Bool) : ∀ xs : List α, (ones f xs).length ≤ xs.length
  | [] => Nat.le_refl _
  | x :: xs => by
    have := ones_len f xs
    unfold ones
    split <;> simp <;> omega
def isIB : D → Bool | .int _ => true | .bl _ => true | _ => false
def isBB : D → Bool | .bl _ => true | _ => false
theorem isi_i {d : D} (h : Fine d) (s : S) : gIsi s [d, .ty "int"] = some (.bl (isIB d)) := by cases h <;> rfl
theorem isi_b {d : D} (h : Fine d) (s : S) : gIsi s [d, .ty "bool"] = some (.bl (isBB d)) := by cases h <;> rfl
theorem isi_not {d : D} (h : Fine d) : (!isIB d || isBB d) = !isI d := by cases h <;> rfl
theorem notint_comp (a b : DL.Slot) (μ : List Cell) : ∀ ds : List D, (∀ d ∈ ds, Fine d) → dLcGo [2] (gNm 2) (dOrT (dNotT (dTruth (dB gIsi (dCons (dVar 2) (dCons (dC (.ty "int")) dNil))))) (dTruth (dB gIsi (dCons (dVar 2) (dCons (dC (.ty "bool")) dNil))))) (dC (.int (1))) ds ⟨[a, b, .no], μ⟩ = .ok ((ones (fun d => !isI d) ds).map .int) ⟨[a, b, .no], μ⟩
  | [], _ => rfl
  | d :: ds, h => by
    have ih := notint_comp a b μ ds fun x hx => h x (by simp [hx])
    have hd := h d (by simp)
    have e := isi_not hd
    by_cases h1 : isIB d = true
    · by_cases h2 : isBB d = true
      · rw [h1, h2] at e
        simp [dLcGo, wipeD, backD, isi_i hd, isi_b hd, h1, h2, ih, ones, ← e]
      · have h2 : isBB d = false := by simpa using h2
        rw [h1, h2] at e
        simp [dLcGo, wipeD, backD, isi_i hd, isi_b hd, h1, h2, ih, ones, ← e]
    · have h1 : isIB d = false := by simpa using h1
      rw [h1] at e
      simp [dLcGo, wipeD, backD, isi_i hd, isi_b hd, h1, ih, ones, ← e]
theorem L_is_row_ok {w : Nat} {v : D} (h : Fine v) (hl : ∀ xs, v = .tup xs → xs.length ≤ 16777216) (μ : List Cell) : F_L_is_row [.int w, v] μ = .ok (.bl (rowB w v)) μ := by
  cases h with
  | tup xs hx =>
    have hl := hl xs rfl
    by_cases hw : xs.length = w
    · subst hw
      have e : decide (ones (fun d => !isI d) xs = []) = xs.all isI := by rw [ones_nil]; simp
      simp [F_L_is_row, b_L_is_row, runF, gIsi, tyD, kitB, gLen, hl, notint_comp _ _ _ _ hx, rowB, -decide_eq_true_eq, e]
    · have e : ((xs.length : Int) == (w : Int)) = false := by simp; omega
      have e2 : (xs.length == w) = false := by simpa using hw
      simp [F_L_is_row, b_L_is_row, runF, gIsi, tyD, kitB, gLen, e, rowB, e2]
  | non => rfl
  | bl b => rfl
  | int i => rfl
  | str x => rfl
  | lst xs h => rfl
  | dct k => rfl
/-! the comprehensions of _law_is_lot -/
theorem notrow_comp (b c d : DL.Slot) (μ : List Cell) {w : Nat} : ∀ ds : List D, (∀ d ∈ ds, Fine d ∧ ∀ xs, d = .tup xs → xs.length ≤ 16777216) → dLcGo [4] (gNm 4) (dNotT (dTruth (dCall F_L_is_row (dCons (dVar 0) (dCons (dVar 4) dNil))))) (dC (.int (1))) ds ⟨[.val (.int w), b, c, d, .no], μ⟩ = .ok ((ones (fun d => !rowB w d) ds).map .int) ⟨[.val (.int w), b, c, d, .no], μ⟩
  | [], _ => rfl
  | x :: ds, h => by
    have ih := notrow_comp b c d μ (w := w) ds fun x hx => h x (by simp [hx])
    obtain ⟨q1, q2⟩ := h x (by simp)
    have e := L_is_row_ok (w := w) q1 q2 μ
    by_cases hr : rowB w x = true
    · simp [dLcGo, wipeD, backD, e, q1.no, hr, ih, ones]
    · have hr : rowB w x = false := by simpa using hr
      simp [dLcGo, wipeD, backD, e, q1.no, hr, ih, ones]
theorem leads_comp (a b c d : DL.Slot) (μ : List Cell) : ∀ m : List (List Int), (∀ r ∈ m, r.length < 16777216) → dLcGo [4] (gNm 4) dYes (dCall F_L_lead (dCons (dVar 4) dNil)) (m.map Ri) ⟨[a, b, c, d, .no], μ⟩ = .ok ((m.map fun r => (leadL r : Int)).map .int) ⟨[a, b, c, d, .no], μ⟩
  | [], _ => rfl
  | r :: m, h => by
    have ih := leads_comp a b c d μ m fun q hq => h q (by simp [hq])
    simp only [List.map_map] at ih
    simp [dLcGo, wipeD, backD, L_lead_ok r (h r (by simp)), ih]
theorem low_comp (a b c d : DL.Slot) (μ : List Cell) : ∀ m : List (List Int), (∀ r ∈ m, r.length < 16777216 ∧ Bd 8000 r) → dLcGo [4] (gNm 4) (dCmpT neS (dCall F_L_lowest (dCons (dVar 4) dNil)) (dVar 4)) (dC (.int (1))) (m.map Ri) ⟨[a, b, c, d, .no], μ⟩ = .ok ((ones (fun r => !decide (low r = r)) m).map .int) ⟨[a, b, c, d, .no], μ⟩
  | [], _ => rfl
  | r :: m, h => by
    have ih := low_comp a b c d μ m fun q hq => h q (by simp [hq])
    obtain ⟨h1, h2⟩ := h r (by simp)
    have e := L_lowest_ok h2 h1 μ
    by_cases hr : low r = r
    · simp [dLcGo, wipeD, backD, e, hr, ih, ones]
    · simp [dLcGo, wipeD, backD, e, hr, ih, ones]
def nzRows (l : Nat) (m : List (List Int)) : List (List Int) := m.filter fun r => at0 r l != 0
theorem nzr_comp (a b c : DL.Slot) (μ : List Cell) {w l : Nat} (hl : l < w) : ∀ m : List (List Int), (∀ r ∈ m, r.length = w) → dLcGo [4] (gNm 4) (dCmpT neS (dOp gIx (dVar 4) (dVar 3)) (dC (.int (0)))) (dVar 4) (m.map Ri) ⟨[a, b, c, .val (.int (l : Nat)), .no], μ⟩ = .ok ((nzRows l m).map Ri) ⟨[a, b, c, .val (.int (l : Nat)), .no], μ⟩
  | [], _ => rfl
  | r :: m, h => by
    have ih := nzr_comp a b c μ hl m fun q hq => h q (by simp [hq])
    have hr : l < r.length := by have := h r (by simp); omega
    unfold nzRows at ih
    by_cases hz : r[l] = 0
    · simp [dLcGo, wipeD, backD, nzRows, ix_row _ _ _ hr, hz, at0_lt hr, ih, -List.map_map]
    · have hz2 : (r[l] == 0) = false := by simpa using hz
      simp [dLcGo, wipeD, backD, nzRows, ix_row _ _ _ hr, hz2, hz, at0_lt hr, ih, -List.map_map, bne]
theorem lead_loopL (a : DL.Slot) (μ : List Cell) (c : DL.Slot) {w : Nat} {m : List (List Int)} (hm : ∀ r ∈ m, r.length = w) (hl : m.length ≤ 60) : ∀ (ls : List Nat) (d : DL.Slot), (∀ l ∈ ls, l < w) →
    ∃ d', dFor (gNm 3) (dIfS (dCmpT neS (dB gLen (dCons (dFrz (dLc [4] (dIter (dVar 1)) (gNm 4) (dCmpT neS (dOp gIx (dVar 4) (dVar 3)) (dC (.int (0)))) (dVar 4))) dNil)) (dC (.int (1)))) (dRet (dC (.bl false))) dSkip) ((ls.map fun (l : Nat) => (l : Int)).map .int) ⟨[a, .val (.tup (m.map Ri)), c, d, .no], μ⟩ =
      (if ls.all (fun l => (nzRows l m).length == 1) then .nx ⟨[a, .val (.tup (m.map Ri)), c, d', .no], μ⟩ else .rt (.bl false) ⟨[a, .val (.tup (m.map Ri)), c, d', .no], μ⟩)
  | [], d, _ => ⟨d, rfl⟩
  | l :: ls, d, h => by
    have e := nzr_comp a (.val (.tup (m.map Ri))) c μ (h l (by simp)) m hm
    have hl2 : m.length ≤ 16777216 := by omega
    by_cases h1 : (nzRows l m).length = 1
    · obtain ⟨d', e2⟩ := lead_loopL a μ c hm hl ls (.val (.int l)) fun q hq => h q (by simp [hq])
      refine ⟨d', ?_⟩
      simp [dFor, e, gLen, hl2, h1, -List.map_map]
      simp only [List.all_eq_true, beq_iff_eq] at e2
      rw [e2]
    · refine ⟨.val (.int l), ?_⟩
      have h2 : (((nzRows l m).length : Int) == 1) = false := by simp; omega
      have h3 : ((nzRows l m).length == 1) = false := by simpa using h1
      simp [dFor, e, gLen, hl2, h2, h3, -List.map_map]
/-- the law's word of rows -/
def LL (w : Nat) (m : List (List Int)) : Bool :=
  let ls := m.map fun r => (leadL r : Int)
  if !decide (ls = sortU ls) || ls.any (fun l => l == (w : Int)) || !(m.all fun r => decide (low r = r)) then false else (m.map leadL).all fun l => (nzRows l m).length == 1
theorem in_ints (s : S) (w : Int) (ls : List Int) : gDat inG s (.int w) (.lst (ls.map .int)) = some (.bl (ls.any fun l => l == w)) := by
  have : (ls.map PyData.int).any (fun y => PyData.eqv y (.int w)) = ls.any fun l => l == w := by
    rw [List.any_map]
    rfl
  simp only [gDat, pys_int, pys_lst, py_ints, Option.map_some, inG, sh_int, sh_lsti, Bool.and_self, if_true, this]
theorem is_lotL_ok {w : Nat} (hw : w ≤ 60) {v : D} (h : Okv w v) (μ : List Cell) : F_L_is_lot [.int w, v] μ = .ok (.bl (lotB w (LL w) v)) μ := by
  obtain ⟨h1, h2, h3, h4⟩ := h
  cases h1 with
  | tup ds hx =>
    have hl := h2 ds rfl
    have hl2 : ds.length ≤ 16777216 := by omega
    have nr := notrow_comp (.val (.tup ds)) .no .no μ (w := w) ds fun d hd => ⟨hx d hd, h3 ds rfl d hd⟩
    by_cases ha : ds.all (rowB w) = true
    · obtain ⟨m, rfl, hm⟩ := rows_of ha
      have hm2 : ∀ r ∈ m, r.length < 16777216 ∧ Bd 8000 r := fun r hr => ⟨by have := hm r hr; omega, h4 _ rfl r (List.mem_map_of_mem hr)⟩
      have um : (m.map Ri).map unRi = m := by
        rw [List.map_map, show (unRi ∘ Ri) = id from funext unRi_ri, List.map_id]
      have o0 : ones (fun d => !rowB w d) (m.map Ri) = [] := by
        have := ones_nil (fun d => !rowB w d) (m.map Ri)
        simpa [ha] using this
      have hml : m.length ≤ 60 := by simpa using hl
      have hml2 : m.length ≤ 16777216 := by omega
      have hml3 : m.length < 63 := by omega
      have lc := leads_comp (.val (.int w)) (.val (.tup (m.map Ri))) .no .no μ m fun r hr => (hm2 r hr).1
      generalize hls : (m.map fun r => (leadL r : Int)) = ls at lc
      have lsl : ls.length < 63 := by rw [← hls]; simpa using hml3
      have lw := low_comp (.val (.int w)) (.val (.tup (m.map Ri))) (.val (.lst (ls.map .int))) .no μ m hm2
      have lwd := ones_nil (fun r => !decide (low r = r)) m
      have ss : ∀ s : S, s.δ[2]? = some (.val (.lst (ls.map .int))) → dSortSet (dVar 2) s = .ok (.lst ((sortU ls).map .int)) s := fun s hs => by
        simp [dSortSet, hs, ints_map, lsl]
      have lt : lotB w (LL w) (.tup (m.map Ri)) = LL w m := by
        show (if (m.map Ri).all (rowB w) = true then LL w ((m.map Ri).map unRi) else false) = LL w m
        rw [if_pos ha, um]
      rw [lt]
      by_cases c1 : ls = sortU ls
      · have n1 : ∀ s : S, neS s (.lst (ls.map .int)) (.lst ((sortU ls).map .int)) = some (.bl false) := fun s => by rw [ne_ll, decide_eq_true c1]; rfl
        by_cases c2 : ls.any (fun l => l == (w : Int)) = true
        · have e : LL w m = false := by unfold LL; simp only [hls, ← c1, decide_true, Bool.not_true, c2, Bool.or_true, Bool.true_or, Bool.false_or, if_true]
          have n2 : ∀ s : S, gDat inG s (.int w) (.lst (ls.map .int)) = some (.bl true) := fun s => by rw [in_ints, c2]
          rw [e]
          simp [F_L_is_lot, b_L_is_lot, runF, gIsi, tyD, kitB, hml2, nr, o0, lc, dFrzS, frzAt, Cell.toD, ss, n1, n2, -List.map_map]
        · have c2 : ls.any (fun l => l == (w : Int)) = false := by
            cases h : ls.any (fun l => l == (w : Int))
            · rfl
            · exact absurd h c2
          have n2 : ∀ s : S, gDat inG s (.int w) (.lst (ls.map .int)) = some (.bl false) := fun s => by rw [in_ints, c2]
          by_cases c3 : ones (fun r => !decide (low r = r)) m = []
          · have c4 : (m.all fun r => decide (low r = r)) = true := by rw [c3] at lwd; simpa using lwd.symm
            have hl3 : ∀ l ∈ m.map leadL, l < w := fun l hl => by
              obtain ⟨r, hr, rfl⟩ := List.mem_map.mp hl
              have h5 : leadL r ≤ r.length := lead_lt
              have h6 := hm r hr
              rcases Nat.lt_or_ge (leadL r) w with h7 | h7
              · exact h7
              · have h8 : leadL r = w := by omega
                have : ls.any (fun l => l == (w : Int)) = true := by
                  rw [← hls, List.any_map, List.any_eq_true]
                  exact ⟨r, hr, by simp [h8]⟩
                rw [this] at c2
                cases c2
            obtain ⟨d', lp⟩ := lead_loopL (.val (.int w)) μ (.val (.lst (ls.map .int))) hm hml (m.map leadL) .no hl3
            have hls2 : ((m.map leadL).map fun (l : Nat) => (l : Int)) = ls := by rw [← hls, List.map_map]; rfl
            rw [hls2] at lp
            have e : LL w m = (m.map leadL).all fun l => (nzRows l m).length == 1 := by
              unfold LL
              simp only [hls, ← c1, decide_true, Bool.not_true, c2, Bool.or_false, c4, if_neg Bool.false_ne_true]
            rw [e]
            generalize ((m.map leadL).all fun l => (nzRows l m).length == 1) = fin at lp ⊢
            simp [F_L_is_lot, b_L_is_lot, runF, gIsi, tyD, kitB, hml2, nr, o0, lc, dFrzS, frzAt, Cell.toD, ss, n1, n2, lw, c3, dForI, lp, -List.map_map]
            cases fin <;> simp
          · have c4 : (m.all fun r => decide (low r = r)) = false := by
              rw [decide_eq_false c3] at lwd
              simp only [Bool.not_not] at lwd
              exact lwd.symm
            have n3 : ∀ s : S, neS s (.lst ((ones (fun r => !decide (low r = r)) m).map .int)) (.lst []) = some (.bl true) := fun s => by rw [ne_l0, decide_eq_false c3]; rfl
            have e : LL w m = false := by unfold LL; simp only [hls, ← c1, decide_true, Bool.not_true, c2, Bool.or_false, c4, Bool.not_false, Bool.or_true, if_true]
            rw [e]
            simp [F_L_is_lot, b_L_is_lot, runF, gIsi, tyD, kitB, hml2, nr, o0, lc, dFrzS, frzAt, Cell.toD, ss, n1, n2, lw, n3, -List.map_map]
      · have n1 : ∀ s : S, neS s (.lst (ls.map .int)) (.lst ((sortU ls).map .int)) = some (.bl true) := fun s => by rw [ne_ll, decide_eq_false c1]; rfl
        have e : LL w m = false := by unfold LL; simp only [hls, decide_eq_false c1, Bool.not_false, Bool.true_or, if_true]
        rw [e]
        simp [F_L_is_lot, b_L_is_lot, runF, gIsi, tyD, kitB, hml2, nr, o0, lc, dFrzS, frzAt, Cell.toD, ss, n1, -List.map_map]
    · have ha2 : ds.all (rowB w) = false := by simpa using ha
      have o1 : ones (fun d => !rowB w d) ds ≠ [] := fun z => by
        have := ones_nil (fun d => !rowB w d) ds
        rw [z] at this
        simp [ha2] at this
      simp [F_L_is_lot, b_L_is_lot, runF, gIsi, tyD, kitB, hl2, nr, ha2, lotB, o1]
  | non => rfl
  | bl b => rfl
  | int i => rfl
  | str x => rfl
  | lst xs h => rfl
  | dct k => rfl
end K13

namespace K13
open PySem PySem.Spec PyProof.Rows L2 DL
/-! ### the two words agree -/
theorem anyAt_false (p i : Nat) : ∀ (m : List (List Int)) (k : Nat), anyAt p i k m = false ↔ ∀ q r, m[q]? = some r → k + q ≠ p → at0 r i = 0
  | [], k => by simp [anyAt]
  | o :: m, k => by
    unfold anyAt
    rw [Bool.or_eq_false_iff, anyAt_false p i m (k + 1)]
    constructor
    · rintro ⟨h1, h2⟩ q r hq hp
      cases q with
      | zero =>
        simp at hq
        subst hq
        have hk : (k != p) = true := by simpa using hp
        rw [hk, Bool.true_and] at h1
        simpa using h1
      | succ q => exact h2 q r (by simpa using hq) (by omega)
    · intro h
      refine ⟨?_, fun q r hq hp => h (q + 1) r (by simpa using hq) (by omega)⟩
      by_cases hk : k = p
      · simp [hk]
      · have := h 0 o (by simp) (by simpa using hk)
        simp [this]
def Zer (m : List (List Int)) (j : Nat) (l : Nat) : Prop := ∀ q r, m[q]? = some r → q ≠ j → at0 r l = 0
theorem plot_iff (m : List (List Int)) : ∀ (rs : List (List Int)) (p : Nat) (ah : Int), plotGo m p ah rs = true ↔
    (∀ r ∈ rs, lead r ≠ none ∧ low r = r) ∧ (ah :: rs.map fun r => (leadL r : Int)).Pairwise (· < ·) ∧ ∀ j r, rs[j]? = some r → Zer m (p + j) (leadL r)
  | [], p, ah => by simp [plotGo]
  | r :: rs, p, ah => by
    unfold plotGo
    cases el : lead r with
    | none => simp [el]
    | some i =>
      have ll : leadL r = i := by unfold leadL; rw [el]
      simp only
      by_cases c1 : (i : Int) ≤ ah
      · rw [if_pos (by simp [c1])]
        simp only [Bool.false_eq_true, false_iff]
        rintro ⟨_, h2, _⟩
        rw [List.map_cons, List.pairwise_cons] at h2
        have := h2.1 (leadL r : Int) (by simp)
        omega
      · by_cases c2 : low r = r
        · rw [if_neg (by simp [c1, c2])]
          by_cases c3 : anyAt p i 0 m = true
          · rw [if_pos c3]
            simp only [Bool.false_eq_true, false_iff]
            rintro ⟨_, _, h3⟩
            have h4 := h3 0 r (by simp)
            rw [ll] at h4
            have : anyAt p i 0 m = false := (anyAt_false p i m 0).mpr fun q r hq hp => h4 q r hq (by omega)
            rw [this] at c3
            cases c3
          · have c3 : anyAt p i 0 m = false := by simpa using c3
            rw [if_neg (by rw [c3]; exact Bool.false_ne_true), plot_iff m rs (p + 1) i]
            have z := (anyAt_false p i m 0).mp c3
            constructor
            · rintro ⟨h1, h2, h3⟩
              refine ⟨fun r' hr => ?_, ?_, fun j r' hj => ?_⟩
              · rcases List.mem_cons.mp hr with rfl | hr
                · exact ⟨(by rw [el]; exact fun z => nomatch z), c2⟩
                · exact h1 r' hr
              · rw [List.map_cons, ll, List.pairwise_cons]
                refine ⟨fun a ha => ?_, h2⟩
                rcases List.mem_cons.mp ha with rfl | ha
                · omega
                · have := (List.pairwise_cons.mp h2).1 a ha
                  omega
              · cases j with
                | zero =>
                  simp at hj
                  subst hj
                  rw [ll]
                  exact fun q r hq hp => z q r hq (by omega)
                | succ j =>
                  have := h3 j r' (by simpa using hj)
                  rwa [show p + 1 + j = p + (j + 1) from by omega] at this
            · rintro ⟨h1, h2, h3⟩
              rw [List.map_cons, ll, List.pairwise_cons] at h2
              refine ⟨fun r' hr => h1 r' (by simp [hr]), h2.2, fun j r' hj => ?_⟩
              have := h3 (j + 1) r' (by simpa using hj)
              rwa [show p + (j + 1) = p + 1 + j from by omega] at this
        · rw [if_pos (by simp [c2])]
          simp only [Bool.false_eq_true, false_iff]
          rintro ⟨h1, _, _⟩
          exact c2 (h1 r (by simp)).2
theorem one_iff (l : Nat) : ∀ (m : List (List Int)) (j : Nat) (r : List Int), m[j]? = some r → at0 r l ≠ 0 → ((nzRows l m).length = 1 ↔ Zer m j l)
  | [], j, r, h, _ => by simp at h
  | o :: m, 0, r, h, hz => by
    simp at h
    subst h
    have e : (at0 o l != 0) = true := by simpa using hz
    unfold nzRows
    rw [List.filter_cons, if_pos e, List.length_cons]
    constructor
    · intro h q r hq hq0
      have h0 : (m.filter fun r => at0 r l != 0) = [] := List.eq_nil_of_length_eq_zero (by omega)
      cases q with
      | zero => exact absurd rfl hq0
      | succ q =>
        have hm : r ∈ m := List.mem_of_getElem? (by simpa using hq)
        have := List.filter_eq_nil_iff.mp h0 r hm
        simpa using this
    · intro h
      have : (m.filter fun r => at0 r l != 0) = [] := List.filter_eq_nil_iff.mpr fun r hr => by
        obtain ⟨q, hq⟩ := List.mem_iff_getElem?.mp hr
        have := h (q + 1) r (by simpa using hq) (by omega)
        simp [this]
      rw [this]
      rfl
  | o :: m, j + 1, r, h, hz => by
    have hj : m[j]? = some r := by simpa using h
    have ih := one_iff l m j r hj hz
    unfold nzRows at ih ⊢
    by_cases ho : at0 o l = 0
    · have e : (at0 o l != 0) = false := by simp [ho]
      rw [List.filter_cons, if_neg (by rw [e]; exact Bool.false_ne_true), ih]
      constructor
      · intro h q r hq hn
        cases q with
        | zero => simp at hq; subst hq; exact ho
        | succ q => exact h q r (by simpa using hq) (by omega)
      · intro h q r hq hn
        exact h (q + 1) r (by simpa using hq) (by omega)
    · have e : (at0 o l != 0) = true := by simpa using ho
      rw [List.filter_cons, if_pos e, List.length_cons]
      constructor
      · intro h2
        have h0 : (m.filter fun r => at0 r l != 0) = [] := List.eq_nil_of_length_eq_zero (by omega)
        have := List.filter_eq_nil_iff.mp h0 r (List.mem_of_getElem? hj)
        simp at this
        exact absurd this hz
      · intro h2
        exact absurd (h2 0 o (by simp) (by omega)) ho
theorem ge_neg : ∀ ls : List Int, (∀ l ∈ ls, 0 ≤ l) → ((-1 :: ls).Pairwise (· < ·) ↔ ls.Pairwise (· < ·)) := fun ls h => by
  rw [List.pairwise_cons]
  exact ⟨fun q => q.2, fun q => ⟨fun a ha => by have := h a ha; omega, q⟩⟩
theorem agree {w : Nat} {m : List (List Int)} (hm : ∀ r ∈ m, r.length = w) : plotGo m 0 (-1) m = LL w m := by
  rw [Bool.eq_iff_iff, plot_iff, ge_neg _ (fun l hl => by obtain ⟨r, _, rfl⟩ := List.mem_map.mp hl; omega)]
  have hs : (m.map fun r => (leadL r : Int)) = sortU (m.map fun r => (leadL r : Int)) ↔ (m.map fun r => (leadL r : Int)).Pairwise (· < ·) :=
    ⟨fun h => by rw [h]; exact sortU_sorted, fun h => rising_uniq h sortU_sorted fun j => sortU_mem.symm⟩
  have hw : (m.map fun r => (leadL r : Int)).any (fun l => l == (w : Int)) = false ↔ ∀ r ∈ m, lead r ≠ none := by
    rw [List.any_map, List.any_eq_false]
    constructor
    · intro h r hr z
      have h2 : leadL r = w := by unfold leadL; rw [z]; exact hm r hr
      exact h r hr (by simp [h2])
    · intro h r hr z
      have h2 : leadL r = w := by
        have z2 : ((leadL r : Nat) : Int) = (w : Int) := by simpa using z
        omega
      cases e : lead r with
      | none => exact h r hr e
      | some i =>
        have h3 := (lead_some e).1
        unfold leadL at h2
        rw [e] at h2
        have := hm r hr
        simp only at h2
        omega
  unfold LL
  simp only
  by_cases c1 : (m.map fun r => (leadL r : Int)) = sortU (m.map fun r => (leadL r : Int))
  · rw [decide_eq_true c1]
    cases c2 : (m.map fun r => (leadL r : Int)).any (fun l => l == (w : Int)) with
    | true =>
      simp only [Bool.not_true, Bool.or_true, Bool.true_or, if_true, Bool.false_eq_true, iff_false]
      rintro ⟨h1, _, _⟩
      have := hw.mpr fun r hr => (h1 r hr).1
      rw [this] at c2
      cases c2
    | false =>
      have hl := hw.mp c2
      cases c3 : m.all fun r => decide (low r = r) with
      | false =>
        simp only [Bool.not_true, Bool.not_false, Bool.or_true, if_true, Bool.false_eq_true, iff_false]
        rintro ⟨h1, _, _⟩
        have : (m.all fun r => decide (low r = r)) = true := List.all_eq_true.mpr fun r hr => decide_eq_true (h1 r hr).2
        rw [this] at c3
        cases c3
      | true =>
        have c3 := List.all_eq_true.mp c3
        simp only [Bool.not_true, Bool.or_self, Bool.false_eq_true, if_false]
        rw [List.all_map, List.all_eq_true]
        have atl : ∀ r ∈ m, at0 r (leadL r) ≠ 0 := fun r hr => by
          cases e : lead r with
          | none => exact absurd e (hl r hr)
          | some i =>
            unfold leadL
            rw [e]
            exact (lead_iff.mp e).1
        constructor
        · rintro ⟨_, _, h3⟩ r hr
          obtain ⟨j, hj⟩ := List.mem_iff_getElem?.mp hr
          have := (one_iff (leadL r) m j r hj (atl r hr)).mpr (by simpa using h3 j r hj)
          simpa using this
        · intro h
          refine ⟨fun r hr => ⟨hl r hr, of_decide_eq_true (c3 r hr)⟩, hs.mp c1, fun j r hj => ?_⟩
          have hr := List.mem_of_getElem? hj
          rw [Nat.zero_add]
          exact (one_iff (leadL r) m j r hj (atl r hr)).mp (by simpa using h r hr)
  · rw [decide_eq_false c1]
    simp only [Bool.not_false, Bool.true_or, if_true, Bool.false_eq_true, iff_false]
    rintro ⟨_, h2, _⟩
    exact c1 (hs.mpr h2)
theorem lotB_agree {w : Nat} (v : D) : lotB w (fun m => plotGo m 0 (-1) m) v = lotB w (LL w) v := by
  unfold lotB
  split
  · rename_i ds
    split
    · rename_i h
      obtain ⟨m, rfl, hm⟩ := rows_of h
      have um : (m.map Ri).map unRi = m := by
        rw [List.map_map, show (unRi ∘ Ri) = id from funext unRi_ri, List.map_id]
      rw [um]
      exact agree hm
    · rfl
  · rfl
end K13

namespace K13
open PySem PySem.Spec PyProof.Rows L2 DL
/-! ### the dice -/
def Dc (k n : Nat) (μ : List Cell) : Prop := ∃ a b c : Int, μ[n]? = some (.lst [.int a, .int b, .int c]) ∧ 0 ≤ c ∧ c ≤ k
theorem Dc.mono {k j n : Nat} {μ : List Cell} (h : Dc k n μ) (hk : k ≤ j) : Dc j n μ := by
  obtain ⟨a, b, c, h1, h2, h3⟩ := h
  exact ⟨a, b, c, h1, h2, by omega⟩
theorem ix_ref {s : S} {n : Nat} {xs : List D} (h : s.μ[n]? = some (.lst xs)) (i : Int) : gIx s (.ref n) (.int i) = atI xs i := by
  show (asL s (.ref n)).bind _ = _
  simp [asL, cellAt, h]
theorem ix0 (a b c : D) : atI [a, b, c] 0 = some a := rfl
theorem ix1 (a b c : D) : atI [a, b, c] 1 = some b := rfl
theorem ix2 (a b c : D) : atI [a, b, c] 2 = some c := rfl
theorem set_ref {s : S} {n : Nat} {xs : List D} (h : s.μ[n]? = some (.lst xs)) (i : Int) (d : D) : gSetI s (.ref n) (.int i) d = (ixN xs.length i).map fun j => { s with μ := s.μ.set n (.lst (xs.set j d)) } := by
  simp [gSetI, mutAt, h, setAt]
theorem set0 {s : S} {n : Nat} {a b c : D} (h : s.μ[n]? = some (.lst [a, b, c])) (d : D) : gSetI s (.ref n) (.int 0) d = some { s with μ := s.μ.set n (.lst [d, b, c]) } := by rw [set_ref h]; rfl
theorem set2 {s : S} {n : Nat} {a b c : D} (h : s.μ[n]? = some (.lst [a, b, c])) (d : D) : gSetI s (.ref n) (.int 2) d = some { s with μ := s.μ.set n (.lst [a, b, d]) } := by rw [set_ref h]; rfl
theorem fmod_rng {a t : Int} (h : 0 < t) : 0 ≤ a.fmod t ∧ a.fmod t < t := ⟨Int.fmod_nonneg_of_pos a h, Int.fmod_lt_of_pos a h⟩
theorem small_of {a t : Int} {n : Nat} (h : 0 < t) (ht : t ≤ 2 ^ n) : (a.fmod t).natAbs < 2 ^ n := by
  obtain ⟨h1, h2⟩ := fmod_rng (a := a) h
  have : ((a.fmod t).natAbs : Int) < ((2 ^ n : Nat) : Int) := by push_cast; omega
  exact_mod_cast this

theorem roll_ok {k n : Nat} {t : Int} {μ : List Cell} (h : Dc k n μ) (hk : k ≤ 100000) (h1 : 1 ≤ t) (h2 : t ≤ 65536) : ∃ (r : Nat) (μ' : List Cell), F_L_roll [.ref n, .int t] μ = .ok (.int r) μ' ∧ (r : Int) < t ∧ Dc (k + 1) n μ' := by
  obtain ⟨a, b, c, e, hc0, hc1⟩ := h
  have hn : n < μ.length := by
    rcases Nat.lt_or_ge n μ.length with z | z
    · exact z
    · rw [List.getElem?_eq_none z] at e; cases e
  have t0 : t ≠ 0 := by omega
  have tb : t.natAbs < 2 ^ 17 := by omega
  have fo : ∀ x, fdivOk x t = true := fun x => fdivOk_of t0 tb (by decide) (by decide)
  by_cases ha : 0 < a
  · obtain ⟨q1, q2⟩ := fmod_rng (a := a) (t := t) (by omega)
    obtain ⟨r, hr⟩ := Int.eq_ofNat_of_zero_le q1
    refine ⟨r, μ.set n (.lst [.int (a.fdiv t), .int b, .int c]), ?_, by omega, ⟨a.fdiv t, b, c, by simp [hn], hc0, by omega⟩⟩
    have hs := hr.symm
    simp [F_L_roll, b_L_roll, runF, ix_ref (s := ⟨_, μ⟩) e, ix0, ix1, ix2, ha, mod_ii t0, fdiv_ii (fo a), dSetI, set0 (s := ⟨_, μ⟩) e, gInt, hr]
  · let μ1 := μ.set n (.lst [.int a, .int b, .int (c + 1)])
    have e1 : μ1[n]? = some (.lst [.int a, .int b, .int (c + 1)]) := by simp [μ1, hn]
    have cb : (c + 1).natAbs < 2 ^ 20 := by omega
    have m1 : mulOk 49979687 (c + 1) = true := mulOk_of (n := 30) (m := 20) (by decide) cb (by decide) (by decide) (by decide)
    have m2 : mulOk 131 (c + 1) = true := mulOk_of (n := 30) (m := 20) (by decide) cb (by decide) (by decide) (by decide)
    let x := (b + 49979687 * (c + 1)).fmod 2305843009213693951
    have xb : x.natAbs < 2 ^ 61 := small_of (by decide) (by decide)
    have m3 : mulOk x x = true := mulOk_of xb xb (by decide) (by decide) (by decide)
    let y := (x * x + 131 * (c + 1)).fmod 2305843009213693921
    have yb : y.natAbs < 2 ^ 61 := small_of (by decide) (by decide)
    have m4 : mulOk y 32452843 = true := mulOk_of (n := 61) (m := 30) yb (by decide) (by decide) (by decide) (by decide)
    have f1 : ∀ z, fdivOk z 65587 = true := fun z => fdivOk_of (n := 20) (by decide) (by decide) (by decide) (by decide)
    obtain ⟨q1, q2⟩ := fmod_rng (a := (y * 32452843 + x).fdiv 65587) (t := t) (by omega)
    obtain ⟨r, hr⟩ := Int.eq_ofNat_of_zero_le q1
    refine ⟨r, μ1, ?_, by omega, ⟨a, b, c + 1, e1, by omega, by omega⟩⟩
    have hs := hr.symm
    have ex : (b + 49979687 * (c + 1)).fmod 2305843009213693951 = x := rfl
    have ey : (x * x + 131 * (c + 1)).fmod 2305843009213693921 = y := rfl
    have eμ : μ.set n (.lst [.int a, .int b, .int (c + 1)]) = μ1 := rfl
    clear_value x y μ1
    simp [F_L_roll, b_L_roll, runF, ix_ref (s := ⟨_, μ⟩) e, ix0, ix1, ix2, ha, mod_ii t0, dSetI, set2 (s := ⟨_, μ⟩) e, gInt, ix_ref (s := ⟨_, μ1⟩) e1, mul_ii m1, mul_ii m2, mod_ii, mul_ii m3, mul_ii m4, fdiv_ii (f1 _), hr, ex, ey, eμ]
theorem pick_ok {k n : Nat} {xs : List Int} {μ : List Cell} (h : Dc k n μ) (hk : k ≤ 100000) (h1 : 1 ≤ xs.length) (h2 : xs.length ≤ 65536) : ∃ x ∈ xs, ∃ μ', F_L_pick [.ref n, .lst (xs.map .int)] μ = .ok (.int x) μ' ∧ Dc (k + 1) n μ' := by
  obtain ⟨r, μ', e, hr, d⟩ := roll_ok (t := (xs.length : Int)) h hk (by omega) (by omega)
  have hl : xs.length ≤ 16777216 := by omega
  have hr : r < xs.length := by omega
  have ei : ∀ s : S, gIx s (.lst (xs.map .int)) (.int (r : Int)) = some (.int xs[r]) := fun s => ix_row s xs r hr
  refine ⟨xs[r], List.getElem_mem hr, μ', ?_, d⟩
  simp [F_L_pick, b_L_pick, runF, gLen, hl, e, ei]
def choices : List Int := [0, 0, 1, -1, 6, -4, 12, 10 ^ 30 + 1, 0 - 10 ^ 30]
theorem drawn_loop (n w : Nat) : ∀ (ds : List D) (k : Nat) (μ : List Cell), Dc k n μ → k + ds.length ≤ 100000 → ∃ (xs : List Int) (μ' : List Cell), xs.length = ds.length ∧ (∀ x ∈ xs, x ∈ choices) ∧ Dc (k + ds.length) n μ' ∧
    dLcGo [3] (gNm 3) dYes (dCall F_L_pick (dCons (dVar 0) (dCons (dFrz (dLst (dCons (dC (.int (0))) (dCons (dC (.int (0))) (dCons (dC (.int (1))) (dCons (dNeg (dC (.int (1)))) (dCons (dC (.int (6))) (dCons (dNeg (dC (.int (4)))) (dCons (dC (.int (12))) (dCons (dOp gAdd (dVar 2) (dC (.int (1)))) (dCons (dOp gSub (dC (.int (0))) (dVar 2)) dNil))))))))))) dNil))) ds ⟨[.val (.ref n), .val (.int w), .val (.int (10 ^ 30)), .no], μ⟩ = .ok (xs.map .int) ⟨[.val (.ref n), .val (.int w), .val (.int (10 ^ 30)), .no], μ'⟩
  | [], k, μ, h, _ => ⟨[], μ, rfl, by simp, h, rfl⟩
  | d :: ds, k, μ, h, hk => by
    have hk : k + (ds.length + 1) ≤ 100000 := hk
    obtain ⟨x, hx, μ1, e1, h1⟩ := pick_ok (xs := choices) h (by omega) (by decide) (by decide)
    obtain ⟨xs, μ', l1, l2, l3, e2⟩ := drawn_loop n w ds (k + 1) μ1 h1 (by omega)
    refine ⟨x :: xs, μ', by simp [l1], fun y hy => ?_, l3.mono (by simp; omega), ?_⟩
    · rcases List.mem_cons.mp hy with rfl | hy
      · exact hx
      · exact l2 y hy
    · have ec : (choices.map D.int) = [.int 0, .int 0, .int 1, .int (-1), .int 6, .int (-4), .int 12, .int (10 ^ 30 + 1), .int (0 - 10 ^ 30)] := rfl
      rw [ec] at e1
      generalize (10 : Int) ^ 30 = T at e1 e2 ⊢
      rw [Int.zero_sub] at e1
      simp [dLcGo, wipeD, backD, e1, e2]
theorem rng_len : ∀ (j : Nat) (i : Int), (rngD i j).length = j := fun j i => by simp [rngD]
theorem choice_bd (x : Int) (h : x ∈ choices) : x.natAbs < 2 ^ 101 := by
  simp only [choices, List.mem_cons, List.not_mem_nil, or_false] at h
  rcases h with rfl | rfl | rfl | rfl | rfl | rfl | rfl | rfl | rfl <;> simp
theorem pow_ok {i j : Int} (h : powOk i j = true) (s : S) : gPow s (.int i) (.int j) = some (.int (i ^ j.toNat)) := by
  show (if powOk i j = true then _ else _) = _
  rw [if_pos h]
theorem small_w {w : Nat} (hw : w ≤ 60) : smallI (w : Int) = true := by simp [smallI]; omega
theorem pow1030 : powOk 10 30 = true := by decide
theorem pow30 (s : S) : gPow s (.int 10) (.int 30) = some (.int (10 ^ 30)) := pow_ok pow1030 s
theorem rng_gen {fa : FA} {s s1 : S} {j : Int} (h : fa s = .ok [.int j] s1) (hs : smallI j = true) : dRng1 fa s = .ok (rngD 0 j.toNat) s1 := by
  unfold dRng1
  rw [h, bind_ok]
  exact if_pos hs
theorem rng_w {w : Nat} (hw : w ≤ 60) (a b c : DL.Slot) (μ : List Cell) : dRng1 (dCons (dVar 1) dNil) ⟨[a, .val (.int w), b, c], μ⟩ = .ok (rngD 0 w) ⟨[a, .val (.int w), b, c], μ⟩ := by
  have := rng_gen (fa := dCons (dVar 1) dNil) (s := ⟨[a, .val (.int w), b, c], μ⟩) (s1 := ⟨[a, .val (.int w), b, c], μ⟩) (j := (w : Int)) rfl (small_w hw)
  rw [this, Int.toNat_natCast]
theorem drawn_gen {n : Nat} {w T : Int} {ds : List D} {xs : List Int} {μ μ' : List Cell} (hr : dRng1 (dCons (dVar 1) dNil) ⟨[.val (.ref n), .val (.int w), .val (.int T), .no], μ⟩ = .ok ds ⟨[.val (.ref n), .val (.int w), .val (.int T), .no], μ⟩) (hl : ds.length ≤ 16777216) (pw : ∀ s : S, gPow s (.int 10) (.int 30) = some (.int T))
    (e : dLcGo [3] (gNm 3) dYes (dCall F_L_pick (dCons (dVar 0) (dCons (dFrz (dLst (dCons (dC (.int (0))) (dCons (dC (.int (0))) (dCons (dC (.int (1))) (dCons (dNeg (dC (.int (1)))) (dCons (dC (.int (6))) (dCons (dNeg (dC (.int (4)))) (dCons (dC (.int (12))) (dCons (dOp gAdd (dVar 2) (dC (.int (1)))) (dCons (dOp gSub (dC (.int (0))) (dVar 2)) dNil))))))))))) dNil))) ds ⟨[.val (.ref n), .val (.int w), .val (.int T), .no], μ⟩ = .ok (xs.map .int) ⟨[.val (.ref n), .val (.int w), .val (.int T), .no], μ'⟩) : F_L_drawn [.ref n, .int w] μ = .ok (Ri xs) μ' := by
  simp [F_L_drawn, b_L_drawn, runF, pw, hr, hl, e, tup_ints]
theorem drawn_ok {k n w : Nat} {μ : List Cell} (h : Dc k n μ) (hk : k ≤ 50000) (hw : w ≤ 60) : ∃ (xs : List Int) (μ' : List Cell), F_L_drawn [.ref n, .int w] μ = .ok (Ri xs) μ' ∧ xs.length = w ∧ Bd 101 xs ∧ Dc (k + w) n μ' := by
  obtain ⟨xs, μ', l1, l2, l3, e⟩ := drawn_loop n w (rngD 0 w) k μ h (by rw [rng_len]; omega)
  rw [rng_len] at l1 l3
  have hl : (rngD 0 w).length ≤ 16777216 := by rw [rng_len]; omega
  exact ⟨xs, μ', drawn_gen (rng_w hw _ _ _ _) hl pow30 e, l1, fun x hx => choice_bd x (l2 x hx), l3⟩
end K13

namespace K13
open PySem PySem.Spec PyProof.Rows L2 DL
theorem pow53 (s : S) : gPow s (.int 10) (.int 53) = some (.int (10 ^ 53)) := pow_ok (by decide) s
theorem pow16 (s : S) : gPow s (.int 10) (.int 16) = some (.int (10 ^ 16)) := pow_ok (by decide) s
theorem pow25 (s : S) : gPow s (.int 10) (.int 25) = some (.int (10 ^ 25)) := pow_ok (by decide) s
theorem pow53_6 (s : S) : gPow s (.int (10 ^ 53)) (.int 6) = some (.int ((10 ^ 53) ^ 6)) := pow_ok (by decide) s
theorem mulOk_s {a b : Int} (ha : a.natAbs < 2 ^ 64) (hb : b.natAbs < 2 ^ 64) : mulOk a b = true := mulOk_of ha hb (by decide) (by decide) (by decide)
theorem dice_gen {T U V : Int} {i : Nat} {xs : List Int} {μ : List Cell} (hl : xs.length ≤ 63) (hi : i ≤ 6) (hU : U ≠ 0) (h1 : ∀ s : S, gPow s (.int 10) (.int 53) = some (.int T)) (h2 : ∀ s : S, gPow s (.int T) (.int 6) = some (.int U)) (h3 : ∀ s : S, gPow s (.int 10) (.int 16) = some (.int V)) :
    ∃ p q : Int, F_L_dice [.lst (xs.map .int), .int i] μ = .okc (.lst [.int p, .int q, .int 0]) μ := by
  have hl2 : xs.length ≤ 16777216 := by omega
  have m1 : ∀ x : Int, mulOk (x.fmod 2305843009213693907) 73 = true := fun x => mulOk_s (Nat.lt_of_lt_of_le (small_of (n := 62) (by decide) (by decide)) (by decide)) (by decide)
  have m2 : mulOk 619 (i : Int) = true := mulOk_s (by decide) (by omega)
  have m3 : mulOk 131 (i : Int) = true := mulOk_s (by decide) (by omega)
  have m4 : mulOk 41 1 = true := by decide
  have m5 : mulOk 41 0 = true := by decide
  by_cases h : i < xs.length
  · have ei : ∀ s : S, gIx s (.lst (xs.map .int)) (.int (i : Int)) = some (.int xs[i]) := fun s => ix_row s xs i h
    generalize xs[i] = x at ei
    by_cases hx : x < 0
    · simp [F_L_dice, b_L_dice, runF, gLen, hl2, h, ei, gInt, gAbs, h1, h2, h3, mod_ii hU, mul_ii m2, mul_ii (m1 _), mod_ii, gMax2, hx, mul_ii m4]
    · simp [F_L_dice, b_L_dice, runF, gLen, hl2, h, ei, gInt, gAbs, h1, h2, h3, mod_ii hU, mul_ii m2, mul_ii (m1 _), mod_ii, gMax2, hx, mul_ii m5]
  · have hx : ¬ (131 * (i : Int) + 37 < 0) := by omega
    simp [F_L_dice, b_L_dice, runF, gLen, hl2, h, mul_ii m3, gInt, gAbs, h1, h2, h3, mod_ii hU, mul_ii m2, mul_ii (m1 _), mod_ii, gMax2, hx, mul_ii m5]
theorem dice_ok {i : Nat} {xs : List Int} {μ : List Cell} (hl : xs.length ≤ 63) (hi : i ≤ 6) : ∃ p q : Int, F_L_dice [.lst (xs.map .int), .int i] μ = .okc (.lst [.int p, .int q, .int 0]) μ :=
  dice_gen hl hi (by decide) pow53 pow53_6 pow16
end K13

namespace K13
open PySem PySem.Spec PyProof.Rows L2 DL
/-! ### lots and things near lots -/
structure El (d : D) : Prop where
  fine : Fine d
  len : ∀ ys, d = .tup ys → ys.length ≤ 16777216
  bd : ∀ r, d = Ri r → Bd 8000 r
theorem ri_inj {a b : List Int} (h : Ri a = Ri b) : a = b := by
  have := congrArg unRi h
  rwa [unRi_ri, unRi_ri] at this
theorem el_row {xs : List Int} (h : Bd 8000 xs) (hl : xs.length ≤ 16777216) : El (Ri xs) :=
  ⟨ri_fine xs, fun ys e => by rw [ri_len xs ys e]; exact hl, fun r e => ri_inj e ▸ h⟩
theorem el_lst {ds : List D} (h : ∀ d ∈ ds, Fine d) : El (.lst ds) := ⟨.lst ds h, fun _ e => (nomatch e), fun _ e => (nomatch e)⟩
theorem el_non : El .non := ⟨.non, fun _ e => (nomatch e), fun _ e => (nomatch e)⟩
theorem okv_tup {w : Nat} {ds : List D} (hl : ds.length ≤ 60) (h : ∀ d ∈ ds, El d) : Okv w (.tup ds) :=
  ⟨.tup ds fun d hd => (h d hd).fine, fun xs e => by cases e; exact hl, fun xs e d hd ys => by cases e; exact (h d hd).len ys, fun xs e r hr => by cases e; exact (h _ hr).bd r rfl⟩
theorem okv_lst {w : Nat} {ds : List D} (h : ∀ d ∈ ds, El d) : Okv w (.lst ds) :=
  ⟨.lst ds fun d hd => (h d hd).fine, fun xs e => (nomatch e), fun xs e => (nomatch e), fun xs e => (nomatch e)⟩
theorem add_tt (s : S) (a b : List D) (h : a.length + b.length ≤ 16777216) : gAdd s (.tup a) (.tup b) = some (.tup (a ++ b)) := by simp [gAdd, h]
theorem rep_w {w : Nat} (h1 : 1 ≤ w) (h2 : w ≤ 7) (s : S) (d : D) : gMul s (.tup [d]) (.int (w : Nat)) = some (.tup (List.replicate w d)) := by
  have : w = 1 ∨ w = 2 ∨ w = 3 ∨ w = 4 ∨ w = 5 ∨ w = 6 ∨ w = 7 := by omega
  rcases this with rfl | rfl | rfl | rfl | rfl | rfl | rfl <;> rfl
theorem cut_sub {xs : List D} {lo hi : Option Int} {d : D} (h : d ∈ DL.cutD xs lo hi) : d ∈ xs := List.mem_of_mem_drop (List.mem_of_mem_take h)
theorem cut_len (xs : List D) (lo hi : Option Int) : (DL.cutD xs lo hi).length ≤ xs.length := by
  unfold DL.cutD
  rw [List.length_take, List.length_drop]
  omega
theorem cut_map (xs : List Int) (lo hi : Option Int) : ∃ ys : List Int, DL.cutD (xs.map .int) lo hi = ys.map .int ∧ (∀ y ∈ ys, y ∈ xs) ∧ ys.length ≤ xs.length := by
  refine ⟨(xs.drop (HT.sIx xs.length 0 lo)).take (HT.sIx xs.length xs.length hi - HT.sIx xs.length 0 lo), ?_, fun y hy => List.mem_of_mem_drop (List.mem_of_mem_take hy), by rw [List.length_take, List.length_drop]; omega⟩
  unfold DL.cutD
  rw [List.length_map, List.map_take, List.map_drop]
/-! what expressions give -/
def TupE (L : Nat) (fe : FE) (s : S) : Prop := ∃ ds, fe s = .ok (.tup ds) s ∧ ds.length ≤ L ∧ ∀ d ∈ ds, El d
def ElE (fe : FE) (s : S) : Prop := ∃ d, fe s = .ok d s ∧ El d
def RowE (n L : Nat) (fe : FE) (s : S) : Prop := ∃ xs : List Int, fe s = .ok (Ri xs) s ∧ xs.length ≤ L ∧ Bd n xs
theorem TupE.add {a b : Nat} {fa fb : FE} {s : S} (ha : TupE a fa s) (hb : TupE b fb s) (h : a + b ≤ 60) : TupE (a + b) (dOp gAdd fa fb) s := by
  obtain ⟨x, e1, l1, h1⟩ := ha
  obtain ⟨y, e2, l2, h2⟩ := hb
  refine ⟨x ++ y, by simp [e1, e2, add_tt s x y (by omega)], by rw [List.length_append]; omega, fun d hd => ?_⟩
  rcases List.mem_append.mp hd with hd | hd
  · exact h1 d hd
  · exact h2 d hd
theorem TupE.sl {a : Nat} {fa : FE} {fl fh : FO} {l h : Option Int} {s : S} (ha : TupE a fa s) (hl : fl s = .ok l s) (hh : fh s = .ok h s) : TupE a (dSl fa fl fh) s := by
  obtain ⟨x, e1, l1, h1⟩ := ha
  exact ⟨DL.cutD x l h, by simp [dSl, e1, hl, hh], Nat.le_trans (cut_len _ _ _) l1, fun d hd => h1 d (cut_sub hd)⟩
theorem TupE.one {fe : FE} {s : S} (h : ElE fe s) : TupE 1 (dTup (dCons fe dNil)) s := by
  obtain ⟨d, e, k⟩ := h
  exact ⟨[d], by simp [e, k.fine.no], by simp, by simpa using k⟩
theorem RowE.add {n a b : Nat} {fa fb : FE} {s : S} (ha : RowE n a fa s) (hb : RowE n b fb s) (h : a + b ≤ 60) : RowE n (a + b) (dOp gAdd fa fb) s := by
  obtain ⟨x, e1, l1, h1⟩ := ha
  obtain ⟨y, e2, l2, h2⟩ := hb
  refine ⟨x ++ y, ?_, by rw [List.length_append]; omega, fun d hd => ?_⟩
  · have := add_tt s (x.map .int) (y.map .int) (by simp; omega)
    simp [e1, e2, this]
  · rcases List.mem_append.mp hd with hd | hd
    · exact h1 d hd
    · exact h2 d hd
theorem RowE.sl {n a : Nat} {fa : FE} {fl fh : FO} {l h : Option Int} {s : S} (ha : RowE n a fa s) (hl : fl s = .ok l s) (hh : fh s = .ok h s) : RowE n a (dSl fa fl fh) s := by
  obtain ⟨x, e1, l1, h1⟩ := ha
  obtain ⟨y, e2, m2, l2⟩ := cut_map x l h
  exact ⟨y, by simp [dSl, e1, hl, hh, e2], by omega, fun d hd => h1 d (m2 d hd)⟩
theorem RowE.one {n : Nat} {fe : FE} {s : S} {i : Int} (h : fe s = .ok (.int i) s) (hb : i.natAbs < 2 ^ n) : RowE n 1 (dTup (dCons fe dNil)) s :=
  ⟨[i], by simp [h], by simp, fun x hx => by rw [List.mem_singleton.mp hx]; exact hb⟩
theorem RowE.el {n L : Nat} {fe : FE} {s : S} (h : RowE n L fe s) (hn : n ≤ 8000) (hL : L ≤ 60) : ElE fe s := by
  obtain ⟨x, e, l, b⟩ := h
  exact ⟨Ri x, e, el_row (b.mono hn) (by omega)⟩
/-! the comprehensions of _law_near -/
section
variable (a0 a1 a2 a3 a4 a5 a6 a7 : DL.Slot) (μ : List Cell)
theorem neg_in : ∀ xs : List Int, dLcGo [8] (gNm 8) dYes (dOp gSub (dC (.int (0))) (dVar 8)) (xs.map .int) ⟨[a0, a1, a2, a3, a4, a5, a6, a7, .no], μ⟩ = .ok ((xs.map fun x => -x).map .int) ⟨[a0, a1, a2, a3, a4, a5, a6, a7, .no], μ⟩
  | [] => rfl
  | x :: xs => by
    have ih := neg_in xs
    simp only [List.map_map] at ih
    simp [dLcGo, wipeD, backD, ih]
theorem dbl_in : ∀ xs : List Int, Bd 7000 xs → dLcGo [8] (gNm 8) dYes (dOp gMul (dC (.int (2))) (dVar 8)) (xs.map .int) ⟨[a0, a1, a2, a3, a4, a5, a6, a7, .no], μ⟩ = .ok ((xs.map fun x => 2 * x).map .int) ⟨[a0, a1, a2, a3, a4, a5, a6, a7, .no], μ⟩
  | [], _ => rfl
  | x :: xs, h => by
    have ih := dbl_in xs fun y hy => h y (by simp [hy])
    have m : mulOk 2 x = true := mulOk_of (n := 2) (m := 7000) (by decide) (h x (by simp)) (by decide) (by decide) (by decide)
    simp only [List.map_map] at ih
    simp [dLcGo, wipeD, backD, ih, mul_ii m]
theorem in_intsT (s : S) (w : Int) (ls : List Int) : gDat inG s (.int w) (.tup (ls.map .int)) = some (.bl (ls.any fun l => l == w)) := by
  have : (ls.map PyData.int).any (fun y => PyData.eqv y (.int w)) = ls.any fun l => l == w := by
    rw [List.any_map]
    rfl
  simp only [gDat, pys_int, pys_tup, py_ints, Option.map_some, inG, sh_int, sh_row, Bool.and_self, if_true, this]
def mixF (x : Int) : D := if ([0, 1].any fun l => l == x) then .bl (x == 1) else .int x
theorem mix_in : ∀ xs : List Int, dLcGo [8] (gNm 8) dYes (dIf (dCmpT (gDat inG) (dVar 8) (dTup (dCons (dC (.int (0))) (dCons (dC (.int (1))) dNil)))) (dOp eqS (dVar 8) (dC (.int (1)))) (dVar 8)) (xs.map .int) ⟨[a0, a1, a2, a3, a4, a5, a6, a7, .no], μ⟩ = .ok (xs.map mixF) ⟨[a0, a1, a2, a3, a4, a5, a6, a7, .no], μ⟩
  | [] => rfl
  | x :: xs => by
    have ih := mix_in xs
    have e := fun s => in_intsT s x [0, 1]
    simp only [List.map_cons, List.map_nil] at e
    generalize hb : ([0, 1].any fun l => l == x) = b at e
    cases b <;> simp [dLcGo, wipeD, backD, ih, e, mixF, hb]
theorem neg_out : ∀ m : List (List Int), (∀ r ∈ m, r.length ≤ 60) → dLcGo [5] (gNm 5) dYes (dB gTuple (dCons (dFrz (dLc [8] (dIter (dVar 5)) (gNm 8) dYes (dOp gSub (dC (.int (0))) (dVar 8)))) dNil)) (m.map Ri) ⟨[a0, a1, a2, a3, a4, .no, a6, a7, .no], μ⟩ = .ok (m.map fun r => Ri (r.map fun x => -x)) ⟨[a0, a1, a2, a3, a4, .no, a6, a7, .no], μ⟩
  | [], _ => rfl
  | r :: m, h => by
    have ih := neg_out m fun q hq => h q (by simp [hq])
    have hl : r.length ≤ 16777216 := by have := h r (by simp); omega
    have e := neg_in a0 a1 a2 a3 a4 (.val (Ri r)) a6 a7 μ r
    simp [dLcGo, wipeD, backD, ih, hl, e, tup_ints, -List.map_map]
end
theorem mix_el {xs : List Int} (h : Bd 7000 xs) (hl : xs.length ≤ 60) : El (.tup (xs.map mixF)) := by
  refine ⟨.tup _ fun d hd => ?_, fun ys e => ?_, fun r e => ?_⟩
  · obtain ⟨x, _, rfl⟩ := List.mem_map.mp hd
    unfold mixF
    split
    · exact .bl _
    · exact .int _
  · cases e; simp; omega
  · have e : xs.map mixF = r.map .int := by injection e
    intro y hy
    have : D.int y ∈ xs.map mixF := e ▸ List.mem_map_of_mem hy
    obtain ⟨x, hx, e2⟩ := List.mem_map.mp this
    unfold mixF at e2
    split at e2
    · cases e2
    · injection e2 with e2
      rw [← e2]
      exact (h.mono (by decide : 7000 ≤ 8000)) x hx
/-! _law_near: its two halves -/
theorem el_sub {m : List (List Int)} {w : Nat} (hm : ∀ r ∈ m, r.length = w ∧ Bd 7000 r) (hw : w ≤ 7) : ∀ d ∈ m.map Ri, El d := fun d hd => by
  obtain ⟨r, hr, rfl⟩ := List.mem_map.mp hd
  exact el_row ((hm r hr).2.mono (by decide)) (by have := (hm r hr).1; omega)
def near0 (w : Nat) (m : List (List Int)) (one : List Int) : List D :=
  [.tup (m.map Ri), .lst (m.map Ri), .tup (m.map Ri).reverse, .tup (m.map Ri ++ DL.cutD (m.map Ri) none (some 1)), .tup (m.map Ri ++ [Ri one]), .tup [Ri one], .tup [], .tup [Ri (low one)], .non, .int 0, .tup [.tup []], .tup [.non],
   .tup (m.map Ri ++ [.tup (List.replicate w (.int 0))]), .tup [Ri (one ++ [0])], .tup (m.map fun r => Ri (r.map fun x => -x))]
theorem near0_ok {w : Nat} {m : List (List Int)} {one : List Int} (hm : ∀ r ∈ m, r.length = w ∧ Bd 7000 r) (hl : m.length ≤ 20) (hw : w ≤ 7) (ho : one.length = w) (hb : Bd 101 one) : ∀ v ∈ near0 w m one, Okv w v := by
  have em := el_sub hm hw
  have e1 : El (Ri one) := el_row (hb.mono (by decide)) (by omega)
  have e2 : El (Ri (low one)) := el_row (low_bd (hb.mono (by decide))) (by rw [low_len]; omega)
  have e3 : El (.tup (List.replicate w (.int 0))) := by
    have : List.replicate w (D.int 0) = (List.replicate w 0).map .int := by rw [List.map_replicate]
    rw [this]
    exact el_row (fun x hx => by rw [List.eq_of_mem_replicate hx]; exact Nat.two_pow_pos _) (by simp; omega)
  have e4 : El (Ri (one ++ [0])) := el_row (fun x hx => by
    rcases List.mem_append.mp hx with hx | hx
    · exact (hb.mono (by decide : 101 ≤ 8000)) x hx
    · rw [List.mem_singleton.mp hx]; exact Nat.two_pow_pos _) (by simp; omega)
  intro v hv
  simp only [near0, List.mem_cons, List.not_mem_nil, or_false] at hv
  have hc := cut_len (m.map Ri) none (some 1)
  rcases hv with rfl | rfl | rfl | rfl | rfl | rfl | rfl | rfl | rfl | rfl | rfl | rfl | rfl | rfl | rfl
  · exact okv_tup (by simp; omega) em
  · exact okv_lst em
  · exact okv_tup (by simp; omega) fun d hd => em d (List.mem_reverse.mp hd)
  · exact okv_tup (by simp at hc ⊢; omega) fun d hd => (List.mem_append.mp hd).elim (em d) fun hd => em d (cut_sub hd)
  · exact okv_tup (by simp; omega) fun d hd => (List.mem_append.mp hd).elim (em d) fun hd => by rw [List.mem_singleton.mp hd]; exact e1
  · exact okv_tup (by simp) fun d hd => by rw [List.mem_singleton.mp hd]; exact e1
  · exact okv_tup (by simp) fun d hd => (nomatch hd)
  · exact okv_tup (by simp) fun d hd => by rw [List.mem_singleton.mp hd]; exact e2
  · exact ⟨.non, fun _ e => (nomatch e), fun _ e => (nomatch e), fun _ e => (nomatch e)⟩
  · exact ⟨.int 0, fun _ e => (nomatch e), fun _ e => (nomatch e), fun _ e => (nomatch e)⟩
  · exact okv_tup (by simp) fun d hd => by rw [List.mem_singleton.mp hd]; exact el_row (xs := []) (fun _ h => (nomatch h)) (by simp)
  · exact okv_tup (by simp) fun d hd => by rw [List.mem_singleton.mp hd]; exact el_non
  · exact okv_tup (by simp; omega) fun d hd => (List.mem_append.mp hd).elim (em d) fun hd => by rw [List.mem_singleton.mp hd]; exact e3
  · exact okv_tup (by simp) fun d hd => by rw [List.mem_singleton.mp hd]; exact e4
  · refine okv_tup (by simp; omega) fun d hd => ?_
    obtain ⟨r, hr, rfl⟩ := List.mem_map.mp hd
    exact el_row (fun x hx => by
      obtain ⟨y, hy, rfl⟩ := List.mem_map.mp hx
      rw [Int.natAbs_neg]
      exact ((hm r hr).2.mono (by decide : 7000 ≤ 8000)) y hy) (by have := (hm r hr).1; simp; omega)
theorem app_ok {fe : FE} {v : D} {V : List D} {a0 a1 a2 a3 a5 a6 a7 a8 : DL.Slot} {μ : List Cell} (h : fe ⟨[a0, a1, a2, a3, .own (.lst V), a5, a6, a7, a8], μ⟩ = .ok v ⟨[a0, a1, a2, a3, .own (.lst V), a5, a6, a7, a8], μ⟩) (hn : noOwn v = true) (hl : V.length ≤ 100) :
    dDrop (dM "list" gAppend (dVar 4) (dCons fe dNil)) ⟨[a0, a1, a2, a3, .own (.lst V), a5, a6, a7, a8], μ⟩ = .nx ⟨[a0, a1, a2, a3, .own (.lst (V ++ [v])), a5, a6, a7, a8], μ⟩ := by
  have hl : V.length < 16777216 := by omega
  simp [dM, h, tyD, cellAt, kitB, gAppend, mutAt, setAt, hn, hl]
end K13

namespace K13
open PySem PySem.Spec PyProof.Rows L2 DL
def nearA : FS := dAsg 3 (dCall F_L_drawn (dCons (dVar 0) (dCons (dVar 1) dNil)))
def nearB : FS := (dAsgO 4 (dLst (dCons (dVar 2) (dCons (dFrz (dBF gList (dCons (dVar 2) dNil))) (dCons (dRev (dVar 2)) (dCons (dOp gAdd (dVar 2) (dSl (dVar 2) dNo (dPart (dC (.int (1)))))) (dCons (dOp gAdd (dVar 2) (dTup (dCons (dVar 3) dNil))) (dCons (dTup (dCons (dVar 3) dNil)) (dCons (dTup dNil) (dCons (dTup (dCons (dCall F_L_lowest (dCons (dVar 3) dNil)) dNil)) (dCons (dC .non) (dCons (dC (.int (0))) (dCons (dTup (dCons (dTup dNil) dNil)) (dCons (dTup (dCons (dC .non) dNil)) dNil))))))))))))))
def nearC : FS := (dAsgO 4 (dCat (dVar 4) (dFrz (dLst (dCons (dOp gAdd (dVar 2) (dTup (dCons (dOp gMul (dTup (dCons (dC (.int (0))) dNil)) (dVar 1)) dNil))) (dCons (dTup (dCons (dOp gAdd (dVar 3) (dTup (dCons (dC (.int (0))) dNil))) dNil)) (dCons (dB gTuple (dCons (dFrz (dLc [5] (dIter (dVar 2)) (gNm 5) dYes (dB gTuple (dCons (dFrz (dLc [8] (dIter (dVar 5)) (gNm 8) dYes (dOp gSub (dC (.int (0))) (dVar 8)))) dNil)))) dNil)) dNil)))))))
def nx1 : FE := (dOp gAdd (dOp gAdd (dSl (dVar 2) dNo (dPart (dVar 6))) (dTup (dCons (dOp gAdd (dOp gAdd (dSl (dVar 5) dNo (dPart (dVar 7))) (dTup (dCons (dOp gAdd (dOp gIx (dVar 5) (dVar 7)) (dC (.int (1)))) dNil))) (dSl (dVar 5) (dPart (dOp gAdd (dVar 7) (dC (.int (1))))) dNo)) dNil))) (dSl (dVar 2) (dPart (dOp gAdd (dVar 6) (dC (.int (1))))) dNo))
def nx2 : FE := (dOp gAdd (dOp gAdd (dSl (dVar 2) dNo (dPart (dVar 6))) (dTup (dCons (dB gTuple (dCons (dFrz (dLc [8] (dIter (dVar 5)) (gNm 8) dYes (dOp gMul (dC (.int (2))) (dVar 8)))) dNil)) dNil))) (dSl (dVar 2) (dPart (dOp gAdd (dVar 6) (dC (.int (1))))) dNo))
def nx3 : FE := (dOp gAdd (dOp gAdd (dSl (dVar 2) dNo (dPart (dVar 6))) (dTup (dCons (dFrz (dBF gList (dCons (dVar 5) dNil))) dNil))) (dSl (dVar 2) (dPart (dOp gAdd (dVar 6) (dC (.int (1))))) dNo))
def nx4 : FE := (dOp gAdd (dOp gAdd (dSl (dVar 2) dNo (dPart (dVar 6))) (dTup (dCons (dB gTuple (dCons (dFrz (dLc [8] (dIter (dVar 5)) (gNm 8) dYes (dIf (dCmpT (gDat inG) (dVar 8) (dTup (dCons (dC (.int (0))) (dCons (dC (.int (1))) dNil)))) (dOp eqS (dVar 8) (dC (.int (1)))) (dVar 8)))) dNil)) dNil))) (dSl (dVar 2) (dPart (dOp gAdd (dVar 6) (dC (.int (1))))) dNo))
def nx5 : FE := (dOp gAdd (dSl (dVar 2) dNo (dPart (dVar 6))) (dSl (dVar 2) (dPart (dOp gAdd (dVar 6) (dC (.int (1))))) dNo))
def ap5 : FS := dSeq (dDrop (dM "list" gAppend (dVar 4) (dCons nx1 dNil))) (dSeq (dDrop (dM "list" gAppend (dVar 4) (dCons nx2 dNil))) (dSeq (dDrop (dM "list" gAppend (dVar 4) (dCons nx3 dNil))) (dSeq (dDrop (dM "list" gAppend (dVar 4) (dCons nx4 dNil))) (dDrop (dM "list" gAppend (dVar 4) (dCons nx5 dNil))))))
def nearD : FS := (dIfS (dCmpT neS (dVar 2) (dTup dNil)) (dSeq (dAsg 6 (dCall F_L_roll (dCons (dVar 0) (dCons (dB gLen (dCons (dVar 2) dNil)) dNil))))
    (dSeq (dPar 7 5 (dCons (dCall F_L_roll (dCons (dVar 0) (dCons (dVar 1) dNil))) (dCons (dOp gIx (dVar 2) (dVar 6)) dNil))) ap5)) dSkip)
theorem near_split : b_L_near = dSeq nearA (dSeq nearB (dSeq nearC (dSeq nearD (dRetF (dTake 4))))) := rfl
theorem up_lt {a n k : Nat} (h : a < 2 ^ n) (hk : n + 1 ≤ k) : 2 * a < 2 ^ k ∧ a + 1 < 2 ^ k := by
  have h2 : 2 ^ (n + 1) ≤ 2 ^ k := Nat.pow_le_pow_right (by decide) hk
  have := Nat.two_pow_pos n
  rw [Nat.pow_succ] at h2
  omega
section
variable {w : Nat} {m : List (List Int)} {one : List Int} {n i j : Nat} {row : List Int} {μ : List Cell}
abbrev St5 (w : Nat) (m : List (List Int)) (one : List Int) (n i j : Nat) (row : List Int) (μ : List Cell) (V : List D) : S := ⟨[.val (.ref n), .val (.int (w : Nat)), .val (.tup (m.map Ri)), .val (Ri one), .own (.lst V), .val (Ri row), .val (.int (i : Nat)), .val (.int (j : Nat)), .no], μ⟩
theorem tup2 (em : ∀ d ∈ m.map Ri, El d) (hl : m.length ≤ 20) (V : List D) : TupE 20 (dVar 2) (St5 w m one n i j row μ V) := ⟨m.map Ri, rfl, by simpa using hl, em⟩
theorem around (em : ∀ d ∈ m.map Ri, El d) (hl : m.length ≤ 20) (V : List D) {fe : FE} (h : ElE fe (St5 w m one n i j row μ V)) :
    TupE (20 + 1 + 20) (dOp gAdd (dOp gAdd (dSl (dVar 2) dNo (dPart (dVar 6))) (dTup (dCons fe dNil))) (dSl (dVar 2) (dPart (dOp gAdd (dVar 6) (dC (.int (1))))) dNo)) (St5 w m one n i j row μ V) :=
  (((tup2 em hl V).sl (l := none) (h := some (i : Int)) rfl rfl).add (.one h) (by decide)).add ((tup2 em hl V).sl (l := some ((i : Int) + 1)) (h := none) rfl rfl) (by decide)
theorem x1 (em : ∀ d ∈ m.map Ri, El d) (hl : m.length ≤ 20) (hr : row.length ≤ 7) (hj : j < row.length) (hb : Bd 7000 row) (V : List D) : TupE 41 nx1 (St5 w m one n i j row μ V) := by
  refine around em hl V ?_
  have r5 : RowE 8000 7 (dVar 5) (St5 w m one n i j row μ V) := ⟨row, rfl, hr, hb.mono (by decide)⟩
  have ex : dOp gAdd (dOp gIx (dVar 5) (dVar 7)) (dC (.int (1))) (St5 w m one n i j row μ V) = .ok (.int (row[j] + 1)) (St5 w m one n i j row μ V) := by
    have := ix_row (St5 w m one n i j row μ V) row j hj
    simp [this]
  refine RowE.el (n := 8000) (L := 7 + 1 + 7) (((r5.sl (l := none) (h := some (j : Int)) rfl rfl).add (.one ex ?_) (by decide)).add (r5.sl (l := some ((j : Int) + 1)) (h := none) rfl rfl) (by decide)) (Nat.le_refl _) (by decide)
  have h1 := (up_lt (hb row[j] (List.getElem_mem hj)) (by decide : 7000 + 1 ≤ 8000)).2
  exact Nat.lt_of_le_of_lt (by omega) h1
theorem x2 (em : ∀ d ∈ m.map Ri, El d) (hl : m.length ≤ 20) (hr : row.length ≤ 7) (hb : Bd 7000 row) (V : List D) : TupE 41 nx2 (St5 w m one n i j row μ V) := by
  refine around em hl V ⟨Ri (row.map fun x => 2 * x), ?_, el_row ?_ (by simp; omega)⟩
  · have e := dbl_in (.val (.ref n)) (.val (.int (w : Nat))) (.val (.tup (m.map Ri))) (.val (Ri one)) (.own (.lst V)) (.val (Ri row)) (.val (.int (i : Nat))) (.val (.int (j : Nat))) μ row hb
    have hl : row.length ≤ 16777216 := by omega
    simp [hl, e, tup_ints, -List.map_map]
  · intro x hx
    obtain ⟨y, hy, rfl⟩ := List.mem_map.mp hx
    have h1 := (up_lt (hb y hy) (by decide : 7000 + 1 ≤ 8000)).1
    exact Nat.lt_of_le_of_lt (by omega) h1
theorem x3 (em : ∀ d ∈ m.map Ri, El d) (hl : m.length ≤ 20) (V : List D) : TupE 41 nx3 (St5 w m one n i j row μ V) := by
  refine around em hl V ⟨.lst (row.map .int), ?_, el_lst fun d hd => ?_⟩
  · simp [gList]
  · obtain ⟨x, _, rfl⟩ := List.mem_map.mp hd
    exact .int x
theorem x4 (em : ∀ d ∈ m.map Ri, El d) (hl : m.length ≤ 20) (hr : row.length ≤ 7) (hb : Bd 7000 row) (V : List D) : TupE 41 nx4 (St5 w m one n i j row μ V) := by
  refine around em hl V ⟨.tup (row.map mixF), ?_, mix_el hb (by omega)⟩
  have e := mix_in (.val (.ref n)) (.val (.int (w : Nat))) (.val (.tup (m.map Ri))) (.val (Ri one)) (.own (.lst V)) (.val (Ri row)) (.val (.int (i : Nat))) (.val (.int (j : Nat))) μ row
  have hl : row.length ≤ 16777216 := by omega
  have et : ∀ s : S, gTuple s [.lst (row.map mixF)] = some (.tup (row.map mixF)) := fun s => rfl
  simp [hl, e, et, -List.map_map]
theorem x5 (em : ∀ d ∈ m.map Ri, El d) (hl : m.length ≤ 20) (V : List D) : TupE 40 nx5 (St5 w m one n i j row μ V) :=
  ((tup2 em hl V).sl (l := none) (h := some (i : Int)) rfl rfl).add ((tup2 em hl V).sl (l := some ((i : Int) + 1)) (h := none) rfl rfl) (by decide)
theorem ap5_ok (em : ∀ d ∈ m.map Ri, El d) (hl : m.length ≤ 20) (hr : row.length ≤ 7) (hj : j < row.length) (hb : Bd 7000 row) {V : List D} (hV : V.length ≤ 50) (hV2 : ∀ v ∈ V, Okv w v) :
    ∃ V' : List D, ap5 (St5 w m one n i j row μ V) = .nx (St5 w m one n i j row μ V') ∧ V'.length ≤ 60 ∧ ∀ v ∈ V', Okv w v := by
  obtain ⟨y1, e1, l1, h1⟩ := x1 (w := w) (one := one) (n := n) (i := i) (μ := μ) em hl hr hj hb V
  obtain ⟨y2, e2, l2, h2⟩ := x2 (w := w) (one := one) (n := n) (i := i) (j := j) (μ := μ) em hl hr hb (V ++ [.tup y1])
  obtain ⟨y3, e3, l3, h3⟩ := x3 (w := w) (one := one) (n := n) (i := i) (j := j) (row := row) (μ := μ) em hl (V ++ [.tup y1] ++ [.tup y2])
  obtain ⟨y4, e4, l4, h4⟩ := x4 (w := w) (one := one) (n := n) (i := i) (j := j) (μ := μ) em hl hr hb (V ++ [.tup y1] ++ [.tup y2] ++ [.tup y3])
  obtain ⟨y5, e5, l5, h5⟩ := x5 (w := w) (one := one) (n := n) (i := i) (j := j) (row := row) (μ := μ) em hl (V ++ [.tup y1] ++ [.tup y2] ++ [.tup y3] ++ [.tup y4])
  refine ⟨V ++ [.tup y1] ++ [.tup y2] ++ [.tup y3] ++ [.tup y4] ++ [.tup y5], ?_, by simp; omega, fun v hv => ?_⟩
  · unfold ap5
    simp only [ap_Seq, app_ok e1 rfl (by omega), app_ok e2 rfl (by simp; omega), app_ok e3 rfl (by simp; omega), app_ok e4 rfl (by simp; omega), app_ok e5 rfl (by simp; omega)]
  · simp only [List.append_assoc, List.mem_append, List.mem_singleton] at hv
    rcases hv with hv | rfl | rfl | rfl | rfl | rfl
    · exact hV2 v hv
    · exact okv_tup (by omega) h1
    · exact okv_tup (by omega) h2
    · exact okv_tup (by omega) h3
    · exact okv_tup (by omega) h4
    · exact okv_tup (by omega) h5
end
end K13

namespace K13
open PySem PySem.Spec PyProof.Rows L2 DL
theorem py_rows : ∀ m : List (List Int), toPyL (m.map Ri) = some (m.map fun r => .tuple (r.map .int))
  | [] => rfl
  | r :: m => by
    have := py_rows m
    simp [toPyL, toPy, py_ints, this]
theorem depth_rows : ∀ m : List (List Int), PyData.depthAll (m.map fun r => .tuple (r.map .int)) ≤ 1
  | [] => by simp [PyData.depthAll]
  | r :: m => by
    have := depth_rows m
    simp [PyData.depthAll, PyData.depth, depth_ints]
    omega
theorem can_rows : ∀ m : List (List Int), PyData.canLayAll0 (m.map fun r => .tuple (r.map .int)) = true
  | [] => by simp [PyData.canLayAll0]
  | r :: m => by simp [PyData.canLayAll0, PyData.canLay0, can_ints, can_rows m]
theorem sh_rows (m : List (List Int)) : SeqAt.shaped (.tuple (m.map fun r => .tuple (r.map .int))) = true := by
  have := depth_rows m
  simp [SeqAt.shaped, PyData.canLay0, PyData.depth, can_rows]
  omega
theorem ne_rows0 (s : S) {m : List (List Int)} (h : 1 ≤ m.length) : neS s (.tup (m.map Ri)) (.tup []) = some (.bl true) := by
  have p0 : toPyS s (.tup (m.map Ri)) = some (.tuple (m.map fun r => .tuple (r.map .int))) := by rw [pys_tup, py_rows]; rfl
  have p1 : toPyS s (.tup []) = some (.tuple []) := rfl
  have s0 := sh_row []
  have s1 := sh_rows m
  have v : PyData.eqv (.tuple (m.map fun r => .tuple (r.map .int))) (.tuple []) = false := by
    cases m with
    | nil => simp at h
    | cons r m => rfl
  simp only [List.map_nil] at s0
  generalize (m.map fun r => PyData.tuple (r.map .int)) = pm at p0 s1 v
  generalize m.map Ri = M at p0
  simp [neS, twoStr, gDat, p0, neG, s0, s1, v, toPyL]
section
variable {w : Nat} {m : List (List Int)} {one : List Int} {n : Nat} {μ : List Cell}
abbrev S0 (w : Nat) (m : List (List Int)) (one : List Int) (n : Nat) (μ : List Cell) (c : DL.Slot) : S := ⟨[.val (.ref n), .val (.int (w : Nat)), .val (.tup (m.map Ri)), .val (Ri one), c, .no, .no, .no, .no], μ⟩
theorem nearB_ok (hm : ∀ r ∈ m, r.length = w ∧ Bd 7000 r) (hl : m.length ≤ 20) (hw : w ≤ 7) (ho : one.length = w) (hb : Bd 101 one) : nearB (S0 w m one n μ .no) = .nx (S0 w m one n μ (.own (.lst ((near0 w m one).take 12)))) := by
  have e1 := L_lowest_ok (hb.mono (by decide : 101 ≤ 8000)) (by omega) μ
  have hc := cut_len (m.map Ri) none (some 1)
  have a1 : ∀ s : S, gAdd s (.tup (m.map Ri)) (.tup (DL.cutD (m.map Ri) none (some 1))) = some (.tup (m.map Ri ++ DL.cutD (m.map Ri) none (some 1))) := fun s => add_tt s _ _ (by simp at hc ⊢; omega)
  have a2 : ∀ s : S, gAdd s (.tup (m.map Ri)) (.tup [Ri one]) = some (.tup (m.map Ri ++ [Ri one])) := fun s => add_tt s _ _ (by simp; omega)
  unfold nearB near0
  simp [dRev, dSl, dNo, dPart, gList, e1, a1, a2, -List.map_map]
theorem nearC_ok (hm : ∀ r ∈ m, r.length = w ∧ Bd 7000 r) (hl : m.length ≤ 20) (h1 : 1 ≤ w) (hw : w ≤ 7) (ho : one.length = w) : nearC (S0 w m one n μ (.own (.lst ((near0 w m one).take 12)))) = .nx (S0 w m one n μ (.own (.lst (near0 w m one)))) := by
  have a1 : ∀ s : S, gAdd s (.tup (m.map Ri)) (.tup [.tup (List.replicate w (.int 0))]) = some (.tup (m.map Ri ++ [.tup (List.replicate w (.int 0))])) := fun s => add_tt s _ _ (by simp; omega)
  have a2 : ∀ s : S, gAdd s (.tup (one.map .int)) (.tup [.int 0]) = some (.tup (one.map .int ++ [.int 0])) := fun s => add_tt s _ _ (by simp; omega)
  have r1 : ∀ s : S, gMul s (.tup [.int 0]) (.int (w : Nat)) = some (.tup (List.replicate w (.int 0))) := fun s => rep_w h1 hw s (.int 0)
  have ng := neg_out (.val (.ref n)) (.val (.int (w : Nat))) (.val (.tup (m.map Ri))) (.val (Ri one)) (.own (.lst ((near0 w m one).take 12))) .no .no μ m (fun r hr => by have := (hm r hr).1; omega)
  have hl2 : m.length ≤ 16777216 := by omega
  have gt : ∀ s : S, gTuple s [.lst (m.map fun r => Ri (r.map fun x => -x))] = some (.tup (m.map fun r => Ri (r.map fun x => -x))) := fun s => rfl
  have split : near0 w m one = (near0 w m one).take 12 ++ [.tup (m.map Ri ++ [.tup (List.replicate w (.int 0))]), .tup [Ri (one ++ [0])], .tup (m.map fun r => Ri (r.map fun x => -x))] := rfl
  have lv : ((near0 w m one).take 12).length = 12 := rfl
  rw [split]
  generalize (near0 w m one).take 12 = V at ng lv
  have lt : (V ++ [D.tup (m.map Ri ++ [.tup (List.replicate w (.int 0))]), .tup [Ri (one ++ [0])], .tup (m.map fun r => Ri (r.map fun x => -x))]).take 12 = V := by
    rw [← lv, List.take_left']
    rfl
  rw [lt]
  simp [nearC, dCat, asL, cellAt, r1, a1, a2, ng, hl2, gt, lv, -List.map_map]
theorem nearD_ok {k : Nat} (hd : Dc k n μ) (hk : k ≤ 50000) (hm : ∀ r ∈ m, r.length = w ∧ Bd 7000 r) (hl : m.length ≤ 20) (h1 : 1 ≤ w) (hw : w ≤ 7) {V : List D} (hV : V.length ≤ 50) (hV2 : ∀ v ∈ V, Okv w v) :
    ∃ (V' : List D) (c5 c6 c7 : DL.Slot) (μ' : List Cell), nearD (S0 w m one n μ (.own (.lst V))) = .nx ⟨[.val (.ref n), .val (.int (w : Nat)), .val (.tup (m.map Ri)), .val (Ri one), .own (.lst V'), c5, c6, c7, .no], μ'⟩ ∧ V'.length ≤ 60 ∧ (∀ v ∈ V', Okv w v) ∧ Dc (k + 2) n μ' := by
  by_cases hz : m.length = 0
  · cases List.length_eq_zero_iff.mp hz
    refine ⟨V, .no, .no, .no, μ, ?_, by omega, hV2, hd.mono (by omega)⟩
    have : ∀ s : S, neS s (.tup []) (.tup []) = some (.bl false) := fun s => ne_rr s [] []
    simp [nearD, this]
  · have em := el_sub hm hw
    obtain ⟨i, μ1, e1, q1, d1⟩ := roll_ok (t := (m.length : Int)) hd (by omega) (by omega) (by omega)
    obtain ⟨j, μ2, e2, q2, d2⟩ := roll_ok (t := (w : Int)) d1 (by omega) (by omega) (by omega)
    have hi : i < m.length := by omega
    have hrow := hm m[i] (List.getElem_mem hi)
    obtain ⟨V', e, l', h'⟩ := ap5_ok (w := w) (one := one) (n := n) (i := i) (j := j) (row := m[i]) (μ := μ2) em hl (by omega) (by omega) hrow.2 hV hV2
    refine ⟨V', .val (Ri m[i]), .val (.int (i : Nat)), .val (.int (j : Nat)), μ2, ?_, l', h', d2⟩
    have ne : ∀ s : S, neS s (.tup (m.map Ri)) (.tup []) = some (.bl true) := fun s => ne_rows0 s (by omega)
    have ei : ∀ s : S, gIx s (.tup (m.map Ri)) (.int (i : Nat)) = some (Ri m[i]) := fun s => L2.atI_nat (by simp [hi])
    have hl2 : m.length ≤ 16777216 := by omega
    generalize m[i] = row at e ei
    simp [nearD, ne, gLen, hl2, e1, dPar, e2, ei, -List.map_map]
    exact e
theorem nearA_gen {F : FF} {d0 d1 d2 v : D} {μ1 : List Cell} (n0 : noOwn d0 = true) (n1 : noOwn d1 = true) (nv : noOwn v = true) (e1 : F [d0, d1] μ = .ok v μ1) : dAsg 3 (dCall F (dCons (dVar 0) (dCons (dVar 1) dNil))) ⟨[.val d0, .val d1, .val d2, .no, .no, .no, .no, .no, .no], μ⟩ = .nx ⟨[.val d0, .val d1, .val d2, .val v, .no, .no, .no, .no, .no], μ1⟩ := by
  simp [e1, n0, n1, nv]
theorem nearA_ok {μ1 : List Cell} (e1 : F_L_drawn [.ref n, .int (w : Nat)] μ = .ok (Ri one) μ1) : nearA ⟨[.val (.ref n), .val (.int (w : Nat)), .val (.tup (m.map Ri)), .no, .no, .no, .no, .no, .no], μ⟩ = .nx (S0 w m one n μ1 .no) := nearA_gen rfl rfl rfl e1
theorem runF_rtc {b : FS} {d0 d1 d2 : D} {c : Cell} {s : S} (h : b ⟨[.val d0, .val d1, .val d2, .no, .no, .no, .no, .no, .no], μ⟩ = .rtc c s) : runF b 9 [d0, d1, d2] μ = .okc c s.μ := by
  show (match b ⟨[.val d0, .val d1, .val d2, .no, .no, .no, .no, .no, .no], μ⟩ with
    | .nx s => CR.ok .non s.μ
    | .rt d s => .ok d s.μ
    | .rtc c s => .okc c s.μ
    | .exc e s => .exc e s.μ
    | _ => .bad) = _
  rw [h]
theorem near_ok {k : Nat} (hd : Dc k n μ) (hk : k ≤ 10000) (hm : ∀ r ∈ m, r.length = w ∧ Bd 7000 r) (hl : m.length ≤ 20) (h1 : 1 ≤ w) (hw : w ≤ 7) :
    ∃ (V : List D) (μ' : List Cell), F_L_near [.ref n, .int (w : Nat), .tup (m.map Ri)] μ = .okc (.lst V) μ' ∧ V.length ≤ 60 ∧ (∀ v ∈ V, Okv w v) ∧ Dc (k + 10) n μ' := by
  obtain ⟨one, μ1, e1, l1, b1, d1⟩ := drawn_ok hd (by omega) (by omega : w ≤ 60)
  obtain ⟨V', c5, c6, c7, μ2, e2, l2, h2, d2⟩ := nearD_ok (one := one) (V := near0 w m one) d1 (by omega) hm hl h1 hw (by simp [near0]) (near0_ok hm hl hw l1 b1)
  refine ⟨V', μ2, ?_, l2, h2, d2.mono (by omega)⟩
  have eA := nearA_ok (m := m) e1
  have eB := nearB_ok (n := n) (μ := μ1) hm hl hw l1 b1
  have eC := nearC_ok (n := n) (μ := μ1) hm hl h1 hw l1
  have : b_L_near ⟨[.val (.ref n), .val (.int (w : Nat)), .val (.tup (m.map Ri)), .no, .no, .no, .no, .no, .no], μ⟩ = .rtc (.lst V') ⟨[.val (.ref n), .val (.int (w : Nat)), .val (.tup (m.map Ri)), .val (Ri one), .no, c5, c6, c7, .no], μ2⟩ := by
    rw [near_split]
    simp only [ap_Seq, eA, eB, eC, e2]
    simp [dTake]
  exact runF_rtc this
end
end K13

namespace K13
open PySem PySem.Spec PyProof.Rows L2 DL
/-! ### what is shown -/
theorem log_of {x : Int} (h : x.natAbs < 2 ^ 1900) : x.natAbs.log2 < 1920 := Nat.lt_of_lt_of_le (log_lt h (by decide)) (by decide)
theorem short_int {x : Int} (h : x.natAbs < 2 ^ 1900) : PyData.leavesShort 1921 (.int x) = true := by
  have e : (PySem.Str.ofString (toString x)).length ≤ 1921 := by
    rw [PySem.ofString_length]
    exact PySem.int_text_length_le (k := 1920) (by decide) (log_of h)
  have e2 : (PyData.shown (.int x)).length ≤ 1921 := e
  rw [PyData.leavesShort]
  exact decide_eq_true e2
theorem short_ints : ∀ xs : List Int, Bd 1900 xs → PyData.leavesShortAll 1921 (xs.map .int) = true
  | [], _ => rfl
  | x :: xs, h => by
    rw [List.map_cons, PyData.leavesShortAll, short_int (h x (by simp)), short_ints xs fun y hy => h y (by simp [hy])]
    rfl
theorem showable_ints : ∀ xs : List Int, Bd 1900 xs → PyData.showableAll (xs.map .int) = true
  | [], _ => rfl
  | x :: xs, h => by
    have := log_of (h x (by simp))
    rw [List.map_cons, PyData.showableAll, PyData.showable, decide_eq_true this, showable_ints xs fun y hy => h y (by simp [hy])]
    rfl
theorem bulk_ints : ∀ xs : List Int, PyData.bulkAll (xs.map .int) = xs.length
  | [] => rfl
  | x :: xs => by
    rw [List.map_cons, PyData.bulkAll, PyData.bulk, bulk_ints xs, List.length_cons]
    omega
theorem nodict_ints : ∀ xs : List Int, PyData.hasDictAll (xs.map .int) = false
  | [] => rfl
  | x :: xs => by
    rw [List.map_cons, PyData.hasDictAll, PyData.hasDict, nodict_ints xs]
    rfl
theorem repr_row {xs : List Int} (h : Bd 1900 xs) (hl : xs.length ≤ 100) : ∃ x, ∀ s : S, gRepr s [Ri xs] = some (.str x) := by
  refine ⟨PyData.shown (.tuple (xs.map .int)), fun s => ?_⟩
  have e1 := PyData.shown_le_bulk 1921 (by decide) (.tuple (xs.map .int)) (by rw [PyData.leavesShort]; exact short_ints xs h)
  rw [PyData.bulk, bulk_ints] at e1
  have e2 : PyData.showable (.tuple (xs.map .int)) = true := by rw [PyData.showable]; exact showable_ints xs h
  have e3 : PyData.depth (.tuple (xs.map .int)) ≤ 60 := by simp [PyData.depth, depth_ints]
  have e4 : PyData.hasDict (.tuple (xs.map .int)) = false := by rw [PyData.hasDict]; exact nodict_ints xs
  have e5 : (PyData.shown (.tuple (xs.map .int))).length ≤ 16777216 := by omega
  have p : toPyS s (Ri xs) = some (.tuple (xs.map .int)) := by rw [pys_tup, py_ints]; rfl
  generalize PyData.tuple (xs.map .int) = u at *
  simp [gRepr, shownD, p, e2, e3, e4, e5]
theorem repr_pair {a : Int} {xs : List Int} (ha : a.natAbs < 2 ^ 1900) (h : Bd 1900 xs) (hl : xs.length ≤ 100) : ∃ x, ∀ s : S, gRepr s [.lst [.int a, Ri xs]] = some (.str x) := by
  refine ⟨PyData.shown (.list [.int a, .tuple (xs.map .int)]), fun s => ?_⟩
  have e1 := PyData.shown_le_bulk 1921 (by decide) (.list [.int a, .tuple (xs.map .int)]) (by
    rw [PyData.leavesShort, PyData.leavesShortAll, PyData.leavesShortAll, short_int ha, PyData.leavesShort, short_ints xs h]; rfl)
  simp only [PyData.bulk, PyData.bulkAll, bulk_ints] at e1
  have e2 : PyData.showable (.list [.int a, .tuple (xs.map .int)]) = true := by
    simp only [PyData.showable, PyData.showableAll, decide_eq_true (log_of ha), showable_ints xs h, Bool.and_self]
  have e3 : PyData.depth (.list [.int a, .tuple (xs.map .int)]) ≤ 60 := by simp [PyData.depth, PyData.depthAll, depth_ints]
  have e4 : PyData.hasDict (.list [.int a, .tuple (xs.map .int)]) = false := by
    simp only [PyData.hasDict, PyData.hasDictAll, nodict_ints, Bool.or_self]
  have e5 : (PyData.shown (.list [.int a, .tuple (xs.map .int)])).length ≤ 16777216 := by omega
  have p : toPyS s (.lst [.int a, Ri xs]) = some (.list [.int a, .tuple (xs.map .int)]) := by
    simp [toPyL, toPy, py_ints]
  generalize PyData.list [.int a, .tuple (xs.map .int)] = u at *
  simp [gRepr, shownD, p, e2, e3, e4, e5]
theorem repr_bl (b : Bool) : ∃ x, ∀ s : S, gRepr s [.bl b] = some (.str x) := by
  cases b
  · exact ⟨"False", fun s => rfl⟩
  · exact ⟨"True", fun s => rfl⟩
end K13

namespace K13
open PySem PySem.Spec PyProof.Rows L2 DL
section
variable {n : Nat} {w T k : Int} {one two : List Int} {μ μ1 μ2 μ3 : List Cell}
abbrev R2 (n : Nat) (w : Int) (one two : List Int) (k : Int) (μ : List Cell) : S := ⟨[.val (.ref n), .val (.int w), .val (Ri one), .val (Ri two), .val (.int k), .no, .no, .no, .no, .no, .no], μ⟩
theorem rightA {Fd Fp : FF} (pw : ∀ s : S, gPow s (.int 10) (.int 25) = some (.int T)) (e1 : Fd [.ref n, .int w] μ = .ok (Ri one) μ1) (e2 : Fd [.ref n, .int w] μ1 = .ok (Ri two) μ2) (e3 : Fp [.ref n, .lst [.int 0, .int 1, .int (-1), .int 3, .int T]] μ2 = .ok (.int k) μ3) :
    (dAsgG (dTup (dCons (dCall Fd (dCons (dVar 0) (dCons (dVar 1) dNil))) (dCons (dCall Fd (dCons (dVar 0) (dCons (dVar 1) dNil))) (dCons (dCall Fp (dCons (dVar 0) (dCons (dFrz (dLst (dCons (dC (.int (0))) (dCons (dC (.int (1))) (dCons (dNeg (dC (.int (1)))) (dCons (dC (.int (3))) (dCons (dOp gPow (dC (.int (10))) (dC (.int (25)))) dNil))))))) dNil))) dNil)))) (gT (gC (gNm 2) (gC (gNm 3) (gC (gNm 4) gN)))))
      ⟨[.val (.ref n), .val (.int w), .no, .no, .no, .no, .no, .no, .no, .no, .no], μ⟩ = .nx (R2 n w one two k μ3) := by
  simp [dAsgG, e1, e2, pw, e3]
theorem add11 (a0 a1 a2 a3 a4 a5 a6 a7 : DL.Slot) (μ : List Cell) : ∀ xs ys : List Int, dLcGo [8, 9] (gT (gC (gNm 8) (gC (gNm 9) gN))) dYes (dOp gAdd (dVar 8) (dVar 9)) (zpD (xs.map .int) (ys.map .int)) ⟨[a0, a1, a2, a3, a4, a5, a6, a7, .no, .no, .no], μ⟩ = .ok ((zw (· + ·) xs ys).map .int) ⟨[a0, a1, a2, a3, a4, a5, a6, a7, .no, .no, .no], μ⟩
  | [], ys => by simp [zpD, zw, dLcGo]
  | x :: xs, [] => by simp [zpD, zw, dLcGo]
  | x :: xs, y :: ys => by
    have ih := add11 a0 a1 a2 a3 a4 a5 a6 a7 μ xs ys
    unfold zw at ih
    simp [zpD, zw, dLcGo, wipeD, backD, ih]
theorem mul11 (a0 a1 a2 a3 a5 a6 a7 : DL.Slot) (μ : List Cell) {n m : Nat} (hn : 0 < n) (hm : 0 < m) (hnm : n + m ≤ 50000) (hk : k.natAbs < 2 ^ n) : ∀ xs : List Int, Bd m xs → dLcGo [8] (gNm 8) dYes (dOp gMul (dVar 4) (dVar 8)) (xs.map .int) ⟨[a0, a1, a2, a3, .val (.int k), a5, a6, a7, .no, .no, .no], μ⟩ = .ok ((xs.map fun x => k * x).map .int) ⟨[a0, a1, a2, a3, .val (.int k), a5, a6, a7, .no, .no, .no], μ⟩
  | [], _ => rfl
  | x :: xs, h => by
    have ih := mul11 a0 a1 a2 a3 a5 a6 a7 μ hn hm hnm hk xs fun y hy => h y (by simp [hy])
    have m := mulOk_of hk (h x (by simp)) hn hm hnm
    simp only [List.map_map] at ih
    simp [dLcGo, wipeD, backD, ih, mul_ii m]
theorem rightB1 {F : FF} {x : Str} (hl : one.length ≤ 60) (e : F [.int w, Ri one, Ri two] μ = .ok (Ri (zw (· + ·) one two)) μ) (er : ∀ s : S, gRepr s [Ri (zw (· + ·) one two)] = some (.str x)) :
    (dIfS (dCmpT neS (dB gRepr (dCons (dCall F (dCons (dVar 1) (dCons (dVar 2) (dCons (dVar 3) dNil)))) dNil)) (dB gRepr (dCons (dB gTuple (dCons (dFrz (dLc [8, 9] (dIterZp (dCons (dVar 2) (dCons (dVar 3) dNil))) (gT (gC (gNm 8) (gC (gNm 9) gN))) dYes (dOp gAdd (dVar 8) (dVar 9)))) dNil)) dNil))) (dRet (dC (.bl false))) dSkip) (R2 n w one two k μ) = .nx (R2 n w one two k μ) := by
  have c := add11 (.val (.ref n)) (.val (.int w)) (.val (Ri one)) (.val (Ri two)) (.val (.int k)) .no .no .no μ one two
  have hl2 : (zpD (one.map .int) (two.map .int)).length ≤ 16777216 := by rw [zp_len]; omega
  simp [e, er, c, hl2, tup_ints]
theorem rightB2 {F : FF} {x : Str} {p m : Nat} (hp : 0 < p) (hm : 0 < m) (hnm : p + m ≤ 50000) (hk : k.natAbs < 2 ^ p) (hb : Bd m one) (hl : one.length ≤ 60) (e : F [.int w, .int k, Ri one] μ = .ok (Ri (one.map fun x => k * x)) μ) (er : ∀ s : S, gRepr s [Ri (one.map fun x => k * x)] = some (.str x)) :
    (dIfS (dCmpT neS (dB gRepr (dCons (dCall F (dCons (dVar 1) (dCons (dVar 4) (dCons (dVar 2) dNil)))) dNil)) (dB gRepr (dCons (dB gTuple (dCons (dFrz (dLc [8] (dIter (dVar 2)) (gNm 8) dYes (dOp gMul (dVar 4) (dVar 8)))) dNil)) dNil))) (dRet (dC (.bl false))) dSkip) (R2 n w one two k μ) = .nx (R2 n w one two k μ) := by
  have c := mul11 (.val (.ref n)) (.val (.int w)) (.val (Ri one)) (.val (Ri two)) .no .no .no μ hp hm hnm hk one hb
  have hl2 : one.length ≤ 16777216 := by omega
  generalize (one.map fun x => k * x) = r at *
  simp [e, er, c, hl2, tup_ints]
theorem rightB3 {F G H I : FF} {x : Str} {a : Int} {r : List Int} (e1 : F [.int w, Ri one, Ri two] μ = .ok (.int a) μ) (e2 : G [.int w, Ri one] μ = .ok (Ri r) μ) (e3 : H [Ri one, Ri two] μ = .ok (.int a) μ) (e4 : I [Ri one] μ = .ok (Ri r) μ) (er : ∀ s : S, gRepr s [.lst [.int a, Ri r]] = some (.str x)) :
    (dIfS (dCmpT neS (dB gRepr (dCons (dFrz (dLst (dCons (dCall F (dCons (dVar 1) (dCons (dVar 2) (dCons (dVar 3) dNil)))) (dCons (dCall G (dCons (dVar 1) (dCons (dVar 2) dNil))) dNil)))) dNil)) (dB gRepr (dCons (dFrz (dLst (dCons (dCall H (dCons (dVar 2) (dCons (dVar 3) dNil))) (dCons (dCall I (dCons (dVar 2) dNil)) dNil)))) dNil))) (dRet (dC (.bl false))) dSkip) (R2 n w one two k μ) = .nx (R2 n w one two k μ) := by
  simp [e1, e2, e3, e4, er]
theorem rightB4 {F G H I J : FF} {a : Int} {r s7 : List Int} (e1 : G [.int w, .int (-7), Ri one] μ = .ok (Ri s7) μ) (e2 : F [.int w, Ri s7] μ = .ok (Ri r) μ) (e3 : H [Ri one] μ = .ok (Ri r) μ) (e4 : I [.int w, Ri two, Ri one] μ = .ok (.int a) μ) (e5 : J [Ri one, Ri two] μ = .ok (.int a) μ) :
    (dIfS (dOrT (dCmpT neS (dCall F (dCons (dVar 1) (dCons (dCall G (dCons (dVar 1) (dCons (dNeg (dC (.int (7)))) (dCons (dVar 2) dNil)))) dNil))) (dCall H (dCons (dVar 2) dNil))) (dCmpT neS (dCall I (dCons (dVar 1) (dCons (dVar 3) (dCons (dVar 2) dNil)))) (dCall J (dCons (dVar 2) (dCons (dVar 3) dNil))))) (dRet (dC (.bl false))) dSkip) (R2 n w one two k μ) = .nx (R2 n w one two k μ) := by
  simp [e1, e2, e3, e4, e5]
end
end K13

namespace K13
open PySem PySem.Spec PyProof.Rows L2 DL
section
variable {n w : Nat} {k : Int} {one two : List Int} {μ : List Cell}
theorem lot_draw {F : FF} (h : ∀ (k : Nat) (μ : List Cell), Dc k n μ → k ≤ 50000 → ∃ (xs : List Int) (μ' : List Cell), F [.ref n, .int (w : Nat)] μ = .ok (Ri xs) μ' ∧ xs.length = w ∧ Bd 101 xs ∧ Dc (k + w) n μ') (hw : w ≤ 7) :
    ∀ (ds : List D) (c : Nat) (μ : List Cell), Dc c n μ → c + 7 * ds.length ≤ 50000 → ∃ (rows : List (List Int)) (μ' : List Cell), rows.length = ds.length ∧ (∀ r ∈ rows, r.length = w ∧ Bd 101 r) ∧ Dc (c + 7 * ds.length) n μ' ∧
      dLcGo [10] (gNm 10) dYes (dCall F (dCons (dVar 0) (dCons (dVar 1) dNil))) ds (R2 n w one two k μ) = .ok (rows.map Ri) (R2 n w one two k μ')
  | [], c, μ, hd, _ => ⟨[], μ, rfl, by simp, hd, rfl⟩
  | d :: ds, c, μ, hd, hc => by
    have hc : c + 7 * (ds.length + 1) ≤ 50000 := hc
    obtain ⟨xs, μ1, e1, l1, b1, d1⟩ := h c μ hd (by omega)
    obtain ⟨rows, μ', l2, b2, d2, e2⟩ := lot_draw h hw ds (c + 7) μ1 (d1.mono (by omega)) (by omega)
    refine ⟨xs :: rows, μ', by simp [l2], fun r hr => ?_, d2.mono (by simp; omega), ?_⟩
    · rcases List.mem_cons.mp hr with rfl | hr
      · exact ⟨l1, b1⟩
      · exact b2 r hr
    · simp [dLcGo, wipeD, backD, e1, e2, -List.map_map]
theorem rightC {F G H : FF} {r : Nat} {rows m : List (List Int)} {μ1 μ2 : List Cell} (hr : r ≤ 60) (e1 : G [.ref n, .int 4] μ = .ok (.int (r : Nat)) μ1)
    (e2 : dLcGo [10] (gNm 10) dYes (dCall F (dCons (dVar 0) (dCons (dVar 1) dNil))) (rngD 0 r) (R2 n w one two k μ1) = .ok (rows.map Ri) (R2 n w one two k μ2)) (e3 : H [.int (w : Nat), .tup (rows.map Ri)] μ2 = .ok (.tup (m.map Ri)) μ2) :
    (dAsg 5 (dCall H (dCons (dVar 1) (dCons (dB gTuple (dCons (dFrz (dLc [10] (dRng1 (dCons (dCall G (dCons (dVar 0) (dCons (dC (.int (4))) dNil))) dNil)) (gNm 10) dYes (dCall F (dCons (dVar 0) (dCons (dVar 1) dNil))))) dNil)) dNil)))) (R2 n w one two k μ) =
      .nx ⟨[.val (.ref n), .val (.int (w : Nat)), .val (Ri one), .val (Ri two), .val (.int k), .val (.tup (m.map Ri)), .no, .no, .no, .no, .no], μ2⟩ := by
  have er := rng_gen (fa := dCons (dCall G (dCons (dVar 0) (dCons (dC (.int (4))) dNil))) dNil) (s := R2 n w one two k μ) (s1 := R2 n w one two k μ1) (j := (r : Int)) (by simp [e1]) (small_w hr)
  rw [Int.toNat_natCast] at er
  have hl : (rngD 0 r).length ≤ 16777216 := by rw [rng_len]; omega
  have gt : ∀ s : S, gTuple s [.lst (rows.map Ri)] = some (.tup (rows.map Ri)) := fun s => rfl
  generalize rngD 0 r = ds at *
  generalize rows.map Ri = M at *
  simp [er, hl, e2, gt, e3, -List.map_map]
theorem rightD {F G : FF} {d0 d1 d2 d3 d4 d5 : D} {c7 c8 c9 c10 : DL.Slot} (n1 : noOwn d1 = true) : ∀ (V : List D) (c : DL.Slot), (∀ v ∈ V, noOwn v = true ∧ ∃ b : Bool, F [d1, v] μ = .ok (.bl b) μ ∧ G [d1, v] μ = .ok (.bl b) μ) →
    ∃ c', (c' = c ∨ ∃ x, c' = .val x) ∧ dFor (gNm 6) (dIfS (dCmpT neS (dB gRepr (dCons (dCall F (dCons (dVar 1) (dCons (dVar 6) dNil))) dNil)) (dB gRepr (dCons (dCall G (dCons (dVar 1) (dCons (dVar 6) dNil))) dNil))) (dRet (dC (.bl false))) dSkip) V ⟨[.val d0, .val d1, .val d2, .val d3, .val d4, .val d5, c, c7, c8, c9, c10], μ⟩ = .nx ⟨[.val d0, .val d1, .val d2, .val d3, .val d4, .val d5, c', c7, c8, c9, c10], μ⟩
  | [], c, _ => ⟨c, .inl rfl, rfl⟩
  | v :: V, c, h => by
    obtain ⟨nv, b, e1, e2⟩ := h v (by simp)
    obtain ⟨x, ex⟩ := repr_bl b
    obtain ⟨c', hc, e⟩ := rightD (d0 := d0) (d2 := d2) (d3 := d3) (d4 := d4) (d5 := d5) (c7 := c7) (c8 := c8) (c9 := c9) (c10 := c10) n1 V (.val v) fun u hu => h u (by simp [hu])
    refine ⟨c', .inr (hc.elim (fun z => ⟨v, z⟩) id), ?_⟩
    simp [dFor, e1, e2, nv, n1, ex, e]
theorem rightDI {F G H : FF} {d0 d1 d2 d3 d4 d5 : D} {c7 c8 c9 c10 : DL.Slot} {μ0 : List Cell} {V : List D} (n0 : noOwn d0 = true) (n1 : noOwn d1 = true) (n5 : noOwn d5 = true) (eH : H [d0, d1, d5] μ0 = .okc (.lst V) μ) (h : ∀ v ∈ V, noOwn v = true ∧ ∃ b : Bool, F [d1, v] μ = .ok (.bl b) μ ∧ G [d1, v] μ = .ok (.bl b) μ) :
    ∃ c', (c' = .no ∨ ∃ x, c' = .val x) ∧ dForI (dIter (dFrz (dCallF H (dCons (dVar 0) (dCons (dVar 1) (dCons (dVar 5) dNil)))))) (gNm 6) (dIfS (dCmpT neS (dB gRepr (dCons (dCall F (dCons (dVar 1) (dCons (dVar 6) dNil))) dNil)) (dB gRepr (dCons (dCall G (dCons (dVar 1) (dCons (dVar 6) dNil))) dNil))) (dRet (dC (.bl false))) dSkip) ⟨[.val d0, .val d1, .val d2, .val d3, .val d4, .val d5, .no, c7, c8, c9, c10], μ0⟩ = .nx ⟨[.val d0, .val d1, .val d2, .val d3, .val d4, .val d5, c', c7, c8, c9, c10], μ⟩ := by
  obtain ⟨c', hc, e⟩ := rightD (d0 := d0) (d2 := d2) (d3 := d3) (d4 := d4) (d5 := d5) (c7 := c7) (c8 := c8) (c9 := c9) (c10 := c10) n1 V .no h
  exact ⟨c', hc, by simp [dForI, eH, n0, n1, n5, e]⟩
end
end K13

namespace K13
open PySem PySem.Spec PyProof.Rows L2 DL
/-! the things near a row -/
structure Okr (v : D) : Prop where
  fine : Fine v
  len : ∀ xs, v = .tup xs → xs.length ≤ 16777216
def nearR (w : Nat) (one : List Int) : List D :=
  [Ri one, .lst (one.map .int), .tup (one.map .int ++ [.int 0]), .tup (DL.cutD (one.map .int) (some 1) none), .tup (List.replicate w .non), .tup (List.replicate w (.bl true)), .non, .tup [], .tup (List.replicate w (.str "1")), .int 0, .dct []]
theorem okr_tup {xs : List D} (hl : xs.length ≤ 60) (h : ∀ x ∈ xs, Fine x) : Okr (.tup xs) := ⟨.tup xs h, fun ys e => by cases e; omega⟩
theorem fine_ints (xs : List Int) : ∀ x ∈ xs.map D.int, Fine x := fun x hx => by
  obtain ⟨y, _, rfl⟩ := List.mem_map.mp hx
  exact .int y
theorem nearR_ok {w : Nat} {one : List Int} (hw : w ≤ 7) (ho : one.length = w) : ∀ v ∈ nearR w one, Okr v := by
  have hc := cut_len (one.map .int) (some 1) none
  simp only [List.length_map] at hc
  intro v hv
  simp only [nearR, List.mem_cons, List.not_mem_nil, or_false] at hv
  rcases hv with rfl | rfl | rfl | rfl | rfl | rfl | rfl | rfl | rfl | rfl | rfl
  · exact okr_tup (by simp; omega) (fine_ints one)
  · exact ⟨.lst _ (fine_ints one), fun _ e => (nomatch e)⟩
  · exact okr_tup (by simp; omega) fun x hx => (List.mem_append.mp hx).elim (fine_ints one x) fun hx => by rw [List.mem_singleton.mp hx]; exact .int 0
  · exact okr_tup (by omega) fun x hx => fine_ints one x (cut_sub hx)
  · exact okr_tup (by simp; omega) fun x hx => by rw [List.eq_of_mem_replicate hx]; exact .non
  · exact okr_tup (by simp; omega) fun x hx => by rw [List.eq_of_mem_replicate hx]; exact .bl true
  · exact ⟨.non, fun _ e => (nomatch e)⟩
  · exact okr_tup (by simp) fun x hx => (nomatch hx)
  · exact okr_tup (by simp; omega) fun x hx => by rw [List.eq_of_mem_replicate hx]; exact .str _
  · exact ⟨.int 0, fun _ e => (nomatch e)⟩
  · exact ⟨.dct [], fun _ e => (nomatch e)⟩
section
variable {w : Nat} {one : List Int} {μ : List Cell} {a0 a3 a4 a5 a6 : DL.Slot}
theorem rightE (h1 : 1 ≤ w) (hw : w ≤ 7) (ho : one.length = w) :
    (dAsgO 7 (dLst (dCons (dVar 2) (dCons (dFrz (dBF gList (dCons (dVar 2) dNil))) (dCons (dOp gAdd (dVar 2) (dTup (dCons (dC (.int (0))) dNil))) (dCons (dSl (dVar 2) (dPart (dC (.int (1)))) dNo) (dCons (dOp gMul (dTup (dCons (dC .non) dNil)) (dVar 1)) (dCons (dOp gMul (dTup (dCons (dC (.bl true)) dNil)) (dVar 1)) (dCons (dC .non) (dCons (dTup dNil) (dCons (dOp gMul (dTup (dCons (dC (.str "1")) dNil)) (dVar 1)) (dCons (dC (.int (0))) (dCons (dFrz dEmp) dNil)))))))))))))
      ⟨[a0, .val (.int (w : Nat)), .val (Ri one), a3, a4, a5, a6, .no, .no, .no, .no], μ⟩ = .nx ⟨[a0, .val (.int (w : Nat)), .val (Ri one), a3, a4, a5, a6, .own (.lst (nearR w one)), .no, .no, .no], μ⟩ := by
  have a1 : ∀ s : S, gAdd s (.tup (one.map .int)) (.tup [.int 0]) = some (.tup (one.map .int ++ [.int 0])) := fun s => add_tt s _ _ (by simp; omega)
  have r1 : ∀ (s : S) (d : D), gMul s (.tup [d]) (.int (w : Nat)) = some (.tup (List.replicate w d)) := fun s d => rep_w h1 hw s d
  unfold nearR
  generalize (w : Int) = W at r1 ⊢
  simp [dSl, dNo, dPart, gList, a1, r1, dEmp, Cell.toD, -List.map_map]
theorem rightF {W : D} (hw : one.length ≤ 7) (h1 : 1 ≤ one.length) {V : List D} (hV : V.length ≤ 50) : ∃ v, Okr v ∧
    (dFrzS 7 (dDrop (dM "list" gAppend (dVar 7) (dCons (dOp gAdd (dSl (dVar 2) dNo (dPart (dNeg (dC (.int (1)))))) (dTup (dCons (dOp eqS (dOp gIx (dVar 2) (dNeg (dC (.int (1))))) (dC (.int (1)))) dNil))) dNil))))
      ⟨[a0, .val W, .val (Ri one), a3, a4, a5, a6, .own (.lst V), .no, .no, .no], μ⟩ = .nx ⟨[a0, .val W, .val (Ri one), a3, a4, a5, a6, .val (.lst (V ++ [v])), .no, .no, .no], μ⟩ := by
  have hc := cut_len (one.map .int) none (some (-1))
  simp only [List.length_map] at hc
  have ex : ∃ y : Int, ∀ s : S, gIx s (.tup (one.map .int)) (.int (-1)) = some (.int y) := by
    refine ⟨one[one.length - 1], fun s => ?_⟩
    have : -(one.length : Int) ≤ -1 := by omega
    have h3 : ((-1 : Int) + one.length).toNat = one.length - 1 := by omega
    simp [gIx, L2.atI, L2.ixN, this, h3, h1]
  obtain ⟨y, ey⟩ := ex
  have a1 : ∀ s : S, gAdd s (.tup (DL.cutD (one.map .int) none (some (-1)))) (.tup [.bl (y == 1)]) = some (.tup (DL.cutD (one.map .int) none (some (-1)) ++ [.bl (y == 1)])) := fun s => add_tt s _ _ (by simp; omega)
  have hl : V.length < 16777216 := by omega
  refine ⟨.tup (DL.cutD (one.map .int) none (some (-1)) ++ [.bl (y == 1)]), okr_tup (by simp; omega) fun x hx => (List.mem_append.mp hx).elim (fun hx => fine_ints one x (cut_sub hx)) fun hx => by rw [List.mem_singleton.mp hx]; exact .bl _, ?_⟩
  simp [dFrzS, frzAt, Cell.toD, dM, tyD, cellAt, kitB, gAppend, mutAt, setAt, dSl, dNo, dPart, ey, a1, hl, -List.map_map]
theorem rightG {F G : FF} {d1 : D} (n1 : noOwn d1 = true) : ∀ (V : List D) (a7 : DL.Slot), (∀ v ∈ V, noOwn v = true ∧ ∃ b : Bool, F [d1, v] μ = .ok (.bl b) μ ∧ G [d1, v] μ = .ok (.bl b) μ) →
    ∀ (a2 : DL.Slot), dLcGo [6] (gNm 6) (dCmpT neS (dB gRepr (dCons (dCall F (dCons (dVar 1) (dCons (dVar 6) dNil))) dNil)) (dB gRepr (dCons (dCall G (dCons (dVar 1) (dCons (dVar 6) dNil))) dNil))) (dVar 6) V ⟨[a0, .val d1, a2, a3, a4, a5, a6, a7, .no, .no, .no], μ⟩ = .ok [] ⟨[a0, .val d1, a2, a3, a4, a5, a6, a7, .no, .no, .no], μ⟩
  | [], _, _, _ => rfl
  | v :: V, a7, h, a2 => by
    obtain ⟨nv, b, e1, e2⟩ := h v (by simp)
    obtain ⟨x, ex⟩ := repr_bl b
    have ih := rightG n1 V a7 (fun u hu => h u (by simp [hu])) a2
    simp [dLcGo, wipeD, backD, e1, e2, nv, n1, ex, ih]
theorem rightGR {F G : FF} {d1 : D} {V : List D} {a2 : DL.Slot} (n1 : noOwn d1 = true) (hl : V.length ≤ 100) (h6 : isOwn [a0, .val d1, a2, a3, a4, a5, a6, .val (.lst V), .no, .no, .no] 6 = false) (h : ∀ v ∈ V, noOwn v = true ∧ ∃ b : Bool, F [d1, v] μ = .ok (.bl b) μ ∧ G [d1, v] μ = .ok (.bl b) μ) :
    dRet (dOp eqS (dFrz (dLc [6] (dIter (dVar 7)) (gNm 6) (dCmpT neS (dB gRepr (dCons (dCall F (dCons (dVar 1) (dCons (dVar 6) dNil))) dNil)) (dB gRepr (dCons (dCall G (dCons (dVar 1) (dCons (dVar 6) dNil))) dNil))) (dVar 6))) (dFrz (dLst dNil))) ⟨[a0, .val d1, a2, a3, a4, a5, a6, .val (.lst V), .no, .no, .no], μ⟩ = .rt (.bl true) ⟨[a0, .val d1, a2, a3, a4, a5, a6, .val (.lst V), .no, .no, .no], μ⟩ := by
  have e := rightG (a0 := a0) (a3 := a3) (a4 := a4) (a5 := a5) (a6 := a6) n1 V (.val (.lst V)) h a2
  have hl2 : V.length ≤ 16777216 := by omega
  have h7 : ∀ v : Nat, v ∈ [6] → isOwn [a0, .val d1, a2, a3, a4, a5, a6, .val (.lst V), .no, .no, .no] v = false := fun v hv => by rw [List.mem_singleton.mp hv]; exact h6
  simp [-isOwn_c, h6, hl2, e]
end
end K13

namespace K13
open PySem PySem.Spec PyProof.Rows L2 DL
theorem bd_zadd {n : Nat} : ∀ {xs ys : List Int}, Bd n xs → Bd n ys → Bd (n + 1) (zw (· + ·) xs ys)
  | [], ys, _, _ => by intro z hz; simp [zw] at hz
  | x :: xs, [], _, _ => by intro z hz; simp [zw] at hz
  | x :: xs, y :: ys, h1, h2 => by
    have ih := bd_zadd (xs := xs) (ys := ys) (fun z hz => h1 z (by simp [hz])) (fun z hz => h2 z (by simp [hz]))
    have a1 := h1 x (by simp)
    have a2 := h2 y (by simp)
    intro z hz
    unfold zw at hz
    rw [List.zipWith_cons_cons] at hz
    rcases List.mem_cons.mp hz with rfl | hz
    · rw [Nat.pow_succ]
      omega
    · exact ih z hz
theorem bd_mul {xs : List Int} {k : Int} {n m : Nat} (hk : k.natAbs < 2 ^ n) (h : Bd m xs) : Bd (n + m) (xs.map fun x => k * x) := by
  intro z hz
  obtain ⟨x, hx, rfl⟩ := List.mem_map.mp hz
  rw [Int.natAbs_mul, Nat.pow_add]
  exact Nat.mul_lt_mul'' hk (h x hx)
theorem dot_bd {n m : Nat} : ∀ {xs ys : List Int}, Bd n xs → Bd m ys → (zw (· * ·) xs ys).sum.natAbs ≤ xs.length * 2 ^ (n + m)
  | [], ys, _, _ => by simp [zw]
  | x :: xs, [], _, _ => by simp [zw]
  | x :: xs, y :: ys, h1, h2 => by
    have ih := dot_bd (xs := xs) (ys := ys) (fun z hz => h1 z (by simp [hz])) (fun z hz => h2 z (by simp [hz]))
    have a1 := h1 x (by simp)
    have a2 := h2 y (by simp)
    have a3 : (x * y).natAbs < 2 ^ (n + m) := by
      rw [Int.natAbs_mul, Nat.pow_add]
      exact Nat.mul_lt_mul'' a1 a2
    unfold zw at ih ⊢
    rw [List.zipWith_cons_cons, List.sum_cons, List.length_cons, Nat.add_mul, Nat.one_mul]
    have := Int.natAbs_add_le (x * y) (List.zipWith (· * ·) xs ys).sum
    omega
theorem zw_comm (xs ys : List Int) : zw (· * ·) ys xs = zw (· * ·) xs ys := by
  unfold zw
  rw [List.zipWith_comm]
  congr 1
  funext a b
  exact Int.mul_comm _ _
theorem gcdF_mul (c : Int) : ∀ (xs : List Int) (g : Nat), gcdF (c.natAbs * g) (xs.map fun x => c * x) = c.natAbs * gcdF g xs
  | [], g => rfl
  | x :: xs, g => by
    rw [List.map_cons, gcdF, gcdF, ← gcdF_mul c xs]
    congr 1
    show Nat.gcd ((c.natAbs * g : Nat) : Int).natAbs (c * x).natAbs = c.natAbs * Nat.gcd (g : Int).natAbs x.natAbs
    rw [Int.natAbs_mul, Int.natAbs_natCast, Int.natAbs_natCast, Nat.gcd_mul_left]
theorem gcdL_mul (c : Int) (xs : List Int) : gcdL (xs.map fun x => c * x) = c.natAbs * gcdL xs := gcdF_mul c xs 0
theorem lead_mul {c : Int} (hc : c ≠ 0) : ∀ xs : List Int, lead (xs.map fun x => c * x) = lead xs := fun xs => lead_congr fun j => by
  unfold at0
  rw [List.getD_eq_getElem?_getD, List.getD_eq_getElem?_getD, List.getElem?_map]
  cases xs[j]? with
  | none => simp
  | some y => simp [Int.mul_eq_zero, hc]
theorem leadV_mul {c : Int} (hc : c ≠ 0) (xs : List Int) : leadV (xs.map fun x => c * x) = c * leadV xs := by
  unfold leadV
  rw [lead_mul hc]
  cases lead xs with
  | none => simp
  | some i =>
    simp only [List.getD_eq_getElem?_getD, List.getElem?_map]
    cases xs[i]? <;> simp
theorem low_neg {c : Int} (hc : c < 0) (xs : List Int) : low (xs.map fun x => c * x) = low xs := by
  have hc0 : c ≠ 0 := by omega
  by_cases h : gcdL xs = 0
  · have hz := (gcdF_zero xs 0).mp h
    have e : xs.map (fun x => c * x) = xs := by
      conv => rhs; rw [← List.map_id xs]
      exact List.map_congr_left fun x hx => by rw [hz.2 x hx]; simp
    rw [e]
  · have h2 : gcdL (xs.map fun x => c * x) ≠ 0 := by
      rw [gcdL_mul]
      exact Nat.mul_ne_zero (by omega) h
    have lv : leadV xs ≠ 0 := fun z => h (by
      cases hl : lead xs with
      | none => exact gcdL_zero.mpr hl
      | some i =>
        obtain ⟨hi, hn⟩ := lead_some hl
        unfold leadV at z
        rw [hl] at z
        simp [List.getD_eq_getElem?_getD, hi] at z
        exact absurd z hn)
    have hs : sgn (xs.map fun x => c * x) = c * sgn xs := by
      unfold sgn
      rw [leadV_mul hc0, gcdL_mul]
      have hca : (c.natAbs : Int) = -c := by omega
      by_cases hn : leadV xs < 0
      · have : ¬ (c * leadV xs < 0) := by
          have := Int.mul_pos_of_neg_of_neg hc hn
          omega
        rw [if_neg this, if_pos hn, Int.natCast_mul, hca, Int.neg_mul, Int.mul_neg]
      · have : c * leadV xs < 0 := Int.mul_neg_of_neg_of_pos hc (by omega)
        rw [if_pos this, if_neg hn, Int.natCast_mul, hca, Int.neg_mul, Int.neg_neg]
    unfold low
    rw [if_neg h2, if_neg h, hs, List.map_map]
    refine List.map_congr_left fun x hx => ?_
    obtain ⟨q, hq⟩ := sgn_dvd hx
    have s0 := sgn_ne h
    show (c * x).fdiv (c * sgn xs) = x.fdiv (sgn xs)
    generalize sgn xs = s at *
    rw [hq, ← Int.mul_assoc, Int.mul_fdiv_cancel_left _ (Int.mul_ne_zero hc0 s0), Int.mul_fdiv_cancel_left _ s0]
theorem is_lot_ok {w : Nat} (h1 : 1 ≤ w) (hw : w ≤ 60) {v : D} (h : Okv w v) (μ : List Cell) : F_is_lot [.int w, v] μ = .ok (.bl (lotB w (LL w) v)) μ := by
  have e := is_plain_lot_ok hw h μ
  rw [lotB_agree] at e
  generalize lotB w (LL w) v = b at e
  simp [F_is_lot, b_is_lot, runF, require_width_ok h1 hw, e, h.fine.no]
theorem is_row_ok {w : Nat} (h1 : 1 ≤ w) (hw : w ≤ 60) {v : D} (h : Okr v) (μ : List Cell) : F_is_row [.int w, v] μ = .ok (.bl (rowB w v)) μ := by
  have e := is_plain_row_ok (w := w) h.fine h.len μ
  generalize rowB w v = b at e
  simp [F_is_row, b_is_row, runF, require_width_ok h1 hw, e, h.fine.no]
end K13

namespace K13
open PySem PySem.Spec PyProof.Rows L2 DL
theorem seq_nx {f g : FS} {s s1 : S} (h : f s = .nx s1) : dSeq f g s = g s1 := by rw [ap_Seq, h]
theorem runF_rt2 {b : FS} {d0 d1 v : D} {s : S} {μ : List Cell} (h : b ⟨[.val d0, .val d1, .no, .no, .no, .no, .no, .no, .no, .no, .no], μ⟩ = .rt v s) : runF b 11 [d0, d1] μ = .ok v s.μ := by
  show (match b ⟨[.val d0, .val d1, .no, .no, .no, .no, .no, .no, .no, .no, .no], μ⟩ with
    | .nx s => CR.ok .non s.μ
    | .rt d s => .ok d s.μ
    | .rtc c s => .okc c s.μ
    | .exc e s => .exc e s.μ
    | _ => .bad) = _
  rw [h]
def picks : List Int := [0, 1, -1, 3, 10 ^ 25]
theorem pick_bd {x : Int} (h : x ∈ picks) : x.natAbs < 2 ^ 100 := by
  simp only [picks, List.mem_cons, List.not_mem_nil, or_false] at h
  rcases h with rfl | rfl | rfl | rfl | rfl <;> simp
theorem nb_small {t : Nat} (h : t ≤ 3) : nb 101 t 1 0 ≤ 7000 := by
  have : t = 0 ∨ t = 1 ∨ t = 2 ∨ t = 3 := by omega
  rcases this with rfl | rfl | rfl | rfl <;> decide
theorem right_ok {c n w : Nat} {μ : List Cell} (hd : Dc c n μ) (hc : c ≤ 5000) (h1 : 1 ≤ w) (hw : w ≤ 7) : ∃ μ', F_L_right [.ref n, .int (w : Nat)] μ = .ok (.bl true) μ' ∧ Dc (c + 100) n μ' := by
  have hw60 : w ≤ 60 := by omega
  obtain ⟨one, μ1, e1, l1, b1, d1⟩ := drawn_ok hd (by omega) hw60
  obtain ⟨two, μ2, e2, l2, b2, d2⟩ := drawn_ok d1 (by omega) hw60
  obtain ⟨k, hk, μ3, e3, d3⟩ := pick_ok (xs := picks) d2 (by omega) (by decide) (by decide)
  have kb := pick_bd hk
  have l12 : one.length = two.length := by omega
  have p1 := row_plus_ok h1 hw60 l1 l2 μ3
  obtain ⟨x1, q1⟩ := repr_row (xs := zw (· + ·) one two) ((bd_zadd b1 b2).mono (by decide)) (by rw [zw_len l12]; omega)
  have s1 := rightB1 (n := n) (k := k) (w := (w : Int)) (by omega) p1 q1
  have p2 := row_times_ok h1 hw60 l1 (n := 100) (m := 101) (by decide) (by decide) (by decide) kb b1 μ3
  obtain ⟨x2, q2⟩ := repr_row (xs := one.map fun x => k * x) ((bd_mul kb b1).mono (by decide)) (by rw [List.length_map]; omega)
  have s2 := rightB2 (n := n) (two := two) (w := (w : Int)) (p := 100) (m := 101) (by decide) (by decide) (by decide) kb b1 (by omega) p2 q2
  have b8 := b1.mono (by decide : 101 ≤ 8000)
  have p3 := product_ok h1 hw60 l1 l2 (n := 101) (m := 101) (by decide) (by decide) (by decide) b1 b2 μ3
  have p4 := lowest_ok h1 hw60 l1 b8 μ3
  have p5 := L_dot_ok (n := 101) (m := 101) (by decide) (by decide) (by decide) b1 b2 (by omega) μ3
  have p6 := L_lowest_ok b8 (by omega) μ3
  have db := dot_bd b1 b2
  have db2 : (zw (· * ·) one two).sum.natAbs < 2 ^ 1900 := by
    refine Nat.lt_of_le_of_lt db (Nat.lt_of_lt_of_le (m := 2 ^ 3 * 2 ^ (101 + 101)) ?_ ?_)
    · exact Nat.mul_lt_mul_of_pos_right (by omega) (Nat.two_pow_pos _)
    · rw [← Nat.pow_add]
      exact Nat.pow_le_pow_right (by decide) (by decide)
  obtain ⟨x3, q3⟩ := repr_pair (xs := low one) db2 (low_bd (b1.mono (by decide))) (by rw [low_len]; omega)
  have s3 := rightB3 (n := n) (k := k) (w := (w : Int)) p3 p4 p5 p6 q3
  have b7 := bd_mul (k := -7) (n := 3) (by decide) b1
  have p7 := row_times_ok h1 hw60 l1 (k := -7) (n := 3) (m := 101) (by decide) (by decide) (by decide) (by decide) b1 μ3
  have p8 := lowest_ok h1 hw60 (xs := one.map fun x => -7 * x) (by rw [List.length_map]; exact l1) (b7.mono (by decide)) μ3
  rw [low_neg (by decide)] at p8
  have p9 := product_ok h1 hw60 l2 l1 (n := 101) (m := 101) (by decide) (by decide) (by decide) b2 b1 μ3
  rw [zw_comm] at p9
  have s4 := rightB4 (n := n) (k := k) (w := (w : Int)) p7 p8 p6 p9 p5
  obtain ⟨r, μ4, e4, hr, d4⟩ := roll_ok (t := 4) d3 (by omega) (by decide) (by decide)
  obtain ⟨rows, μ5, l5, b5, d5, e5⟩ := lot_draw (F := F_L_drawn) (n := n) (w := w) (k := k) (one := one) (two := two) (fun c μ h hc => drawn_ok h hc hw60) hw (rngD 0 r) _ μ4 d4 (by rw [rng_len]; omega)
  rw [rng_len] at l5 d5
  have hr3 : rows.length ≤ 3 := by omega
  have hnb := nb_small hr3
  obtain ⟨m, e6, Lm, hml⟩ := lot_of_ok h1 hw60 (r := 101) (by decide) b5 (by omega) (by omega) μ5
  have hm : ∀ r ∈ m, r.length = w ∧ Bd 7000 r := fun r hr => ⟨Lm.len r hr, (Lm.bd r hr).mono hnb⟩
  have s5 := rightC (F := F_L_drawn) (G := F_L_roll) (H := F_lot_of) (one := one) (two := two) (k := k) (by omega : r ≤ 60) e4 e5 e6
  obtain ⟨V, μ6, e7, lV, hV, d7⟩ := near_ok d5 (by omega) hm (by omega) h1 hw
  obtain ⟨c6, hc6, s6⟩ := rightDI (F := F_is_lot) (G := F_L_is_lot) (H := F_L_near) (d2 := Ri one) (d3 := Ri two) (d4 := .int k) (c7 := .no) (c8 := .no) (c9 := .no) (c10 := .no) rfl rfl rfl e7 (fun v hv => ⟨(hV v hv).fine.no, _, is_lot_ok h1 hw60 (hV v hv) μ6, is_lotL_ok hw60 (hV v hv) μ6⟩)
  have s7 := rightE (μ := μ6) (a0 := .val (.ref n)) (a3 := .val (Ri two)) (a4 := .val (.int k)) (a5 := .val (.tup (m.map Ri))) (a6 := c6) h1 hw l1
  obtain ⟨v, hv, s8⟩ := rightF (μ := μ6) (a0 := .val (.ref n)) (a3 := .val (Ri two)) (a4 := .val (.int k)) (a5 := .val (.tup (m.map Ri))) (a6 := c6) (W := .int (w : Nat)) (one := one) (by omega) (by omega) (V := nearR w one) (by simp [nearR])
  refine ⟨μ6, ?_, d7.mono (by omega)⟩
  refine runF_rt2 (s := ⟨[.val (.ref n), .val (.int (w : Nat)), .val (Ri one), .val (Ri two), .val (.int k), .val (.tup (m.map Ri)), c6, .val (.lst (nearR w one ++ [v])), .no, .no, .no], μ6⟩) ?_
  unfold b_L_right
  rw [seq_nx (rightA pow25 e1 e2 e3), seq_nx s1, seq_nx s2, seq_nx s3, seq_nx s4, seq_nx s5, seq_nx s6, seq_nx s7, seq_nx s8]
  refine rightGR rfl (by simp [nearR]) ?_ fun u hu => ?_
  · rcases hc6 with rfl | ⟨y, rfl⟩ <;> rfl
  · have ok : Okr u := by
      rcases List.mem_append.mp hu with hu | hu
      · exact nearR_ok hw l1 u hu
      · rw [List.mem_singleton.mp hu]; exact hv
    exact ⟨ok.fine.no, _, is_row_ok h1 hw60 ok μ6, L_is_row_ok ok.fine ok.len μ6⟩
end K13

namespace K13
open PySem PySem.Spec PyProof.Rows L2 DL
theorem law_in {F G : FF} {n : Nat} (hG : ∀ (c : Nat) (μ : List Cell), Dc c n μ → c ≤ 5000 → ∃ (r : Nat) (μ' : List Cell), G [.ref n, .int 7] μ = .ok (.int r) μ' ∧ (r : Int) < 7 ∧ Dc (c + 1) n μ')
    (hF : ∀ (c w : Nat) (μ : List Cell), Dc c n μ → c ≤ 5000 → 1 ≤ w → w ≤ 7 → ∃ μ', F [.ref n, .int (w : Nat)] μ = .ok (.bl true) μ' ∧ Dc (c + 100) n μ') {a0 a1 a4 : DL.Slot} :
    ∀ (ds : List D) (c : Nat) (μ : List Cell) (a3 : DL.Slot), Dc c n μ → c + 101 * ds.length ≤ 4000 → ∃ (a3' : DL.Slot) (μ' : List Cell),
      dFor (gNm 3) (dIfS (dNotT (dTruth (dCall F (dCons (dVar 2) (dCons (dOp gAdd (dC (.int (1))) (dCall G (dCons (dVar 2) (dCons (dC (.int (7))) dNil)))) dNil))))) (dRet (dC (.bl false))) dSkip) ds ⟨[a0, a1, .val (.ref n), a3, a4], μ⟩ = .nx ⟨[a0, a1, .val (.ref n), a3', a4], μ'⟩
  | [], c, μ, a3, _, _ => ⟨a3, μ, rfl⟩
  | d :: ds, c, μ, a3, hd, hc => by
    have hc : c + 101 * (ds.length + 1) ≤ 4000 := hc
    obtain ⟨r, μ1, e1, hr, d1⟩ := hG c μ hd (by omega)
    obtain ⟨μ2, e2, d2⟩ := hF (c + 1) (1 + r) μ1 d1 (by omega) (by omega) (by omega)
    obtain ⟨a3', μ', e⟩ := law_in hG hF (a0 := a0) (a1 := a1) (a4 := a4) ds (c + 101) μ2 (.val d) (d2.mono (by omega)) (by omega)
    refine ⟨a3', μ', ?_⟩
    have e3 : F [.ref n, .int (1 + (r : Int))] μ1 = .ok (.bl true) μ2 := by
      rw [← e2]
      congr 3
    simp [dFor, e1, e3, e]
def lawIn (F G : FF) : FS := dForI (dRng1 (dCons (dC (.int (4))) dNil)) (gNm 3) (dIfS (dNotT (dTruth (dCall F (dCons (dVar 2) (dCons (dOp gAdd (dC (.int (1))) (dCall G (dCons (dVar 2) (dCons (dC (.int (7))) dNil)))) dNil))))) (dRet (dC (.bl false))) dSkip)
theorem law_out {F G H : FF} {xs : List D} (hH : ∀ (i : Nat) (μ : List Cell), i ≤ 6 → ∃ p q : Int, H [.lst xs, .int i] μ = .okc (.lst [.int p, .int q, .int 0]) μ)
    (hG : ∀ (n c : Nat) (μ : List Cell), Dc c n μ → c ≤ 5000 → ∃ (r : Nat) (μ' : List Cell), G [.ref n, .int 7] μ = .ok (.int r) μ' ∧ (r : Int) < 7 ∧ Dc (c + 1) n μ')
    (hF : ∀ (n c w : Nat) (μ : List Cell), Dc c n μ → c ≤ 5000 → 1 ≤ w → w ≤ 7 → ∃ μ', F [.ref n, .int (w : Nat)] μ = .ok (.bl true) μ' ∧ Dc (c + 100) n μ') {a4 : DL.Slot} :
    ∀ (ds : List D) (μ : List Cell) (a1 a2 a3 : DL.Slot), (∀ d ∈ ds, ∃ i : Nat, d = .int i ∧ i ≤ 6) → (∀ c, a2 ≠ .own c) → ∃ (a1' a2' a3' : DL.Slot) (μ' : List Cell),
      dFor (gNm 1) (dSeq (dAsgR 2 (dCallF H (dCons (dVar 0) (dCons (dVar 1) dNil)))) (lawIn F G)) ds ⟨[.val (.lst xs), a1, a2, a3, a4], μ⟩ = .nx ⟨[.val (.lst xs), a1', a2', a3', a4], μ'⟩
  | [], μ, a1, a2, a3, _, _ => ⟨a1, a2, a3, μ, rfl⟩
  | d :: ds, μ, a1, a2, a3, h, h2 => by
    obtain ⟨i, rfl, hi⟩ := h d (by simp)
    obtain ⟨p, q, e1⟩ := hH i μ hi
    have hd : Dc 0 μ.length (μ ++ [.lst [.int p, .int q, .int 0]]) := ⟨p, q, 0, by simp, by omega, by omega⟩
    obtain ⟨a3', μ1, e2⟩ := law_in (hG μ.length) (hF μ.length) (a0 := .val (.lst xs)) (a1 := .val (.int i)) (a4 := a4) (rngD 0 4) 0 _ a3 hd (by decide)
    obtain ⟨b1, b2, b3, μ', e3⟩ := law_out hH hG hF (a4 := a4) ds μ1 (.val (.int i)) (.val (.ref μ.length)) a3' (fun x hx => h x (by simp [hx])) (fun c z => by cases z)
    refine ⟨b1, b2, b3, μ', ?_⟩
    have er : ∀ s : S, dRng1 (dCons (dC (.int (4))) dNil) s = .ok (rngD 0 4) s := fun s => rfl
    have ein : lawIn F G ⟨[.val (.lst xs), .val (.int i), .val (.ref μ.length), a3, a4], μ ++ [.lst [.int p, .int q, .int 0]]⟩ = .nx ⟨[.val (.lst xs), .val (.int i), .val (.ref μ.length), a3', a4], μ1⟩ := by
      unfold lawIn dForI
      rw [er]
      exact e2
    simp [dFor, dAsgR, e1, ein, e3]
theorem repr_of {d : D} {p : PyData} (hp : ∀ s : S, toPyS s d = some p) (h1 : PyData.leavesShort 1921 p = true) (h2 : p.bulk ≤ 1000) (h3 : p.showable = true) (h4 : p.depth ≤ 60) (h5 : p.hasDict = false) : ∃ x, ∀ s : S, gRepr s [d] = some (.str x) := by
  refine ⟨p.shown, fun s => ?_⟩
  have e1 := PyData.shown_le_bulk 1921 (by decide) p h1
  have e5 : p.shown.length ≤ 16777216 := by omega
  simp [gRepr, shownD, hp s, h3, h4, h5, e5]
theorem told_bd (x : Int) (h : x.natAbs < 2 ^ 2) : x.natAbs < 2 ^ 1900 := Nat.lt_of_lt_of_le h (Nat.pow_le_pow_right (by decide) (by decide))
theorem told_repr : ∃ x, ∀ s : S, gRepr s [.lst [Ri [0, 3, -2], Ri [0, 0], .int 2, .bl false, .bl true]] = some (.str x) :=
  repr_of (p := .list [.tuple [.int 0, .int 3, .int (-2)], .tuple [.int 0, .int 0], .int 2, .bool false, .bool true]) (fun s => rfl)
    (by
      have a := short_ints [0, 3, -2] (fun x hx => told_bd x (by simp at hx ⊢; omega))
      have b := short_ints [0, 0] (fun x hx => told_bd x (by simp at hx ⊢; omega))
      have c := short_int (x := 2) (told_bd 2 (by decide))
      simp only [List.map_cons, List.map_nil] at a b
      have a2 : PyData.leavesShort 1921 (.tuple [.int 0, .int 3, .int (-2)]) = true := by rw [PyData.leavesShort]; exact a
      have b2 : PyData.leavesShort 1921 (.tuple [.int 0, .int 0]) = true := by rw [PyData.leavesShort]; exact b
      have t2 : ∀ b : Bool, PyData.leavesShort 1921 (.bool b) = true := fun b => by rw [PyData.leavesShort]
      rw [PyData.leavesShort, PyData.leavesShortAll, PyData.leavesShortAll, PyData.leavesShortAll, PyData.leavesShortAll, PyData.leavesShortAll, PyData.leavesShortAll, a2, b2, c, t2, t2]
      rfl)
    (by decide) (by decide) (by decide) (by decide)
end K13

namespace K13
open PySem PySem.Spec PyProof.Rows L2 DL
def lawTold (F P I : FF) : FS := (dSeq (dAsg 4 (dFrz (dLst (dCons (dCall F (dCons (dC (.int (3))) (dCons (dTup (dCons (dC (.int (0))) (dCons (dNeg (dC (.int (6)))) (dCons (dC (.int (4))) dNil)))) dNil))) (dCons (dCall F (dCons (dC (.int (2))) (dCons (dTup (dCons (dC (.int (0))) (dCons (dC (.int (0))) dNil))) dNil))) (dCons (dCall P (dCons (dC (.int (2))) (dCons (dTup (dCons (dC (.int (2))) (dCons (dNeg (dC (.int (1)))) dNil))) (dCons (dTup (dCons (dC (.int (3))) (dCons (dC (.int (4))) dNil))) dNil)))) (dCons (dCall I (dCons (dC (.int (2))) (dCons (dTup (dCons (dTup (dCons (dC (.int (2))) (dCons (dC (.int (4))) dNil))) dNil)) dNil))) (dCons (dCall I (dCons (dC (.int (60))) (dCons (dTup dNil) dNil))) dNil))))))))
    (dRet (dOp eqS (dB gRepr (dCons (dVar 4) dNil)) (dB gRepr (dCons (dFrz (dLst (dCons (dTup (dCons (dC (.int (0))) (dCons (dC (.int (3))) (dCons (dNeg (dC (.int (2)))) dNil)))) (dCons (dTup (dCons (dC (.int (0))) (dCons (dC (.int (0))) dNil))) (dCons (dC (.int (2))) (dCons (dC (.bl false)) (dCons (dC (.bl true)) dNil))))))) dNil)))))
theorem told_ok {F P I : FF} {a0 a1 a2 a3 : DL.Slot} {μ : List Cell} (e1 : F [.int 3, .tup [.int 0, .int (-6), .int 4]] μ = .ok (.tup [.int 0, .int 3, .int (-2)]) μ) (e2 : F [.int 2, .tup [.int 0, .int 0]] μ = .ok (.tup [.int 0, .int 0]) μ)
    (e3 : P [.int 2, .tup [.int 2, .int (-1)], .tup [.int 3, .int 4]] μ = .ok (.int 2) μ) (e4 : I [.int 2, .tup [.tup [.int 2, .int 4]]] μ = .ok (.bl false) μ) (e5 : I [.int 60, .tup []] μ = .ok (.bl true) μ) : ∃ s, lawTold F P I ⟨[a0, a1, a2, a3, .no], μ⟩ = .rt (.bl true) s ∧ s.μ = μ := by
  obtain ⟨x, ex⟩ := told_repr
  simp only [Ri, List.map_cons, List.map_nil] at ex
  exact ⟨_, by simp [lawTold, e1, e2, e3, e4, e5, ex]; rfl, rfl⟩
theorem f1 (μ : List Cell) : F_lowest [.int 3, .tup [.int 0, .int (-6), .int 4]] μ = .ok (.tup [.int 0, .int 3, .int (-2)]) μ := by
  have := lowest_ok (w := 3) (xs := [0, -6, 4]) (by decide) (by decide) rfl (fun x hx => Nat.lt_of_lt_of_le (m := 2 ^ 3) (by simp at hx; omega) (Nat.pow_le_pow_right (by decide) (by decide))) μ
  have e : low [0, -6, 4] = [0, 3, -2] := by decide
  rw [e] at this
  exact this
theorem f2 (μ : List Cell) : F_lowest [.int 2, .tup [.int 0, .int 0]] μ = .ok (.tup [.int 0, .int 0]) μ := by
  have := lowest_ok (w := 2) (xs := [0, 0]) (by decide) (by decide) rfl (fun x hx => Nat.lt_of_lt_of_le (m := 2 ^ 3) (by simp at hx; omega) (Nat.pow_le_pow_right (by decide) (by decide))) μ
  have e : low [0, 0] = [0, 0] := by decide
  rw [e] at this
  exact this
theorem f3 (μ : List Cell) : F_product [.int 2, .tup [.int 2, .int (-1)], .tup [.int 3, .int 4]] μ = .ok (.int 2) μ :=
  product_ok (w := 2) (xs := [2, -1]) (ys := [3, 4]) (n := 3) (m := 3) (by decide) (by decide) rfl rfl (by decide) (by decide) (by decide) (fun x hx => by simp at hx; omega) (fun x hx => by simp at hx; omega) μ
theorem f4 (μ : List Cell) : F_is_lot [.int 2, .tup [.tup [.int 2, .int 4]]] μ = .ok (.bl false) μ := by
  have := is_lot_ok (w := 2) (v := .tup [Ri [2, 4]]) (by decide) (by decide) (okv_tup (by decide) fun d hd => by
    rw [List.mem_singleton.mp hd]
    exact el_row (fun x hx => Nat.lt_of_lt_of_le (m := 2 ^ 3) (by simp at hx; omega) (Nat.pow_le_pow_right (by decide) (by decide))) (by decide)) μ
  have e : lotB 2 (LL 2) (.tup [Ri [2, 4]]) = false := by decide
  rw [e] at this
  exact this
theorem f5 (μ : List Cell) : F_is_lot [.int 60, .tup []] μ = .ok (.bl true) μ := by
  have := is_lot_ok (w := 60) (v := .tup []) (by decide) (by decide) (okv_tup (by decide) fun d hd => (nomatch hd)) μ
  have e : lotB 60 (LL 60) (.tup []) = true := by decide
  rw [e] at this
  exact this
theorem law_gen {F G H L P I : FF} {xs : List D} {j : Int} (hj : 0 ≤ j) (hj2 : j ≤ 6) (hs : smallI j = true) {μ : List Cell} (fr : FA) (efr : fr ⟨[.val (.lst xs), .no, .no, .no, .no], μ⟩ = .ok [.int j] ⟨[.val (.lst xs), .no, .no, .no, .no], μ⟩)
    (hH : ∀ (i : Nat) (μ : List Cell), i ≤ 6 → ∃ p q : Int, H [.lst xs, .int i] μ = .okc (.lst [.int p, .int q, .int 0]) μ)
    (hG : ∀ (n c : Nat) (μ : List Cell), Dc c n μ → c ≤ 5000 → ∃ (r : Nat) (μ' : List Cell), G [.ref n, .int 7] μ = .ok (.int r) μ' ∧ (r : Int) < 7 ∧ Dc (c + 1) n μ')
    (hF : ∀ (n c w : Nat) (μ : List Cell), Dc c n μ → c ≤ 5000 → 1 ≤ w → w ≤ 7 → ∃ μ', F [.ref n, .int (w : Nat)] μ = .ok (.bl true) μ' ∧ Dc (c + 100) n μ')
    (hT : ∀ (a0 a1 a2 a3 : DL.Slot) (μ : List Cell), ∃ s, lawTold L P I ⟨[a0, a1, a2, a3, .no], μ⟩ = .rt (.bl true) s ∧ s.μ = μ) :
    ∃ s, dSeq (dForI (dRng1 fr) (gNm 1) (dSeq (dAsgR 2 (dCallF H (dCons (dVar 0) (dCons (dVar 1) dNil)))) (lawIn F G))) (lawTold L P I) ⟨[.val (.lst xs), .no, .no, .no, .no], μ⟩ = .rt (.bl true) s := by
  have er := rng_gen efr hs
  obtain ⟨b1, b2, b3, μ', e⟩ := law_out hH hG hF (a4 := .no) (rngD 0 j.toNat) μ .no .no .no (fun d hd => by
    unfold rngD at hd
    obtain ⟨i, hi, rfl⟩ := List.mem_map.mp hd
    have := List.mem_range.mp hi
    exact ⟨i, by simp, by omega⟩) (fun c z => by cases z)
  obtain ⟨s, e2, _⟩ := hT (.val (.lst xs)) b1 b2 b3 μ'
  refine ⟨s, ?_⟩
  rw [ap_Seq]
  unfold dForI
  rw [er]
  show (match dFor (gNm 1) (dSeq (dAsgR 2 (dCallF H (dCons (dVar 0) (dCons (dVar 1) dNil)))) (lawIn F G)) (rngD 0 j.toNat) ⟨[.val (.lst xs), .no, .no, .no, .no], μ⟩ with | .nx s1 => lawTold L P I s1 | r => r) = _
  rw [e]
  exact e2
theorem law_run {b : FS} {d0 v : D} {s : S} {μ : List Cell} (h : b ⟨[.val d0, .no, .no, .no, .no], μ⟩ = .rt v s) : ∃ μ', runF b 5 [d0] μ = .ok v μ' := by
  refine ⟨s.μ, ?_⟩
  show (match b ⟨[.val d0, .no, .no, .no, .no], μ⟩ with
    | .nx s => CR.ok .non s.μ
    | .rt d s => .ok d s.μ
    | .rtc c s => .okc c s.μ
    | .exc e s => .exc e s.μ
    | _ => .bad) = _
  rw [h]
theorem law_holds : ∀ ns : List Int, ns.length ≤ 63 → ∃ μ, F_law [.lst (ns.map .int)] [] = .ok (.bl true) μ := by
  intro ns hl
  have hl2 : ns.length ≤ 16777216 := by omega
  have efr : ∃ j : Int, 0 ≤ j ∧ j ≤ 6 ∧ (dCons (dB gMax2 (dCons (dC (.int (1))) (dCons (dB gMin2 (dCons (dC (.int (6))) (dCons (dB gLen (dCons (dVar 0) dNil)) dNil))) dNil))) dNil) ⟨[.val (.lst (ns.map .int)), .no, .no, .no, .no], []⟩ = .ok [.int j] ⟨[.val (.lst (ns.map .int)), .no, .no, .no, .no], []⟩ := by
    refine ⟨if (if (ns.length : Int) < 6 then (ns.length : Int) else 6) > 1 then (if (ns.length : Int) < 6 then (ns.length : Int) else 6) else 1, by split <;> (try split) <;> omega, by split <;> (try split) <;> omega, ?_⟩
    simp [gMax2, gMin2, gLen, hl2]
  obtain ⟨j, h0, h6, e⟩ := efr
  obtain ⟨s, es⟩ := law_gen (F := F_L_right) (G := F_L_roll) (H := F_L_dice) (L := F_lowest) (P := F_product) (I := F_is_lot) h0 h6 (by simp [smallI]; omega) _ e (fun i μ hi => dice_ok hl hi)
    (fun n c μ hd hc => by
      obtain ⟨r, μ', e, h, d⟩ := roll_ok (t := 7) hd (by omega) (by decide) (by decide)
      exact ⟨r, μ', e, h, d⟩)
    (fun n c w μ hd hc h1 h2 => right_ok hd hc h1 h2) (fun a0 a1 a2 a3 μ => told_ok (f1 μ) (f2 μ) (f3 μ) (f4 μ) (f5 μ))
  exact law_run es
end K13

open PySem PySem.W PyProof.Rows in
set_option maxRecDepth 100000 in
set_option maxHeartbeats 0 in
theorem PySem.Challenge.cw_anywaybuilt_k13_whole_rows_holds : PySem.Challenge.rw_anywaybuilt_k13_whole_rows.Holds := by
  w_on; o_law; k_head; (case hw => w_witness2)
  k_fill
  refine DL.walkG (l := PySem.Challenge.rw_anywaybuilt_k13_whole_rows) (k := 8) rfl (by decide) rfl ⟨rfl, by decide, by decide⟩ (fun w h Y => PySem.W.kIn_of Y) ?F K13.law_holds
  case F =>
    intro w mg fa h KX G hmg base _ _
    refine' K13.all_mk KX G ?a0 ?l0 ?c0 ?k0 ?a1 ?l1 ?c1 ?k1 ?a2 ?l2 ?c2 ?k2 ?a3 ?l3 ?c3 ?k3 ?a4 ?l4 ?c4 ?k4 ?a5 ?l5 ?c5 ?k5 ?a6 ?l6 ?c6 ?k6 ?a7 ?l7 ?c7 ?k7 ?a8 ?l8 ?c8 ?k8 ?a9 ?l9 ?c9 ?k9 ?a10 ?l10 ?c10 ?k10 ?a11 ?l11 ?c11 ?k11 ?a12 ?l12 ?c12 ?k12 ?a13 ?l13 ?c13 ?k13 ?a14 ?l14 ?c14 ?k14 ?a15 ?l15 ?c15 ?k15 ?a16 ?l16 ?c16 ?k16 ?a17 ?l17 ?c17 ?k17 ?a18 ?l18 ?c18 ?k18 ?a19 ?l19 ?c19 ?k19 ?a20 ?l20 ?c20 ?k20 ?a21 ?l21 ?c21 ?k21 ?a22 ?l22 ?c22 ?k22 ?a23 ?l23 ?c23 ?k23 ?a24 ?l24 ?c24 ?k24 ?a25 ?l25 ?c25 ?k25 ?a26 ?l26 ?c26 ?k26 ?a27 ?l27 ?c27 ?k27 ?a28 ?l28 ?c28 ?k28 ?a29 ?l29 ?c29 ?k29 ?a30 ?l30 ?c30 ?k30 ?a31 ?l31 ?c31 ?k31 ?a32 ?l32 ?c32 ?k32 ?a33 ?l33 ?c33 ?k33 ?a34 ?l34 ?c34 ?k34 ?a35 ?l35 ?c35 ?k35 ?z_abs ?z_all ?z_any ?z_bool ?z_enumerate ?z_int ?z_isinstance ?z_len ?z_list ?z_max ?z_min ?z_range ?z_repr ?z_set ?z_sorted ?z_sum ?z_tuple ?z_zip ?e_MAX_WIDTH
    (case a0 => k_is)
    (case l0 => k_is)
    (case c0 => k_is)
    (case k0 => k_is)
    (case a1 => k_is)
    (case l1 => k_is)
    (case c1 => k_is)
    (case k1 => k_is)
    (case a2 => k_is)
    (case l2 => k_is)
    (case c2 => k_is)
    (case k2 => k_is)
    (case a3 => k_is)
    (case l3 => k_is)
    (case c3 => k_is)
    (case k3 => k_is)
    (case a4 => k_is)
    (case l4 => k_is)
    (case c4 => k_is)
    (case k4 => k_is)
    (case a5 => k_is)
    (case l5 => k_is)
    (case c5 => k_is)
    (case k5 => k_is)
    (case a6 => k_is)
    (case l6 => k_is)
    (case c6 => k_is)
    (case k6 => k_is)
    (case a7 => k_is)
    (case l7 => k_is)
    (case c7 => k_is)
    (case k7 => k_is)
    (case a8 => k_is)
    (case l8 => k_is)
    (case c8 => k_is)
    (case k8 => k_is)
    (case a9 => k_is)
    (case l9 => k_is)
    (case c9 => k_is)
    (case k9 => k_is)
    (case a10 => k_is)
    (case l10 => k_is)
    (case c10 => k_is)
    (case k10 => k_is)
    (case a11 => k_is)
    (case l11 => k_is)
    (case c11 => k_is)
    (case k11 => k_is)
    (case a12 => k_is)
    (case l12 => k_is)
    (case c12 => k_is)
    (case k12 => k_is)
    (case a13 => k_is)
    (case l13 => k_is)
    (case c13 => k_is)
    (case k13 => k_is)
    (case a14 => k_is)
    (case l14 => k_is)
    (case c14 => k_is)
    (case k14 => k_is)
    (case a15 => k_is)
    (case l15 => k_is)
    (case c15 => k_is)
    (case k15 => k_is)
    (case a16 => k_is)
    (case l16 => k_is)
    (case c16 => k_is)
    (case k16 => k_is)
    (case a17 => k_is)
    (case l17 => k_is)
    (case c17 => k_is)
    (case k17 => k_is)
    (case a18 => k_is)
    (case l18 => k_is)
    (case c18 => k_is)
    (case k18 => k_is)
    (case a19 => k_is)
    (case l19 => k_is)
    (case c19 => k_is)
    (case k19 => k_is)
    (case a20 => k_is)
    (case l20 => k_is)
    (case c20 => k_is)
    (case k20 => k_is)
    (case a21 => k_is)
    (case l21 => k_is)
    (case c21 => k_is)
    (case k21 => k_is)
    (case a22 => k_is)
    (case l22 => k_is)
    (case c22 => k_is)
    (case k22 => k_is)
    (case a23 => k_is)
    (case l23 => k_is)
    (case c23 => k_is)
    (case k23 => k_is)
    (case a24 => k_is)
    (case l24 => k_is)
    (case c24 => k_is)
    (case k24 => k_is)
    (case a25 => k_is)
    (case l25 => k_is)
    (case c25 => k_is)
    (case k25 => k_is)
    (case a26 => k_is)
    (case l26 => k_is)
    (case c26 => k_is)
    (case k26 => k_is)
    (case a27 => k_is)
    (case l27 => k_is)
    (case c27 => k_is)
    (case k27 => k_is)
    (case a28 => k_is)
    (case l28 => k_is)
    (case c28 => k_is)
    (case k28 => k_is)
    (case a29 => k_is)
    (case l29 => k_is)
    (case c29 => k_is)
    (case k29 => k_is)
    (case a30 => k_is)
    (case l30 => k_is)
    (case c30 => k_is)
    (case k30 => k_is)
    (case a31 => k_is)
    (case l31 => k_is)
    (case c31 => k_is)
    (case k31 => k_is)
    (case a32 => k_is)
    (case l32 => k_is)
    (case c32 => k_is)
    (case k32 => k_is)
    (case a33 => k_is)
    (case l33 => k_is)
    (case c33 => k_is)
    (case k33 => k_is)
    (case a34 => k_is)
    (case l34 => k_is)
    (case c34 => k_is)
    (case k34 => k_is)
    (case a35 => k_is)
    (case l35 => k_is)
    (case c35 => k_is)
    (case k35 => k_is)
    (case z_abs => k_is)
    (case z_all => k_is)
    (case z_any => k_is)
    (case z_bool => k_is)
    (case z_enumerate => k_is)
    (case z_int => k_is)
    (case z_isinstance => k_is)
    (case z_len => k_is)
    (case z_list => k_is)
    (case z_max => k_is)
    (case z_min => k_is)
    (case z_range => k_is)
    (case z_repr => k_is)
    (case z_set => k_is)
    (case z_sorted => k_is)
    (case z_sum => k_is)
    (case z_tuple => k_is)
    (case z_zip => k_is)
    (case e_MAX_WIDTH => k_is)

