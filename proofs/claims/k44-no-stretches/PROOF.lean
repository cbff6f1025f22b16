import PyProof.Rows.All
import Wide.All
import OpenK.AllK
import Wide.FinOn
import HandS.ForMost
import HandS.Exc
import HandS.TryOnly
import HandS.WordsExc
import HandS.IsInst
import HandS.Wide
import HandS.HeadHook4
import HandS.TupAny
import HandS.TupLe
import HandS.Deep
import HandS.Text
import HandS.Strs
import HandS.HeadEnd
import HandS.Head0
import HandS.Head1
import HandS.Head2
import HandS.Style
import HandS.SortInts
import HandS.TupSets
import HandS.SetFor
import HandS.Conv
import HandS.Sort
import HandS.ExcInit
import HandS.ExcOwn
import HandS.Defaults
import HandS.HeadHook2
import KE.KExcIs
import PySem.Challenge.RW_bakeahead_k44_no_stretches
set_option Elab.async false
set_option linter.all false
set_option maxRecDepth 100000
set_option maxHeartbeats 1000000
/-! Data layer over the hand layer: Python data as trees, defs as functions of trees. -/
namespace DL
open PySem PySem.Spec PyProof.Rows L2

inductive T where
  | non | bl (b : Bool) | int (i : Int) | str (x : Str)
  | lst (xs : List T) | tup (xs : List T)
  | dic (kvs : List (Key × T)) | dit (kvs : List (List Key × T))
  | exc (c : Str) (fs : List (Str × T))
  | scr (ns : List Int)
  | ob (a : Addr)

/-- results -/
inductive R (α : Type) where
  | ok (a : α) | ex (c : Str) (fs : List (Str × T)) | bad
@[simp] def R.bind {α β : Type} : R α → (α → R β) → R β
  | .ok a, f => f a
  | .ex c fs, _ => .ex c fs
  | .bad, _ => .bad

/-- an exception object as a value -/
def xO (cls : Value) (dd : Option Addr) (a : Addr) : HO := .ext fun h => ∃ (oe : Obj) (vs : Array Value), h.get? a = some oe ∧ Zc cls dd oe ∧ oe.data = .fields vs

def KT (K : PySem.W.Frag) (a : Addr) (xs : List V) : Prop := ∃ (o : Obj) (its : Array Value) (n : Nat), K.lookup a = some o ∧ o.cls = .type "tuple" ∧ o.data = .seq its n ∧ its.size ≤ sizeLine ∧ Vals xs its.toList
def KL (K : PySem.W.Frag) (a : Addr) (xs : List V) : Prop := ∃ (o : Obj) (its : Array Value) (n : Nat), K.lookup a = some o ∧ o.cls = .type "list" ∧ o.dict = none ∧ o.data = .seq its n ∧ its.size ≤ sizeLine ∧ Vals xs its.toList
/-- a tuple, a list that is read, apart from what is owned -/
def NdT (K : PySem.W.Frag) (S : Addr → Prop) (H : Hp) (a : Addr) (xs : List V) : Prop := (¬ S a ∧ Rd H a (.tup xs)) ∨ KT K a xs
def NdL (K : PySem.W.Frag) (S : Addr → Prop) (H : Hp) (a : Addr) (xs : List V) : Prop := (¬ S a ∧ Rd H a (.lst xs)) ∨ KL K a xs
section
variable {K : PySem.W.Frag} {S S' : Addr → Prop} {H H' : Hp} {a : Addr} {xs : List V}
theorem NdT.sq (h : NdT K S H a xs) : SqT K H a xs := h.elim (fun z => .inl z.2) fun z => .inr z
theorem NdL.sq (h : NdL K S H a xs) : SqL K H a xs := h.elim (fun z => .inl z.2) fun z => .inr z
/-- what is not owned stays and stays not owned -/
def Mv (S S' : Addr → Prop) (H H' : Hp) : Prop := ∀ a o, H a = some o → ¬ S a → H' a = some o ∧ ¬ S' a
theorem NdT.mv (m : Mv S S' H H') (h : NdT K S H a xs) : NdT K S' H' a xs := by
  rcases h with ⟨n, r | ⟨o, r⟩⟩ | h
  · exact .inl ⟨(m _ _ r n).2, .inl (m _ _ r n).1⟩
  · exact .inl ⟨(m _ _ r n).2, .inr ⟨o, (m _ _ r n).1⟩⟩
  · exact .inr h
theorem NdL.mv (m : Mv S S' H H') (h : NdL K S H a xs) : NdL K S' H' a xs := by
  rcases h with ⟨n, r | ⟨o, r⟩⟩ | h
  · exact .inl ⟨(m _ _ r n).2, .inl (m _ _ r n).1⟩
  · exact .inl ⟨(m _ _ r n).2, .inr ⟨o, (m _ _ r n).1⟩⟩
  · exact .inr h
end

mutual
inductive IsT (K : PySem.W.Frag) (S : Addr → Prop) (H : Hp) : V → T → Prop
  | non : IsT K S H .non .non
  | bl (b : Bool) : IsT K S H (.bl b) (.bl b)
  | int (i : Int) : IsT K S H (.int i) (.int i)
  | str (x : Str) : IsT K S H (.str x) (.str x)
  | lst {a : Addr} {xs : List V} {ts : List T} (n : ¬ S a) (h : H a = some (.lst xs)) (r : IsTs K S H xs ts) : IsT K S H (.ref a) (.lst ts)
  | tup {a : Addr} {xs : List V} {ts : List T} (h : NdT K S H a xs) (r : IsTs K S H xs ts) : IsT K S H (.ref a) (.tup ts)
  | dic {a : Addr} {xs : List (Key × V)} {ts : List (Key × T)} (n : ¬ S a) (h : H a = some (.dK xs)) (r : IsKs K S H xs ts) : IsT K S H (.ref a) (.dic ts)
  | dit {a : Addr} {xs : List (List Key × V)} {ts : List (List Key × T)} (n : ¬ S a) (h : H a = some (.dT xs)) (r : IsLs K S H xs ts) : IsT K S H (.ref a) (.dit ts)
  | exc0 {a : Addr} {c : Str} (n : ¬ S a) (h : H a = some (xO (.ref (He.ga K c)) none a)) : IsT K S H (.ref a) (.exc c [])
  | exc {a d : Addr} {c : Str} {xs : List (Str × V)} {fs : List (Str × T)} (n : ¬ S a) (h : H a = some (xO (.ref (He.ga K c)) (some d) a)) (m : ¬ S d) (g : H d = some (.xd xs)) (r : IsFs K S H xs fs) : IsT K S H (.ref a) (.exc c fs)
  | scr {a : Addr} {ns : List Int} (h : NdL K S H a (ns.map V.int)) : IsT K S H (.ref a) (.scr ns)
  | ob (a : Addr) : IsT K S H (.ref a) (.ob a)
inductive IsTs (K : PySem.W.Frag) (S : Addr → Prop) (H : Hp) : List V → List T → Prop
  | nil : IsTs K S H [] []
  | cons {v : V} {t : T} {vs : List V} {ts : List T} (h : IsT K S H v t) (r : IsTs K S H vs ts) : IsTs K S H (v :: vs) (t :: ts)
inductive IsKs (K : PySem.W.Frag) (S : Addr → Prop) (H : Hp) : List (Key × V) → List (Key × T) → Prop
  | nil : IsKs K S H [] []
  | cons {k : Key} {v : V} {t : T} {vs : List (Key × V)} {ts : List (Key × T)} (h : IsT K S H v t) (r : IsKs K S H vs ts) : IsKs K S H ((k, v) :: vs) ((k, t) :: ts)
inductive IsLs (K : PySem.W.Frag) (S : Addr → Prop) (H : Hp) : List (List Key × V) → List (List Key × T) → Prop
  | nil : IsLs K S H [] []
  | cons {k : List Key} {v : V} {t : T} {vs : List (List Key × V)} {ts : List (List Key × T)} (h : IsT K S H v t) (r : IsLs K S H vs ts) : IsLs K S H ((k, v) :: vs) ((k, t) :: ts)
inductive IsFs (K : PySem.W.Frag) (S : Addr → Prop) (H : Hp) : List (Str × V) → List (Str × T) → Prop
  | nil : IsFs K S H [] []
  | cons {k : Str} {v : V} {t : T} {vs : List (Str × V)} {ts : List (Str × T)} (h : IsT K S H v t) (r : IsFs K S H vs ts) : IsFs K S H ((k, v) :: vs) ((k, t) :: ts)
end
section
variable {K : PySem.W.Frag} {S S' : Addr → Prop} {H H' : Hp}
mutual
theorem IsT.mv (m : Mv S S' H H') : ∀ {v : V} {t : T}, IsT K S H v t → IsT K S' H' v t
  | _, _, .non => .non
  | _, _, .bl b => .bl b
  | _, _, .int i => .int i
  | _, _, .str x => .str x
  | _, _, .lst n h r => .lst (m _ _ h n).2 (m _ _ h n).1 (IsTs.mv m r)
  | _, _, .tup h r => .tup (h.mv m) (IsTs.mv m r)
  | _, _, .dic n h r => .dic (m _ _ h n).2 (m _ _ h n).1 (IsKs.mv m r)
  | _, _, .dit n h r => .dit (m _ _ h n).2 (m _ _ h n).1 (IsLs.mv m r)
  | _, _, .exc0 n h => .exc0 (m _ _ h n).2 (m _ _ h n).1
  | _, _, .exc n h n2 g r => .exc (m _ _ h n).2 (m _ _ h n).1 (m _ _ g n2).2 (m _ _ g n2).1 (IsFs.mv m r)
  | _, _, .scr h => .scr (h.mv m)
  | _, _, .ob a => .ob a
theorem IsTs.mv (m : Mv S S' H H') : ∀ {v : List V} {t : List T}, IsTs K S H v t → IsTs K S' H' v t
  | _, _, .nil => .nil
  | _, _, .cons h r => .cons (IsT.mv m h) (IsTs.mv m r)
theorem IsKs.mv (m : Mv S S' H H') : ∀ {v : List (Key × V)} {t : List (Key × T)}, IsKs K S H v t → IsKs K S' H' v t
  | _, _, .nil => .nil
  | _, _, .cons h r => .cons (IsT.mv m h) (IsKs.mv m r)
theorem IsLs.mv (m : Mv S S' H H') : ∀ {v : List (List Key × V)} {t : List (List Key × T)}, IsLs K S H v t → IsLs K S' H' v t
  | _, _, .nil => .nil
  | _, _, .cons h r => .cons (IsT.mv m h) (IsLs.mv m r)
theorem IsFs.mv (m : Mv S S' H H') : ∀ {v : List (Str × V)} {t : List (Str × T)}, IsFs K S H v t → IsFs K S' H' v t
  | _, _, .nil => .nil
  | _, _, .cons h r => .cons (IsT.mv m h) (IsFs.mv m r)
end
theorem mv_same (s : Same H H') : Mv S S H H' := fun a o h n => ⟨s a o h, n⟩
theorem mv_less (l : ∀ a, S' a → S a) : Mv S S' H H := fun a o h n => ⟨h, fun z => n (l a z)⟩
theorem mv_new {p : Addr} {o : HO} (h : H p = none) : Mv S (fun a => S a ∨ a = p) H (upd H p o) := fun a u e n => by
  have ne : a ≠ p := ne_of_none e h
  exact ⟨by rw [upd_ne ne]; exact e, fun z => z.elim n ne⟩
theorem same_upd {p : Addr} {o : HO} (h : H p = none) : Same H (upd H p o) := fun a u e => by
  rw [upd_ne (ne_of_none e h)]; exact e
theorem IsTs.len : ∀ {vs : List V} {ts : List T}, IsTs K S H vs ts → vs.length = ts.length
  | _, _, .nil => rfl
  | _, _, .cons _ r => by simp [IsTs.len r]
theorem IsTs.get : ∀ {vs : List V} {ts : List T}, IsTs K S H vs ts → ∀ {i : Nat} {t : T}, ts[i]? = some t → ∃ v, vs[i]? = some v ∧ IsT K S H v t
  | _, _, .nil, _, _, h => by simp at h
  | _, _, .cons h r, 0, t, e => by simp at e; subst e; exact ⟨_, rfl, h⟩
  | _, _, .cons h r, i + 1, t, e => by
    obtain ⟨v, a, b⟩ := IsTs.get r (i := i) (t := t) (by simpa using e)
    exact ⟨v, by simpa using a, b⟩
theorem IsTs.getv : ∀ {vs : List V} {ts : List T}, IsTs K S H vs ts → ∀ {i : Nat} {v : V}, vs[i]? = some v → ∃ t, ts[i]? = some t ∧ IsT K S H v t
  | _, _, .nil, _, _, h => by simp at h
  | _, _, .cons h r, 0, t, e => by simp at e; subst e; exact ⟨_, rfl, h⟩
  | _, _, .cons h r, i + 1, t, e => by
    obtain ⟨v, a, b⟩ := IsTs.getv r (i := i) (v := t) (by simpa using e)
    exact ⟨v, by simpa using a, b⟩
theorem IsTs.app : ∀ {vs : List V} {ts : List T} {ws : List V} {us : List T}, IsTs K S H vs ts → IsTs K S H ws us → IsTs K S H (vs ++ ws) (ts ++ us)
  | _, _, _, _, .nil, s => s
  | _, _, _, _, .cons h r, s => .cons h (IsTs.app r s)
theorem IsTs.take : ∀ {vs : List V} {ts : List T} (n : Nat), IsTs K S H vs ts → IsTs K S H (vs.take n) (ts.take n)
  | _, _, 0, _ => .nil
  | _, _, _ + 1, .nil => .nil
  | _, _, n + 1, .cons h r => .cons h (IsTs.take n r)
theorem IsTs.drop : ∀ {vs : List V} {ts : List T} (n : Nat), IsTs K S H vs ts → IsTs K S H (vs.drop n) (ts.drop n)
  | _, _, 0, r => r
  | _, _, _ + 1, .nil => .nil
  | _, _, n + 1, .cons _ r => IsTs.drop n r
theorem IsTs.set {v : V} {t : T} (z : IsT K S H v t) : ∀ {vs : List V} {ts : List T} (n : Nat), IsTs K S H vs ts → IsTs K S H (vs.set n v) (ts.set n t)
  | _, _, _, .nil => .nil
  | _, _, 0, .cons _ r => .cons z r
  | _, _, n + 1, .cons h r => .cons h (IsTs.set z n r)
end
end DL

set_option maxHeartbeats 1000000
namespace DL
abbrev Sg := L2.St
open PySem PySem.Spec PyProof.Rows L2

/-- the names' values as trees; true: a list or dict that the def alone has -/
abbrev Lo := List (Option (T × Bool))
/-- what an owned slot holds -/
inductive OwC (K : PySem.W.Frag) (S : Addr → Prop) (H : Hp) (a : Addr) : T → Prop
  | lst {xs : List V} {ts : List T} (h : H a = some (.lst xs)) (r : IsTs K S H xs ts) : OwC K S H a (.lst ts)
  | dic {xs : List (Key × V)} {ts : List (Key × T)} (h : H a = some (.dK xs)) (r : IsKs K S H xs ts) : OwC K S H a (.dic ts)
  | dit {xs : List (List Key × V)} {ts : List (List Key × T)} (h : H a = some (.dT xs)) (r : IsLs K S H xs ts) : OwC K S H a (.dit ts)
def Own (σ : Sg) (ev : Lo) (a : Addr) : Prop := ∃ (i : Nat) (t : T), ev[i]? = some (some (t, true)) ∧ σ[i]? = some (some (.ref a))
def Sx (S0 : Addr → Prop) (σ : Sg) (ev : Lo) (a : Addr) : Prop := S0 a ∨ Own σ ev a
section
variable {K : PySem.W.Frag} {S S' : Addr → Prop} {H H' : Hp} {a : Addr} {t : T}
theorem OwC.mv (m : Mv S S' H H') (e : H' a = H a) : OwC K S H a t → OwC K S' H' a t
  | .lst h r => .lst (e.trans h) (r.mv m)
  | .dic h r => .dic (e.trans h) (r.mv m)
  | .dit h r => .dit (e.trans h) (r.mv m)
theorem OwC.some : OwC K S H a t → ∃ o, H a = some o
  | .lst h _ => ⟨_, h⟩
  | .dic h _ => ⟨_, h⟩
  | .dit h _ => ⟨_, h⟩
theorem OwC.same (s : Same H H') (c : OwC K S H a t) : OwC K S H' a t := by
  obtain ⟨o, e⟩ := c.some
  exact c.mv (mv_same s) (by rw [e]; exact s _ _ e)
theorem OwC.isT (n : ¬ S a) : OwC K S H a t → IsT K S H (.ref a) t
  | .lst h r => .lst n h r
  | .dic h r => .dic n h r
  | .dit h r => .dit n h r
end

/-- the slots tell the trees -/
structure Rp (K : PySem.W.Frag) (S0 : Addr → Prop) (H0 : Hp) (ps : List (V × T)) (σ : Sg) (H : Hp) (ev : Lo) : Prop where
  same : Same H0 H
  s0 : ∀ a, S0 a → H a ≠ none
  frz : ∀ (i : Nat) (t : T), ev[i]? = some (some (t, false)) → ∃ v, σ[i]? = some (some v) ∧ IsT K (Sx S0 σ ev) H v t
  own : ∀ (i : Nat) (t : T), ev[i]? = some (some (t, true)) → ∃ a, σ[i]? = some (some (.ref a)) ∧ ¬ S0 a ∧ H0 a = none ∧ OwC K (Sx S0 σ ev) H a t
  inj : ∀ (i j : Nat) (t u : T) (a : Addr), ev[i]? = some (some (t, true)) → ev[j]? = some (some (u, true)) → σ[i]? = some (some (.ref a)) → σ[j]? = some (some (.ref a)) → i = j
  pin : ∀ p ∈ ps, IsT K (Sx S0 σ ev) H p.1 p.2
  len : σ.length = ev.length
section
variable {K : PySem.W.Frag} {S0 : Addr → Prop} {H0 H H' : Hp} {ps : List (V × T)} {σ : Sg} {ev : Lo}
theorem Rp.up (r : Rp K S0 H0 ps σ H ev) (s : Same H H') : Rp K S0 H0 ps σ H' ev where
  same := r.same.trans s
  s0 := fun a h z => by
    cases e : H a with
    | none => exact r.s0 a h e
    | some o => rw [s a o e] at z; cases z
  frz := fun i t h => let ⟨v, a, b⟩ := r.frz i t h; ⟨v, a, b.mv (mv_same s)⟩
  own := fun i t h => let ⟨a, b, c, d, e⟩ := r.own i t h; ⟨a, b, c, d, e.same s⟩
  inj := r.inj
  pin := fun p h => (r.pin p h).mv (mv_same s)
  len := r.len
theorem Rp.sx (r : Rp K S0 H0 ps σ H ev) : ∀ a, Sx S0 σ ev a → H a ≠ none := fun a h => by
  rcases h with h | ⟨i, t, h1, h2⟩
  · exact r.s0 a h
  · obtain ⟨b, e, _, _, c⟩ := r.own i t h1
    rw [e] at h2
    cases h2
    obtain ⟨o, q⟩ := c.some
    rw [q]; exact fun z => nomatch z
end

def isMut : T → Bool
  | .lst _ => true
  | .dic _ => true
  | .dit _ => true
  | _ => false
/-- how a value tells its tree: as data (s); as data or an owned thing that is read alone (w); as a new thing (f) -/
inductive Md where
  | s | w | f
def Pm (K : PySem.W.Frag) : Md → (Addr → Prop) → Hp → Hp → V → T → Prop
  | .s => fun S _ H' v t => IsT K S H' v t
  | .w => fun S _ H' v t => IsT K S H' v t ∨ ∃ a, v = .ref a ∧ OwC K S H' a t
  | .f => fun S H H' v t => (isMut t = false ∧ IsT K S H' v t) ∨ ∃ a, v = .ref a ∧ H a = none ∧ OwC K (fun b => S b ∨ b = a) H' a t
def R.on {α : Type} (r : R α) (A : α → Prop) (B : Str → List (Str × T) → Prop) : Prop := match r with
  | .ok a => A a
  | .ex c fs => B c fs
  | .bad => False
theorem R.on_bind {α β : Type} {r : R α} {f : α → R β} {A : β → Prop} {B : Str → List (Str × T) → Prop} (h : (r.bind f).on A B) : r.on (fun a => (f a).on A B) B := by
  cases r <;> exact h
theorem R.on_mono {α : Type} {r : R α} {A A' : α → Prop} {B B' : Str → List (Str × T) → Prop} (h : r.on A B) (hA : ∀ a, A a → A' a) (hB : ∀ c fs, B c fs → B' c fs) : r.on A' B' := by
  cases r with
  | ok a => exact hA _ h
  | ex c fs => exact hB _ _ h
  | bad => exact h
def ofO {α : Type} : Option α → R α
  | some a => .ok a
  | none => .bad
@[simp] theorem ofO_some {α : Type} (a : α) : ofO (some a) = .ok a := rfl
@[simp] theorem ofO_none {α : Type} : ofO (none : Option α) = .bad := rfl
/-- an exception in the air -/
def IsX (K : PySem.W.Frag) (S : Addr → Prop) (H : Hp) (cls : Value) (dd : Option Addr) (c : Str) (fs : List (Str × T)) : Prop :=
  cls = .ref (He.ga K c) ∧ ((dd = none ∧ fs = []) ∨ ∃ d xs, dd = some d ∧ ¬ S d ∧ H d = some (.xd xs) ∧ IsFs K S H xs fs)
theorem IsX.same {K : PySem.W.Frag} {S : Addr → Prop} {H H' : Hp} {cls : Value} {dd : Option Addr} {c : Str} {fs : List (Str × T)} (s : Same H H') (x : IsX K S H cls dd c fs) : IsX K S H' cls dd c fs := by
  obtain ⟨e, h | ⟨d, xs, e1, n, g, r⟩⟩ := x
  · exact ⟨e, .inl h⟩
  · exact ⟨e, .inr ⟨d, xs, e1, n, s _ _ g, r.mv (mv_same s)⟩⟩

/-- an expression's reading by its function of trees -/
def tG (m : Md) (K : PySem.W.Frag) (S0 : Addr → Prop) (H0 : Hp) (W : WX) (d : Lo → R T) : TE := fun σ H Q => ∃ ev ps, Rp K S0 H0 ps σ H ev ∧
  (d ev).on (fun t => ∀ v H', Same H H' → Pm K m (Sx S0 σ ev) H H' v t → Q v H') (fun c fs => ∀ cls dd H', Same H H' → IsX K (Sx S0 σ ev) H' cls dd c fs → W cls dd σ H')
def tB (K : PySem.W.Frag) (S0 : Addr → Prop) (H0 : Hp) (W : WX) (d : Lo → R Bool) : TT := fun σ H Q => ∃ ev ps, Rp K S0 H0 ps σ H ev ∧
  (d ev).on (fun b => ∀ H', Same H H' → Q b H') (fun c fs => ∀ cls dd H', Same H H' → IsX K (Sx S0 σ ev) H' cls dd c fs → W cls dd σ H')
def tA (K : PySem.W.Frag) (S0 : Addr → Prop) (H0 : Hp) (W : WX) (d : Lo → R (List T)) : TA := fun σ H Q => ∃ ev ps, Rp K S0 H0 ps σ H ev ∧
  (d ev).on (fun ts => ∀ vs H', Same H H' → IsTs K (Sx S0 σ ev) H' vs ts → Q vs H') (fun c fs => ∀ cls dd H', Same H H' → IsX K (Sx S0 σ ev) H' cls dd c fs → W cls dd σ H')
section
variable {X : Cx} {e a b : Expr} {K : PySem.W.Frag} {S S0 : Addr → Prop} {H0 : Hp} {W : WX} {d da db : Lo → R T} {pos : Pos} {m ma mb : Md}
theorem pe_imp {t t' : TE} (h : PE X e t) (f : ∀ σ H Q, t' σ H Q → t σ H Q) : PE X e t' := ⟨fun pins s σ H Q I z => h.run pins s σ H Q I (f σ H Q z)⟩
theorem pt_imp {t t' : TT} (h : PT X e t) (f : ∀ σ H Q, t' σ H Q → t σ H Q) : PT X e t' := ⟨fun pins s σ H Q I z => h.run pins s σ H Q I (f σ H Q z)⟩
theorem Pm.up {H H1 H2 : Hp} {v : V} {t : T} (s : Same H1 H2) (h : Pm K m S H H1 v t) : Pm K m S H H2 v t := by
  cases m with
  | s => exact IsT.mv (mv_same s) h
  | w => exact h.elim (fun z => .inl (z.mv (mv_same s))) fun ⟨a, e, c⟩ => .inr ⟨a, e, c.same s⟩
  | f => exact h.elim (fun z => .inl ⟨z.1, z.2.mv (mv_same s)⟩) fun ⟨a, e, n, c⟩ => .inr ⟨a, e, n, c.same s⟩
theorem Pm.back {H H1 H2 : Hp} {v : V} {t : T} (s : Same H H1) (h : Pm K m S H1 H2 v t) : Pm K m S H H2 v t := by
  cases m with
  | s => exact h
  | w => exact h
  | f => exact h.elim (fun z => .inl z) fun ⟨a, e, n, c⟩ => .inr ⟨a, e, s.free n, c⟩
theorem Pm.weak {H H1 : Hp} {v : V} {t : T} (hs : ∀ a, S a → H a ≠ none) (h : Pm K m S H H1 v t) : Pm K .w S H H1 v t := by
  cases m with
  | s => exact .inl h
  | w => exact h
  | f => exact h.elim (fun z => .inl z.2) fun ⟨a, e, n, c⟩ => .inr ⟨a, e, c.mv (mv_less fun b z => .inl z) rfl⟩
theorem Pm.strong {H H1 : Hp} {v : V} {t : T} (hm : m ≠ .w) (hs : ∀ a, S a → H a ≠ none) (h : Pm K m S H H1 v t) : Pm K .s S H H1 v t := by
  cases m with
  | s => exact h
  | w => exact absurd rfl hm
  | f => exact h.elim (fun z => z.2) fun ⟨a, e, n, c⟩ => by rw [e]; exact OwC.isT (fun z => hs a z n) (c.mv (mv_less fun b z => .inl z) rfl)
theorem Pm.bl {H H1 : Hp} {v : V} {b : Bool} (h : Pm K m S H H1 v (.bl b)) : v = .bl b := by
  have key : ∀ {S' : Addr → Prop}, IsT K S' H1 v (.bl b) → v = .bl b := fun z => by cases z; rfl
  cases m with
  | s => exact key h
  | w => exact h.elim key fun ⟨_, _, c⟩ => by cases c
  | f => exact h.elim (fun z => key z.2) fun ⟨_, _, _, c⟩ => by cases c
theorem Pm.int {H H1 : Hp} {v : V} {b : Int} (h : Pm K m S H H1 v (.int b)) : v = .int b := by
  have key : ∀ {S' : Addr → Prop}, IsT K S' H1 v (.int b) → v = .int b := fun z => by cases z; rfl
  cases m with
  | s => exact key h
  | w => exact h.elim key fun ⟨_, _, c⟩ => by cases c
  | f => exact h.elim (fun z => key z.2) fun ⟨_, _, _, c⟩ => by cases c
theorem Pm.str {H H1 : Hp} {v : V} {b : Str} (h : Pm K m S H H1 v (.str b)) : v = .str b := by
  have key : ∀ {S' : Addr → Prop}, IsT K S' H1 v (.str b) → v = .str b := fun z => by cases z; rfl
  cases m with
  | s => exact key h
  | w => exact h.elim key fun ⟨_, _, c⟩ => by cases c
  | f => exact h.elim (fun z => key z.2) fun ⟨_, _, _, c⟩ => by cases c
theorem Pm.non {H H1 : Hp} {v : V} (h : Pm K m S H H1 v .non) : v = .non := by
  have key : ∀ {S' : Addr → Prop}, IsT K S' H1 v .non → v = .non := fun z => by cases z; rfl
  cases m with
  | s => exact key h
  | w => exact h.elim key fun ⟨_, _, c⟩ => by cases c
  | f => exact h.elim (fun z => key z.2) fun ⟨_, _, _, c⟩ => by cases c
/-- a list: known at its place -/
theorem Pm.lst {H H1 : Hp} {v : V} {ts : List T} (h : Pm K m S H H1 v (.lst ts)) : ∃ a xs, v = .ref a ∧ H1 a = some (.lst xs) ∧ IsTs K S H1 xs ts := by
  have key : IsT K S H1 v (.lst ts) → ∃ a xs, v = .ref a ∧ H1 a = some (.lst xs) ∧ IsTs K S H1 xs ts := fun z => by cases z with | lst n g r => exact ⟨_, _, rfl, g, r⟩
  cases m with
  | s => exact key h
  | w => exact h.elim key fun ⟨a, e, c⟩ => by cases c with | lst g r => exact ⟨a, _, e, g, r⟩
  | f => exact h.elim (fun z => key z.2) fun ⟨a, e, _, c⟩ => by cases c with | lst g r => exact ⟨a, _, e, g, r.mv (mv_less fun b z => .inl z)⟩
theorem Pm.tup {H H1 : Hp} {v : V} {ts : List T} (h : Pm K m S H H1 v (.tup ts)) : ∃ a xs, v = .ref a ∧ NdT K S H1 a xs ∧ IsTs K S H1 xs ts := by
  have key : IsT K S H1 v (.tup ts) → ∃ a xs, v = .ref a ∧ NdT K S H1 a xs ∧ IsTs K S H1 xs ts := fun z => by cases z with | tup g r => exact ⟨_, _, rfl, g, r⟩
  cases m with
  | s => exact key h
  | w => exact h.elim key fun ⟨a, e, c⟩ => by cases c
  | f => exact h.elim (fun z => key z.2) fun ⟨a, e, _, c⟩ => by cases c
theorem Pm.scr {H H1 : Hp} {v : V} {ns : List Int} (h : Pm K m S H H1 v (.scr ns)) : ∃ a, v = .ref a ∧ NdL K S H1 a (ns.map V.int) := by
  have key : IsT K S H1 v (.scr ns) → ∃ a, v = .ref a ∧ NdL K S H1 a (ns.map V.int) := fun z => by cases z with | scr g => exact ⟨_, rfl, g⟩
  cases m with
  | s => exact key h
  | w => exact h.elim key fun ⟨a, e, c⟩ => by cases c
  | f => exact h.elim (fun z => key z.2) fun ⟨a, e, _, c⟩ => by cases c
/-- read as data, or alone -/
theorem wk (h : PE X e (tG m K S0 H0 W d)) : PE X e (tG .w K S0 H0 W d) := pe_imp h fun σ H Q ⟨ev, ps, r, z⟩ =>
  ⟨ev, ps, r, R.on_mono z (fun t q v H' s p => q v H' s (Pm.weak r.sx p)) fun _ _ q => q⟩
theorem st (hm : m ≠ .w) (h : PE X e (tG m K S0 H0 W d)) : PE X e (tG .s K S0 H0 W d) := pe_imp h fun σ H Q ⟨ev, ps, r, z⟩ =>
  ⟨ev, ps, r, R.on_mono z (fun t q v H' s p => q v H' s (Pm.strong hm r.sx p)) fun _ _ q => q⟩
theorem fs (h : PE X e (tG .f K S0 H0 W d)) : PE X e (tG .s K S0 H0 W d) := st (m := .f) (by intro z; cases z) h
end
end DL

set_option maxHeartbeats 1000000
namespace DL
open PySem PySem.Spec PyProof.Rows L2

/-- where code of a def stands -/
structure Cn (X : Cx) (W : WX) (k : Nat) : Prop where
  tk : Takes X W
  room : Room k X.A
  gu : X.A.guards = some []
  calm : X.calm = true
  nd : X.N.Nodup
  po : PassesOwn (model X.prog X.w) X.A X.env X.xe

/-! ### the functions of trees -/
def dVar (i : Nat) : Lo → R T := fun ev => match ev[i]? with
  | some (some (t, false)) => .ok t
  | _ => .bad
def dVarW (i : Nat) : Lo → R T := fun ev => match ev[i]? with
  | some (some (t, _)) => .ok t
  | _ => .bad
def dC (t : T) : Lo → R T := fun _ => .ok t
def d1 (f : T → Option T) (a : Lo → R T) : Lo → R T := fun ev => (a ev).bind fun t => ofO (f t)
def d2 (f : T → T → Option T) (a b : Lo → R T) : Lo → R T := fun ev => (a ev).bind fun t => (b ev).bind fun u => ofO (f t u)
def dTest (a : Lo → R T) : Lo → R Bool := fun ev => (a ev).bind fun t => match t with
  | .bl b => .ok b
  | _ => .bad
def dB2T (a : Lo → R Bool) : Lo → R T := fun ev => (a ev).bind fun b => .ok (.bl b)
def dNot (a : Lo → R Bool) : Lo → R Bool := fun ev => (a ev).bind fun b => .ok (!b)
def dAnd (a b : Lo → R Bool) : Lo → R Bool := fun ev => (a ev).bind fun c => if c then b ev else .ok false
def dOr (a b : Lo → R Bool) : Lo → R Bool := fun ev => (a ev).bind fun c => if c then .ok true else b ev
def dIf (c : Lo → R Bool) (a b : Lo → R T) : Lo → R T := fun ev => (c ev).bind fun z => if z then a ev else b ev
def dAndV (a b : Lo → R T) : Lo → R T := fun ev => (a ev).bind fun t => match t with
  | .bl c => if c then b ev else .ok (.bl false)
  | _ => .bad
def dOrV (a b : Lo → R T) : Lo → R T := fun ev => (a ev).bind fun t => match t with
  | .bl c => if c then .ok (.bl true) else b ev
  | _ => .bad
def dNil : Lo → R (List T) := fun _ => .ok []
def dCons (a : Lo → R T) (b : Lo → R (List T)) : Lo → R (List T) := fun ev => (a ev).bind fun t => (b ev).bind fun ts => .ok (t :: ts)
def dList (a : Lo → R (List T)) : Lo → R T := fun ev => (a ev).bind fun ts => if ts.length ≤ sizeLine then .ok (.lst ts) else .bad
def dTup (a : Lo → R (List T)) : Lo → R T := fun ev => (a ev).bind fun ts => if ts.length ≤ sizeLine then .ok (.tup ts) else .bad

section
variable {X : Cx} {e a b : Expr} {S S0 : Addr → Prop} {H0 : Hp} {W : WX} {d da db : Lo → R T} {c : Lo → R Bool} {pos : Pos} {m ma mb : Md} {k : Nat}

/-- a rule on one value -/
theorem im1 {r : V → Hp → VK → Prop} {f : T → Option T}
    (hr : ∀ (S : Addr → Prop) (H : Hp) (x : V) (t w : T) (Q : VK), (∀ a, S a → H a ≠ none) → Pm X.K .w S H H x t → f t = some w → (∀ v H', Same H H' → Pm X.K m S H H' v w → Q v H') → r x H Q) :
    ∀ σ H Q, tG m X.K S0 H0 W (d1 f da) σ H Q → tUn r (tG .w X.K S0 H0 W da) σ H Q := fun σ H Q ⟨ev, ps, r0, z⟩ => by
  refine ⟨ev, ps, r0, R.on_mono (R.on_bind z) (fun t q v H1 s1 p1 => ?_) fun _ _ q => q⟩
  cases e : f t with
  | none => rw [e] at q; exact q.elim
  | some w =>
    rw [e] at q
    exact hr _ H1 v t w Q (r0.up s1).sx p1 e fun v' H' s p => q v' H' (s1.trans s) (p.back s1)
/-- a rule on two values -/
theorem im2 {r : R2} {f : T → T → Option T}
    (hr : ∀ (S : Addr → Prop) (H : Hp) (x y : V) (t u w : T) (Q : VK), (∀ a, S a → H a ≠ none) → Pm X.K .w S H H x t → Pm X.K .w S H H y u → f t u = some w → (∀ v H', Same H H' → Pm X.K m S H H' v w → Q v H') → r x y H Q) :
    ∀ σ H Q, tG m X.K S0 H0 W (d2 f da db) σ H Q → tOp r (tG .w X.K S0 H0 W da) (tG .w X.K S0 H0 W db) σ H Q := fun σ H Q ⟨ev, ps, r0, z⟩ => by
  refine ⟨ev, ps, r0, R.on_mono (R.on_bind z) (fun t q v H1 s1 p1 => ?_) fun _ _ q => q⟩
  refine ⟨ev, ps, r0.up s1, R.on_mono (R.on_bind q) (fun u q2 w' H2 s2 p2 => ?_) fun c fs q2 cls dd H2 s2 x => q2 cls dd H2 (s1.trans s2) x⟩
  cases e : f t u with
  | none => rw [e] at q2; exact q2.elim
  | some w =>
    rw [e] at q2
    refine hr _ H2 v w' t u w Q (r0.up (s1.trans s2)).sx ?_ p2 e fun v' H' s p => q2 v' H' ((s1.trans s2).trans s) (p.back (s1.trans s2))
    exact Pm.up (m := .w) s2 p1

theorem e_var (i : Nat) {x : Str} (hN : X.N[i]? = some x := by rfl) (hv : Vis X.env.scope x := by first | exact Or.inl rfl | exact Or.inr (Or.inl rfl) | exact Or.inr (Or.inr rfl)) (hd : (x == ("__debug__" : Str)) = false := by decide)
    (hcd : (x == ("__classdict__" : Str)) = false := by decide) : PE X (.Name x pos) (tG .s X.K S0 H0 W (dVar i)) := pe_imp (pe_var hN hv hd hcd) fun σ H Q ⟨ev, ps, r, z⟩ => by
  unfold dVar at z
  split at z
  · rename_i t e
    obtain ⟨v, a, b⟩ := r.frz i t e
    exact ⟨v, a, z v H (Same.refl _) b⟩
  · exact z.elim
theorem e_varW (i : Nat) {x : Str} (hN : X.N[i]? = some x := by rfl) (hv : Vis X.env.scope x := by first | exact Or.inl rfl | exact Or.inr (Or.inl rfl) | exact Or.inr (Or.inr rfl)) (hd : (x == ("__debug__" : Str)) = false := by decide)
    (hcd : (x == ("__classdict__" : Str)) = false := by decide) : PE X (.Name x pos) (tG .w X.K S0 H0 W (dVarW i)) := pe_imp (pe_var hN hv hd hcd) fun σ H Q ⟨ev, ps, r, z⟩ => by
  unfold dVarW at z
  split at z
  · rename_i t o e
    cases o with
    | false =>
      obtain ⟨v, a, b⟩ := r.frz i t e
      exact ⟨v, a, z v H (Same.refl _) (.inl b)⟩
    | true =>
      obtain ⟨a, h1, _, _, c⟩ := r.own i t e
      exact ⟨_, h1, z _ H (Same.refl _) (.inr ⟨a, rfl, c⟩)⟩
  · exact z.elim
theorem im0 {v : V} {t : T} (h : ∀ S H, IsT X.K S H v t) : ∀ σ H Q, tG .s X.K S0 H0 W (dC t) σ H Q → tC v σ H Q := fun σ H Q ⟨ev, ps, r, z⟩ => z v H (Same.refl _) (h _ _)
theorem e_int {i : Int} {j : Nat} : PE X (.Constant (.int i) j pos) (tG .s X.K S0 H0 W (dC (.int i))) := pe_imp pe_int (im0 fun _ _ => .int i)
theorem e_bl {i : Bool} {j : Nat} : PE X (.Constant (.bool i) j pos) (tG .s X.K S0 H0 W (dC (.bl i))) := pe_imp pe_bl (im0 fun _ _ => .bl i)
theorem e_non {j : Nat} : PE X (.Constant .none j pos) (tG .s X.K S0 H0 W (dC .non)) := pe_imp pe_non (im0 fun _ _ => .non)
theorem e_str {i : Str} {j : Nat} : PE X (.Constant (.str i) j pos) (tG .s X.K S0 H0 W (dC (.str i))) := pe_imp pe_str (im0 fun _ _ => .str i)
/-- a module's int, text -/
theorem e_gint {x : Str} {i : Int} (hm : ∃ t, X.mg x = some (.int i t)) (hg : Gl X x := by rfl) (hd : (x == ("__debug__" : Str)) = false := by decide) : PE X (.Name x pos) (tG .s X.K S0 H0 W (dC (.int i))) := by
  obtain ⟨t, hm⟩ := hm
  exact pe_imp (pe_glob (v := .int i) hg hm ⟨t, rfl⟩ hd) (im0 fun _ _ => .int i)
theorem e_gstr {x : Str} {i : Str} (hm : ∃ t, X.mg x = some (.str i t)) (hg : Gl X x := by rfl) (hd : (x == ("__debug__" : Str)) = false := by decide) : PE X (.Name x pos) (tG .s X.K S0 H0 W (dC (.str i))) := by
  obtain ⟨t, hm⟩ := hm
  exact pe_imp (pe_glob (v := .str i) hg hm ⟨t, rfl⟩ hd) (im0 fun _ _ => .str i)

/-! ### tests -/
theorem tst_of (h : PE X e (tG m X.K S0 H0 W d)) (he : ∀ whole, isTrue e X.env whole = (do let v ← whole; standAt e.pos; holding [v] (truthy v)) := by intro _; rfl) : PT X e (tB X.K S0 H0 W (dTest d)) :=
  pt_imp (pt_val h he) fun σ H Q ⟨ev, ps, r, z⟩ => ⟨ev, ps, r, R.on_mono (R.on_bind z) (fun t q v H' s p => by
    cases t with
    | bl b => exact ⟨b, p.bl, q H' s⟩
    | _ => exact q.elim) fun _ _ q => q⟩
theorem t_not (h : PT X e (tB X.K S0 H0 W c)) : PT X (.UnaryOp .Not e pos) (tB X.K S0 H0 W (dNot c)) :=
  pt_imp (pt_not h) fun σ H Q ⟨ev, ps, r, z⟩ => ⟨ev, ps, r, R.on_mono (R.on_bind z) (fun _ q H' s => q H' s) fun _ _ q => q⟩
variable {c' : Lo → R Bool} {rest : List Expr}
theorem tw_and (ha : PT X a (tB X.K S0 H0 W c)) (hb : PW X (.BoolOp .And (b :: rest) pos) (tB X.K S0 H0 W c')) : PW X (.BoolOp .And (a :: b :: rest) pos) (tB X.K S0 H0 W (dAnd c c')) := by
  refine ⟨fun wh pins s σ H Q I h => (pw_and ha hb).run wh pins s σ H Q I ?_⟩
  obtain ⟨ev, ps, r, z⟩ := h
  refine ⟨ev, ps, r, R.on_mono (R.on_bind z) (fun b q H' s => ?_) fun _ _ q => q⟩
  cases b with
  | true => exact ⟨ev, ps, r.up s, R.on_mono q (fun d q2 H2 s2 => q2 H2 (s.trans s2)) fun c fs q2 cls dd H2 s2 x => q2 cls dd H2 (s.trans s2) x⟩
  | false => exact q H' s
theorem tw_or (ha : PT X a (tB X.K S0 H0 W c)) (hb : PW X (.BoolOp .Or (b :: rest) pos) (tB X.K S0 H0 W c')) : PW X (.BoolOp .Or (a :: b :: rest) pos) (tB X.K S0 H0 W (dOr c c')) := by
  refine ⟨fun wh pins s σ H Q I h => (pw_or ha hb).run wh pins s σ H Q I ?_⟩
  obtain ⟨ev, ps, r, z⟩ := h
  refine ⟨ev, ps, r, R.on_mono (R.on_bind z) (fun b q H' s => ?_) fun _ _ q => q⟩
  cases b with
  | true => exact q H' s
  | false => exact ⟨ev, ps, r.up s, R.on_mono q (fun d q2 H2 s2 => q2 H2 (s.trans s2)) fun c fs q2 cls dd H2 s2 x => q2 cls dd H2 (s.trans s2) x⟩
/-- if-expression -/
theorem e_if {ce : Expr} (hc : PT X ce (tB X.K S0 H0 W c)) (ha : PE X a (tG m X.K S0 H0 W da)) (hb : PE X b (tG m X.K S0 H0 W db)) : PE X (.IfExp ce a b pos) (tG m X.K S0 H0 W (dIf c da db)) :=
  pe_imp (pe_ifExp hc ha hb) fun σ H Q ⟨ev, ps, r, z⟩ => by
    refine ⟨ev, ps, r, R.on_mono (R.on_bind z) (fun b q H' s => ?_) fun _ _ q => q⟩
    have go : ∀ {d : Lo → R T}, (d ev).on (fun t => ∀ v H', Same H H' → Pm X.K m (Sx S0 σ ev) H H' v t → Q v H') (fun c fs => ∀ cls dd H', Same H H' → IsX X.K (Sx S0 σ ev) H' cls dd c fs → W cls dd σ H') → tG m X.K S0 H0 W d σ H' Q := fun q =>
      ⟨ev, ps, r.up s, R.on_mono q (fun t q2 v H2 s2 p => q2 v H2 (s.trans s2) (p.back s)) fun c fs q2 cls dd H2 s2 x => q2 cls dd H2 (s.trans s2) x⟩
    cases b with
    | true => exact go q
    | false => exact go q
/-- and, or as values (truths) -/
theorem e_andV (ha : PE X a (tG ma X.K S0 H0 W da)) (hb : PE X (.BoolOp .And (b :: rest) pos) (tG .f X.K S0 H0 W db)) : PE X (.BoolOp .And (a :: b :: rest) pos) (tG .f X.K S0 H0 W (dAndV da db)) :=
  pe_imp (pe_and ha hb) fun σ H Q ⟨ev, ps, r, z⟩ => by
    refine ⟨ev, ps, r, R.on_mono (R.on_bind z) (fun t q v H' s p => ?_) fun _ _ q => q⟩
    cases t with
    | bl b =>
      refine ⟨b, p.bl, ?_⟩
      cases b with
      | true => exact ⟨ev, ps, r.up s, R.on_mono q (fun t q2 v H2 s2 p => q2 v H2 (s.trans s2) (p.back s)) fun c fs q2 cls dd H2 s2 x => q2 cls dd H2 (s.trans s2) x⟩
      | false => exact q _ H' s (.inl ⟨rfl, .bl false⟩)
    | _ => exact q.elim
theorem e_orV (ha : PE X a (tG ma X.K S0 H0 W da)) (hb : PE X (.BoolOp .Or (b :: rest) pos) (tG .f X.K S0 H0 W db)) : PE X (.BoolOp .Or (a :: b :: rest) pos) (tG .f X.K S0 H0 W (dOrV da db)) :=
  pe_imp (pe_or ha hb) fun σ H Q ⟨ev, ps, r, z⟩ => by
    refine ⟨ev, ps, r, R.on_mono (R.on_bind z) (fun t q v H' s p => ?_) fun _ _ q => q⟩
    cases t with
    | bl b =>
      refine ⟨b, p.bl, ?_⟩
      cases b with
      | true => exact q _ H' s (.inl ⟨rfl, .bl true⟩)
      | false => exact ⟨ev, ps, r.up s, R.on_mono q (fun t q2 v H2 s2 p => q2 v H2 (s.trans s2) (p.back s)) fun c fs q2 cls dd H2 s2 x => q2 cls dd H2 (s.trans s2) x⟩
    | _ => exact q.elim
def dNotV (a : Lo → R T) : Lo → R T := d1 (fun t => match t with
  | .bl b => some (.bl (!b))
  | _ => none) a
theorem e_notV (ha : PE X a (tG .w X.K S0 H0 W da)) : PE X (.UnaryOp .Not a pos) (tG .f X.K S0 H0 W (dNotV da)) :=
  pe_imp (pe_not ha) fun σ H Q h => by
    refine im1 (r := fun x H Q => ∃ c, x = .bl c ∧ Q (.bl (!c)) H) (fun S H x t w Q hs p e q => ?_) σ H Q h
    cases t with
    | bl b =>
      cases e
      exact ⟨b, Pm.bl (m := .w) (H := H) p, q _ H (Same.refl _) (.inl ⟨rfl, .bl _⟩)⟩
    | _ => cases e

/-! ### lists of arguments, displays -/
variable {es : List Expr} {ds : Lo → R (List T)}
theorem a_nil : PA X [] (tA X.K S0 H0 W dNil) := ⟨fun pos pins s σ H Q I ⟨ev, ps, r, z⟩ => pa_nil.run pos pins s σ H Q I (z [] H (Same.refl _) .nil)⟩
theorem a_cons (ha : PE X e (tG .s X.K S0 H0 W d)) (hr : PA X es (tA X.K S0 H0 W ds)) (hs : starEach (e :: es) X.env = (false, eval e X.env) :: starEach es X.env := by rfl) : PA X (e :: es) (tA X.K S0 H0 W (dCons d ds)) := by
  refine ⟨fun pos pins s σ H Q I h => (pa_cons ha hr hs).run pos pins s σ H Q I ?_⟩
  obtain ⟨ev, ps, r, z⟩ := h
  refine ⟨ev, ps, r, R.on_mono (R.on_bind z) (fun t q v H1 s1 p1 => ?_) fun _ _ q => q⟩
  refine ⟨ev, ps, r.up s1, R.on_mono (R.on_bind q) (fun ts q2 vs H2 s2 p2 => q2 _ H2 (s1.trans s2) (.cons ?_ p2)) fun c fs q2 cls dd H2 s2 x => q2 cls dd H2 (s1.trans s2) x⟩
  exact IsT.mv (mv_same s2) p1
theorem e_list (h : PA X es (tA X.K S0 H0 W ds)) : PE X (.List es pos) (tG .f X.K S0 H0 W (dList ds)) := pe_imp (pe_lst h) fun σ H Q ⟨ev, ps, r, z⟩ => by
  refine ⟨ev, ps, r, R.on_mono (R.on_bind z) (fun ts q vs H1 s1 p1 => ?_) fun _ _ q => q⟩
  by_cases hz : ts.length ≤ sizeLine
  · have q : ∀ v H', Same H H' → Pm X.K .f (Sx S0 σ ev) H H' v (.lst ts) → Q v H' := by
      have q' : (if ts.length ≤ sizeLine then R.ok (T.lst ts) else R.bad).on _ _ := q
      rw [if_pos hz] at q'
      exact q'
    refine ⟨by rw [p1.len]; exact hz, fun p hp => q _ _ (s1.trans (same_upd hp)) (.inr ⟨p, rfl, s1.free hp, .lst upd_same (p1.mv (mv_new hp))⟩)⟩
  · have q' : (if ts.length ≤ sizeLine then R.ok (T.lst ts) else R.bad).on _ _ := q
    rw [if_neg hz] at q'
    exact q'.elim
theorem e_tup {x1 : Nat} (h : PA X es (tA X.K S0 H0 W ds)) : PE X (.Tuple es x1 pos) (tG .f X.K S0 H0 W (dTup ds)) := pe_imp (pe_tup h) fun σ H Q ⟨ev, ps, r, z⟩ => by
  refine ⟨ev, ps, r, R.on_mono (R.on_bind z) (fun ts q vs H1 s1 p1 => ?_) fun _ _ q => q⟩
  by_cases hz : ts.length ≤ sizeLine
  · have q : ∀ v H', Same H H' → Pm X.K .f (Sx S0 σ ev) H H' v (.tup ts) → Q v H' := by
      have q' : (if ts.length ≤ sizeLine then R.ok (T.tup ts) else R.bad).on _ _ := q
      rw [if_pos hz] at q'
      exact q'
    refine ⟨by rw [p1.len]; exact hz, fun p hp => q _ _ (s1.trans (same_upd hp)) (.inl ⟨rfl, ?_⟩)⟩
    have n : ¬ Sx S0 σ ev p := fun z => (r.up s1).sx p z hp
    exact .tup (.inl ⟨n, .inl upd_same⟩) (p1.mv (mv_same (same_upd hp)))
  · have q' : (if ts.length ≤ sizeLine then R.ok (T.tup ts) else R.bad).on _ _ := q
    rw [if_neg hz] at q'
    exact q'.elim
end
end DL

set_option maxHeartbeats 1000000
namespace DL
open PySem PySem.Spec PyProof.Rows L2

/-! ### operators on trees -/
def addT : T → T → Option T
  | .int a, .int b => some (.int (a + b))
  | .str a, .str b => if a.length + b.length ≤ sizeLine then some (.str (a ++ b)) else none
  | .lst a, .lst b => if a.length + b.length ≤ sizeLine then some (.lst (a ++ b)) else none
  | .tup a, .tup b => if a.length + b.length ≤ sizeLine then some (.tup (a ++ b)) else none
  | _, _ => none
def subT : T → T → Option T
  | .int a, .int b => some (.int (a - b))
  | _, _ => none
def mulT : T → T → Option T
  | .int a, .int b => if a.natAbs.log2 + b.natAbs.log2 < 1000000 then some (.int (a * b)) else none
  | .lst a, .int k => if -(2 ^ 63) ≤ k ∧ k < 2 ^ 63 ∧ a.length * k.toNat ≤ sizeLine then some (.lst (List.replicate k.toNat a).flatten) else none
  | _, _ => none
def divT : T → T → Option T
  | .int a, .int b => if 0 < b ∧ b.natAbs.log2 < 9000 then some (.int (a / b)) else none
  | _, _ => none
def modT : T → T → Option T
  | .int a, .int b => if 0 < b then some (.int (a % b)) else none
  | _, _ => none
def powT : T → T → Option T
  | .int a, .int b => if 0 ≤ b ∧ b ≤ 1000000 ∧ a.natAbs < 2 ^ 64 then some (.int (a ^ b.toNat)) else none
  | _, _ => none
def shlT : T → T → Option T
  | .int a, .int b => if 0 ≤ b ∧ b ≤ 1000000 ∧ a.natAbs < 2 ^ 64 then some (.int (a * 2 ^ b.toNat)) else none
  | _, _ => none
def shrT : T → T → Option T
  | .int a, .int b => if 0 ≤ b then some (.int (a / 2 ^ b.toNat)) else none
  | _, _ => none
def bandT : T → T → Option T
  | .int a, .int b => some (.int (Builtin.bitAnd a b))
  | _, _ => none
def bxorT : T → T → Option T
  | .int a, .int b => some (.int (Builtin.bitXor a b))
  | _, _ => none
def negT : T → Option T
  | .int a => some (.int (-a))
  | _ => none
def cmpT (p : Int → Int → Bool) : T → T → Option T
  | .int a, .int b => some (.bl (p a b))
  | _, _ => none
abbrev ltT := cmpT fun a b => decide (a < b)
abbrev leT := cmpT fun a b => decide (a ≤ b)
abbrev gtT := cmpT fun a b => decide (b < a)
abbrev geT := cmpT fun a b => decide (b ≤ a)
def isNonB : T → Bool
  | .non => true
  | _ => false
def isNonT (t : T) : Option T := some (.bl (isNonB t))
def notNonT (t : T) : Option T := some (.bl (!isNonB t))

section
variable {X : Cx} {e a b : Expr} {S S0 : Addr → Prop} {H0 : Hp} {W : WX} {d da db : Lo → R T} {c : Lo → R Bool} {pos : Pos} {m ma mb : Md} {k : Nat}
theorem IsTs.rep {K : PySem.W.Frag} {H : Hp} {vs : List V} {ts : List T} (h : IsTs K S H vs ts) : ∀ n : Nat, IsTs K S H (List.replicate n vs).flatten (List.replicate n ts).flatten
  | 0 => .nil
  | n + 1 => by rw [List.replicate_succ, List.replicate_succ, List.flatten_cons, List.flatten_cons]; exact h.app (IsTs.rep h n)
/-- what a new list, a flat value answers -/
theorem new_lst {K : PySem.W.Frag} {H : Hp} {p : Addr} {vs : List V} {ts : List T} (hp : H p = none) (r : IsTs K S H vs ts) : Pm K .f S H (upd H p (.lst vs)) (.ref p) (.lst ts) := .inr ⟨p, rfl, hp, .lst upd_same (r.mv (mv_new hp))⟩
theorem new_tup {K : PySem.W.Frag} {H : Hp} {p : Addr} {vs : List V} {ts : List T} (hs : ∀ a, S a → H a ≠ none) (hp : H p = none) (r : IsTs K S H vs ts) : Pm K .f S H (upd H p (.tup vs)) (.ref p) (.tup ts) :=
  .inl ⟨rfl, .tup (.inl ⟨fun z => hs p z hp, .inl upd_same⟩) (r.mv (mv_same (same_upd hp)))⟩
theorem one_int {K : PySem.W.Frag} {H H' : Hp} (i : Int) : Pm K .f S H H' (.int i) (.int i) := .inl ⟨rfl, .int i⟩
theorem one_bl {K : PySem.W.Frag} {H H' : Hp} (i : Bool) : Pm K .f S H H' (.bl i) (.bl i) := .inl ⟨rfl, .bl i⟩
theorem one_str {K : PySem.W.Frag} {H H' : Hp} (i : Str) : Pm K .f S H H' (.str i) (.str i) := .inl ⟨rfl, .str i⟩
theorem one_non {K : PySem.W.Frag} {H H' : Hp} : Pm K .f S H H' .non .non := .inl ⟨rfl, .non⟩

theorem e_bin {op : Operator} {r : R2} {f : T → T → Option T} (ho : OpR X (binaryOp op) r)
    (hr : ∀ (S : Addr → Prop) (H : Hp) (x y : V) (t u w : T) (Q : VK), (∀ a, S a → H a ≠ none) → Pm X.K .w S H H x t → Pm X.K .w S H H y u → f t u = some w → (∀ v H', Same H H' → Pm X.K .f S H H' v w → Q v H') → r x y H Q)
    (ha : PE X a (tG .w X.K S0 H0 W da)) (hb : PE X b (tG .w X.K S0 H0 W db)) : PE X (.BinOp a op b pos) (tG .f X.K S0 H0 W (d2 f da db)) := pe_imp (pe_op ho ha hb) (im2 hr)
/-- two ints in -/
theorem int2 {C : Int → Int → Prop} {g : Int → Int → V} {f : T → T → Option T} (hf : ∀ t u w, f t u = some w → ∃ i j, t = .int i ∧ u = .int j ∧ C i j ∧ ((∃ n, g i j = .int n ∧ w = .int n) ∨ ∃ n, g i j = .bl n ∧ w = .bl n)) :
    ∀ (S : Addr → Prop) (H : Hp) (x y : V) (t u w : T) (Q : VK), (∀ a, S a → H a ≠ none) → Pm X.K .w S H H x t → Pm X.K .w S H H y u → f t u = some w → (∀ v H', Same H H' → Pm X.K .f S H H' v w → Q v H') → rI C g x y H Q := fun S H x y t u w Q hs p q e z => by
  obtain ⟨i, j, rfl, rfl, hc, h⟩ := hf t u w e
  refine ⟨i, j, p.int, q.int, hc, ?_⟩
  rcases h with ⟨n, e1, rfl⟩ | ⟨n, e1, rfl⟩
  · rw [e1]; exact z _ _ (Same.refl _) (one_int n)
  · rw [e1]; exact z _ _ (Same.refl _) (one_bl n)
theorem int0 {g : Int → Int → V} {f : T → T → Option T} (hf : ∀ t u w, f t u = some w → ∃ i j, t = .int i ∧ u = .int j ∧ ((∃ n, g i j = .int n ∧ w = .int n) ∨ ∃ n, g i j = .bl n ∧ w = .bl n)) :
    ∀ (S : Addr → Prop) (H : Hp) (x y : V) (t u w : T) (Q : VK), (∀ a, S a → H a ≠ none) → Pm X.K .w S H H x t → Pm X.K .w S H H y u → f t u = some w → (∀ v H', Same H H' → Pm X.K .f S H H' v w → Q v H') → rI0 g x y H Q := fun S H x y t u w Q hs p q e z => by
  obtain ⟨i, j, rfl, rfl, h⟩ := hf t u w e
  refine ⟨i, j, p.int, q.int, ?_⟩
  rcases h with ⟨n, e1, rfl⟩ | ⟨n, e1, rfl⟩
  · rw [e1]; exact z _ _ (Same.refl _) (one_int n)
  · rw [e1]; exact z _ _ (Same.refl _) (one_bl n)
theorem e_add (ha : PE X a (tG .w X.K S0 H0 W da)) (hb : PE X b (tG .w X.K S0 H0 W db)) : PE X (.BinOp a .Add b pos) (tG .f X.K S0 H0 W (d2 addT da db)) := by
  refine e_bin (op_add.or (op_add_str.or (op_cat.or op_catA))) (fun S H x y t u w Q hs p q e z => ?_) ha hb
  cases t with
  | int i =>
    cases u with
    | int j => cases e; exact .inl ⟨i, j, p.int, q.int, z _ _ (Same.refl _) (one_int _)⟩
    | _ => cases e
  | str i =>
    cases u with
    | str j =>
      by_cases hz : i.length + j.length ≤ sizeLine
      · have e' : (if i.length + j.length ≤ sizeLine then some (T.str (i ++ j)) else none) = some w := e
        rw [if_pos hz] at e'
        cases e'
        exact .inr (.inl ⟨i, j, p.str, q.str, hz, z _ _ (Same.refl _) (one_str _)⟩)
      · have e' : (if i.length + j.length ≤ sizeLine then some (T.str (i ++ j)) else none) = some w := e
        rw [if_neg hz] at e'
        cases e'
    | _ => cases e
  | lst i =>
    cases u with
    | lst j =>
      have e' : (if i.length + j.length ≤ sizeLine then some (T.lst (i ++ j)) else none) = some w := e
      by_cases hz : i.length + j.length ≤ sizeLine
      · rw [if_pos hz] at e'
        cases e'
        obtain ⟨l, xs, ex, hl, rl⟩ := p.lst
        obtain ⟨l2, ys, ey, hl2, rl2⟩ := q.lst
        exact .inr (.inr (.inl ⟨l, l2, xs, ys, ex, ey, hl, hl2, by rw [rl.len, rl2.len]; exact hz, fun n hn => z _ _ (same_upd hn) (new_lst hn (rl.app rl2))⟩))
      · rw [if_neg hz] at e'
        cases e'
    | _ => cases e
  | tup i =>
    cases u with
    | tup j =>
      have e' : (if i.length + j.length ≤ sizeLine then some (T.tup (i ++ j)) else none) = some w := e
      by_cases hz : i.length + j.length ≤ sizeLine
      · rw [if_pos hz] at e'
        cases e'
        obtain ⟨l, xs, ex, hl, rl⟩ := p.tup
        obtain ⟨l2, ys, ey, hl2, rl2⟩ := q.tup
        refine .inr (.inr (.inr ⟨l, l2, xs, ys, ex, ey, hl.sq, hl2.sq, by rw [rl.len, rl2.len]; exact hz, fun en => ?_, fun n1 en => ?_, fun n1 n2 n hn => z _ _ (same_upd hn) (new_tup hs hn (rl.app rl2))⟩))
        · subst en; cases rl
          exact z _ _ (Same.refl _) (.inl ⟨rfl, .tup hl2 rl2⟩)
        · subst en; cases rl2
          exact z _ _ (Same.refl _) (.inl ⟨rfl, by rw [List.append_nil]; exact .tup hl rl⟩)
      · rw [if_neg hz] at e'
        cases e'
    | _ => cases e
  | _ => cases u <;> cases e
theorem some_if {α : Type} {c : Prop} [Decidable c] {x w : α} (h : (if c then some x else none) = some w) : c ∧ w = x := by
  by_cases z : c
  · rw [if_pos z] at h; exact ⟨z, (Option.some.inj h).symm⟩
  · rw [if_neg z] at h; cases h
theorem e_sub (ha : PE X a (tG .w X.K S0 H0 W da)) (hb : PE X b (tG .w X.K S0 H0 W db)) : PE X (.BinOp a .Sub b pos) (tG .f X.K S0 H0 W (d2 subT da db)) :=
  e_bin op_sub (int0 fun t u w e => by cases t <;> cases u <;> first | (cases e; done) | (cases e; exact ⟨_, _, rfl, rfl, .inl ⟨_, rfl, rfl⟩⟩)) ha hb
theorem e_mul (ha : PE X a (tG .w X.K S0 H0 W da)) (hb : PE X b (tG .w X.K S0 H0 W db)) : PE X (.BinOp a .Mult b pos) (tG .f X.K S0 H0 W (d2 mulT da db)) := by
  refine e_bin (op_mulW.or op_rep) (fun S H x y t u w Q hs p q e z => ?_) ha hb
  cases t with
  | int i =>
    cases u with
    | int j =>
      obtain ⟨hc, rfl⟩ := some_if (show (if i.natAbs.log2 + j.natAbs.log2 < 1000000 then some (T.int (i * j)) else none) = some w from e)
      exact .inl ⟨i, j, p.int, q.int, hc, z _ _ (Same.refl _) (one_int _)⟩
    | _ => cases e
  | lst i =>
    cases u with
    | int j =>
      obtain ⟨⟨h1, h2, h3⟩, rfl⟩ := some_if (show (if -(2 ^ 63) ≤ j ∧ j < 2 ^ 63 ∧ i.length * j.toNat ≤ sizeLine then some (T.lst (List.replicate j.toNat i).flatten) else none) = some w from e)
      obtain ⟨l, xs, ex, hl, rl⟩ := p.lst
      exact .inr ⟨l, j, xs, ex, q.int, hl, h1, h2, by rw [rl.len]; exact h3, fun n hn => z _ _ (same_upd hn) (new_lst hn (rl.rep _))⟩
    | _ => cases e
  | _ => cases u <;> cases e
theorem e_div (ha : PE X a (tG .w X.K S0 H0 W da)) (hb : PE X b (tG .w X.K S0 H0 W db)) : PE X (.BinOp a .FloorDiv b pos) (tG .f X.K S0 H0 W (d2 divT da db)) :=
  e_bin op_fdivW (int2 fun t u w e => by
    cases t <;> cases u <;> first | (cases e; done) | skip
    rename_i i j
    obtain ⟨hc, rfl⟩ := some_if (show (if 0 < j ∧ j.natAbs.log2 < 9000 then some (T.int (i / j)) else none) = some w from e)
    exact ⟨_, _, rfl, rfl, hc, .inl ⟨_, rfl, rfl⟩⟩) ha hb
theorem e_mod (ha : PE X a (tG .w X.K S0 H0 W da)) (hb : PE X b (tG .w X.K S0 H0 W db)) : PE X (.BinOp a .Mod b pos) (tG .f X.K S0 H0 W (d2 modT da db)) :=
  e_bin op_mod (int2 fun t u w e => by
    cases t <;> cases u <;> first | (cases e; done) | skip
    rename_i i j
    obtain ⟨hc, rfl⟩ := some_if (show (if 0 < j then some (T.int (i % j)) else none) = some w from e)
    exact ⟨_, _, rfl, rfl, hc, .inl ⟨_, rfl, rfl⟩⟩) ha hb
theorem e_pow (ha : PE X a (tG .w X.K S0 H0 W da)) (hb : PE X b (tG .w X.K S0 H0 W db)) : PE X (.BinOp a .Pow b pos) (tG .f X.K S0 H0 W (d2 powT da db)) :=
  e_bin op_pow (int2 fun t u w e => by
    cases t <;> cases u <;> first | (cases e; done) | skip
    rename_i i j
    obtain ⟨hc, rfl⟩ := some_if (show (if 0 ≤ j ∧ j ≤ 1000000 ∧ i.natAbs < 2 ^ 64 then some (T.int (i ^ j.toNat)) else none) = some w from e)
    exact ⟨_, _, rfl, rfl, hc, .inl ⟨_, rfl, rfl⟩⟩) ha hb
theorem e_shl (ha : PE X a (tG .w X.K S0 H0 W da)) (hb : PE X b (tG .w X.K S0 H0 W db)) : PE X (.BinOp a .LShift b pos) (tG .f X.K S0 H0 W (d2 shlT da db)) :=
  e_bin op_shl (int2 fun t u w e => by
    cases t <;> cases u <;> first | (cases e; done) | skip
    rename_i i j
    obtain ⟨hc, rfl⟩ := some_if (show (if 0 ≤ j ∧ j ≤ 1000000 ∧ i.natAbs < 2 ^ 64 then some (T.int (i * 2 ^ j.toNat)) else none) = some w from e)
    exact ⟨_, _, rfl, rfl, hc, .inl ⟨_, rfl, rfl⟩⟩) ha hb
theorem e_shr (ha : PE X a (tG .w X.K S0 H0 W da)) (hb : PE X b (tG .w X.K S0 H0 W db)) : PE X (.BinOp a .RShift b pos) (tG .f X.K S0 H0 W (d2 shrT da db)) :=
  e_bin op_shr (int2 fun t u w e => by
    cases t <;> cases u <;> first | (cases e; done) | skip
    rename_i i j
    obtain ⟨hc, rfl⟩ := some_if (show (if 0 ≤ j then some (T.int (i / 2 ^ j.toNat)) else none) = some w from e)
    exact ⟨_, _, rfl, rfl, hc, .inl ⟨_, rfl, rfl⟩⟩) ha hb
theorem e_band (ha : PE X a (tG .w X.K S0 H0 W da)) (hb : PE X b (tG .w X.K S0 H0 W db)) : PE X (.BinOp a .BitAnd b pos) (tG .f X.K S0 H0 W (d2 bandT da db)) :=
  e_bin op_and (int0 fun t u w e => by cases t <;> cases u <;> first | (cases e; done) | (cases e; exact ⟨_, _, rfl, rfl, .inl ⟨_, rfl, rfl⟩⟩)) ha hb
theorem e_bxor (ha : PE X a (tG .w X.K S0 H0 W da)) (hb : PE X b (tG .w X.K S0 H0 W db)) : PE X (.BinOp a .BitXor b pos) (tG .f X.K S0 H0 W (d2 bxorT da db)) :=
  e_bin op_xor (int0 fun t u w e => by cases t <;> cases u <;> first | (cases e; done) | (cases e; exact ⟨_, _, rfl, rfl, .inl ⟨_, rfl, rfl⟩⟩)) ha hb
theorem e_neg (ha : PE X a (tG .w X.K S0 H0 W da)) : PE X (.UnaryOp .USub a pos) (tG .f X.K S0 H0 W (d1 negT da)) := pe_imp (pe_un un_neg ha) (im1 fun S H x t w Q hs p e z => by
    cases t <;> first | (cases e; done) | skip
    cases e
    exact ⟨_, p.int, z _ _ (Same.refl _) (one_int _)⟩)

/-! ### comparisons -/
theorem e_cmp {op : CmpOp} {r : R2} {f : T → T → Option T} (ho : OpR X (compareOp op) r)
    (hr : ∀ (S : Addr → Prop) (H : Hp) (x y : V) (t u w : T) (Q : VK), (∀ a, S a → H a ≠ none) → Pm X.K .w S H H x t → Pm X.K .w S H H y u → f t u = some w → (∀ v H', Same H H' → Pm X.K .f S H H' v w → Q v H') → r x y H Q)
    (ha : PE X a (tG .w X.K S0 H0 W da)) (hb : PE X b (tG .w X.K S0 H0 W db)) (hm : behindInMarks op b = false) : PE X (.Compare a [op] [b] pos) (tG .f X.K S0 H0 W (d2 f da db)) := pe_imp (pe_cmpR ho ha hb hm) (im2 hr)
/-- as a test -/
theorem t_cmp {op : CmpOp} {r : R2} {f : T → T → Option T} (ho : OpR X (compareOp op) r)
    (hr : ∀ (S : Addr → Prop) (H : Hp) (x y : V) (t u w : T) (Q : VK), (∀ a, S a → H a ≠ none) → Pm X.K .w S H H x t → Pm X.K .w S H H y u → f t u = some w → (∀ v H', Same H H' → Pm X.K .f S H H' v w → Q v H') → r x y H Q)
    (ha : PE X a (tG .w X.K S0 H0 W da)) (hb : PE X b (tG .w X.K S0 H0 W db)) (hm : behindInMarks op b = false) : PT X (.Compare a [op] [b] pos) (tB X.K S0 H0 W (dTest (d2 f da db))) :=
  pt_imp (pt_cmpR ho ha hb hm) fun σ H Q ⟨ev, ps, r0, z⟩ => im2 hr σ H _ ⟨ev, ps, r0, R.on_mono (R.on_bind z) (fun t q v H' s p => by
    cases t with
    | bl b => exact ⟨b, p.bl, q H' s⟩
    | _ => exact q.elim) fun _ _ q => q⟩
theorem cmpOk {p : Int → Int → Bool} : ∀ t u w, cmpT p t u = some w → ∃ i j, t = .int i ∧ u = .int j ∧ ((∃ n, (fun i j => V.bl (p i j)) i j = .int n ∧ w = .int n) ∨ ∃ n, (fun i j => V.bl (p i j)) i j = .bl n ∧ w = .bl n) := fun t u w e => by
  cases t <;> cases u <;> first | (cases e; done) | (cases e; exact ⟨_, _, rfl, rfl, .inr ⟨_, rfl, rfl⟩⟩)
theorem t_lt (ha : PE X a (tG .w X.K S0 H0 W da)) (hb : PE X b (tG .w X.K S0 H0 W db)) : PT X (.Compare a [.Lt] [b] pos) (tB X.K S0 H0 W (dTest (d2 ltT da db))) := t_cmp op_lt (int0 cmpOk) ha hb (nomark _)
theorem t_le (ha : PE X a (tG .w X.K S0 H0 W da)) (hb : PE X b (tG .w X.K S0 H0 W db)) : PT X (.Compare a [.LtE] [b] pos) (tB X.K S0 H0 W (dTest (d2 leT da db))) := t_cmp op_le (int0 cmpOk) ha hb (nomark _)
theorem t_gt (ha : PE X a (tG .w X.K S0 H0 W da)) (hb : PE X b (tG .w X.K S0 H0 W db)) : PT X (.Compare a [.Gt] [b] pos) (tB X.K S0 H0 W (dTest (d2 gtT da db))) := t_cmp op_gt (int0 cmpOk) ha hb (nomark _)
theorem t_ge (ha : PE X a (tG .w X.K S0 H0 W da)) (hb : PE X b (tG .w X.K S0 H0 W db)) : PT X (.Compare a [.GtE] [b] pos) (tB X.K S0 H0 W (dTest (d2 geT da db))) := t_cmp op_ge (int0 cmpOk) ha hb (nomark _)
theorem e_lt (ha : PE X a (tG .w X.K S0 H0 W da)) (hb : PE X b (tG .w X.K S0 H0 W db)) : PE X (.Compare a [.Lt] [b] pos) (tG .f X.K S0 H0 W (d2 ltT da db)) := e_cmp op_lt (int0 cmpOk) ha hb (nomark _)
theorem e_le (ha : PE X a (tG .w X.K S0 H0 W da)) (hb : PE X b (tG .w X.K S0 H0 W db)) : PE X (.Compare a [.LtE] [b] pos) (tG .f X.K S0 H0 W (d2 leT da db)) := e_cmp op_le (int0 cmpOk) ha hb (nomark _)
theorem e_gt (ha : PE X a (tG .w X.K S0 H0 W da)) (hb : PE X b (tG .w X.K S0 H0 W db)) : PE X (.Compare a [.Gt] [b] pos) (tG .f X.K S0 H0 W (d2 gtT da db)) := e_cmp op_gt (int0 cmpOk) ha hb (nomark _)
theorem e_ge (ha : PE X a (tG .w X.K S0 H0 W da)) (hb : PE X b (tG .w X.K S0 H0 W db)) : PE X (.Compare a [.GtE] [b] pos) (tG .f X.K S0 H0 W (d2 geT da db)) := e_cmp op_ge (int0 cmpOk) ha hb (nomark _)

/-- is None -/
theorem nonV {H : Hp} {x : V} {t : T} (p : Pm X.K .w S H H x t) : decide (x = .non) = isNonB t := by
  have key : isNonB t = false → (∃ a, x = .ref a) → decide (x = .non) = isNonB t := fun e ⟨a, h⟩ => by subst h; rw [e]; rfl
  cases t with
  | non => rw [p.non]; rfl
  | bl b => rw [p.bl]; rfl
  | int i => rw [p.int]; rfl
  | str i => rw [p.str]; rfl
  | _ =>
    refine key rfl ?_
    rcases p with p | ⟨a, e, _⟩
    · cases p <;> exact ⟨_, rfl⟩
    · exact ⟨a, e⟩
theorem isN_imp {g : Bool → Bool} {f : T → Option T} (hf : ∀ t, f t = some (.bl (g (isNonB t)))) :
    ∀ (S : Addr → Prop) (H : Hp) (x : V) (t w : T) (Q : VK), (∀ a, S a → H a ≠ none) → Pm X.K .w S H H x t → f t = some w → (∀ v H', Same H H' → Pm X.K .f S H H' v w → Q v H') → (fun x H Q => Q (.bl (g (decide (x = .non)))) H : V → Hp → VK → Prop) x H Q := fun S H x t w Q hs p e z => by
  rw [hf] at e
  cases e
  show Q (.bl (g (decide (x = .non)))) H
  rw [nonV p]
  exact z _ _ (Same.refl _) (one_bl _)
theorem e_isN {j : Nat} {p' : Pos} (ha : PE X a (tG .w X.K S0 H0 W da)) : PE X (.Compare a [.Is] [.Constant .none j p'] pos) (tG .f X.K S0 H0 W (d1 isNonT da)) := pe_imp (pe_cmp (pc_isN ha) rfl) (im1 (isN_imp (g := id) fun _ => rfl))
theorem e_notN {j : Nat} {p' : Pos} (ha : PE X a (tG .w X.K S0 H0 W da)) : PE X (.Compare a [.IsNot] [.Constant .none j p'] pos) (tG .f X.K S0 H0 W (d1 notNonT da)) := pe_imp (pe_cmp (pc_notN ha) rfl) (im1 (isN_imp (g := not) fun _ => rfl))
theorem t_isN {j : Nat} {p' : Pos} (ha : PE X a (tG .w X.K S0 H0 W da)) : PT X (.Compare a [.Is] [.Constant .none j p'] pos) (tB X.K S0 H0 W (dTest (d1 isNonT da))) :=
  pt_imp (pt_cmpR op_isN ha pe_non (nomark _)) fun σ H Q ⟨ev, ps, r, z⟩ => ⟨ev, ps, r, R.on_mono (R.on_bind (R.on_bind z)) (fun t q v H' s p => ⟨rfl, _, rfl, by rw [nonV p]; exact q H' s⟩) fun _ _ q => q⟩
theorem t_notN {j : Nat} {p' : Pos} (ha : PE X a (tG .w X.K S0 H0 W da)) : PT X (.Compare a [.IsNot] [.Constant .none j p'] pos) (tB X.K S0 H0 W (dTest (d1 notNonT da))) :=
  pt_imp (pt_cmpR op_notN ha pe_non (nomark _)) fun σ H Q ⟨ev, ps, r, z⟩ => ⟨ev, ps, r, R.on_mono (R.on_bind (R.on_bind z)) (fun t q v H' s p => ⟨rfl, _, rfl, by rw [nonV p]; exact q H' s⟩) fun _ _ q => q⟩

/-! ### equality of data -/
mutual
def py : T → PyData
  | .non => .none
  | .bl b => .bool b
  | .int i => .int i
  | .str x => .str x
  | .lst xs => .list (pys xs)
  | .tup xs => .tuple (pys xs)
  | .scr ns => .list (ns.map .int)
  | .dic [] => .dict []
  | _ => .none
def pys : List T → List PyData
  | [] => []
  | t :: ts => py t :: pys ts
end
mutual
def pln : T → Bool
  | .non => true
  | .bl _ => true
  | .int _ => true
  | .str _ => true
  | .lst xs => plns xs
  | .tup xs => plns xs
  | .scr _ => true
  | _ => false
def plns : List T → Bool
  | [] => true
  | t :: ts => pln t && plns ts
end
theorem dpInts {K : PySem.W.Frag} {H : Hp} : ∀ ns : List Int, DpAll K H (ns.map V.int) (ns.map PyData.int)
  | [] => .nil
  | n :: ns => .cons (.int n) (dpInts ns)
mutual
theorem IsT.dp {K : PySem.W.Frag} {H : Hp} : ∀ {v : V} {t : T}, IsT K S H v t → pln t = true → Dp K H v (py t)
  | _, _, .non, _ => by unfold py; exact .non
  | _, _, .bl b, _ => by unfold py; exact .bl b
  | _, _, .int i, _ => by unfold py; exact .int i
  | _, _, .str x, _ => by unfold py; exact .str x
  | _, _, .lst n h r, p => by unfold py; unfold pln at p; exact .lst (SqL.of h) (IsTs.dp r p)
  | _, _, .tup h r, p => by unfold py; unfold pln at p; exact .tup h.sq (IsTs.dp r p)
  | _, _, .dic _ _ _, p => by simp [pln] at p
  | _, _, .dit _ _ _, p => by simp [pln] at p
  | _, _, .exc0 _ _, p => by simp [pln] at p
  | _, _, .exc _ _ _ _ _, p => by simp [pln] at p
  | _, _, .scr h, _ => by unfold py; exact .lst h.sq (dpInts _)
  | _, _, .ob _, p => by simp [pln] at p
theorem IsTs.dp {K : PySem.W.Frag} {H : Hp} : ∀ {v : List V} {t : List T}, IsTs K S H v t → plns t = true → DpAll K H v (pys t)
  | _, _, .nil, _ => by unfold pys; exact .nil
  | _, _, .cons h r, p => by
    unfold plns at p
    unfold pys
    have q := Bool.and_eq_true_iff.mp p
    exact .cons (IsT.dp h q.1) (IsTs.dp r q.2)
end
theorem Pm.dp {K : PySem.W.Frag} {H H' : Hp} {v : V} {t : T} (p : Pm K .w S H H' v t) (h : pln t = true) : Dp K H' v (py t) := by
  rcases p with p | ⟨a, rfl, c⟩
  · exact p.dp h
  · cases c with
    | lst g r => unfold py; unfold pln at h; exact .lst (SqL.of g) (r.dp h)
    | dic g r => simp [pln] at h
    | dit g r => simp [pln] at h
def okE (t : T) : Bool := pln t && SeqAt.shaped (py t)
def eqG (n : Bool → Bool) (t u : T) : Option T := match t, u with
  | .str a, .str b => some (.bl (n (decide (a = b))))
  | t, u => if okE t = true ∧ okE u = true then some (.bl (n (PyData.eqv (py t) (py u)))) else none
def eqT : T → T → Option T := eqG id
def neT : T → T → Option T := eqG not
theorem eqG_cases {n : Bool → Bool} {t u w : T} (h : eqG n t u = some w) : (∃ a b, t = .str a ∧ u = .str b ∧ w = .bl (n (decide (a = b)))) ∨ (okE t = true ∧ okE u = true ∧ w = .bl (n (PyData.eqv (py t) (py u)))) := by
  unfold eqG at h
  split at h
  · cases h; exact .inl ⟨_, _, rfl, rfl, rfl⟩
  · obtain ⟨⟨h1, h2⟩, e⟩ := some_if h
    exact .inr ⟨h1, h2, e⟩
theorem eq_imp {n : Bool → Bool} {r0 r : R2} (hr0 : ∀ (a b : Str) (H : Hp) (Q : VK), Q (.bl (n (decide (a = b)))) H → r0 (.str a) (.str b) H Q) (hr : r = fun x y H Q => ∃ d e, Dp X.K H x d ∧ Dp X.K H y e ∧ SeqAt.shaped d = true ∧ SeqAt.shaped e = true ∧ Q (.bl (n (PyData.eqv d e))) H) :
    ∀ (S : Addr → Prop) (H : Hp) (x y : V) (t u w : T) (Q : VK), (∀ a, S a → H a ≠ none) → Pm X.K .w S H H x t → Pm X.K .w S H H y u → eqG n t u = some w → (∀ v H', Same H H' → Pm X.K .f S H H' v w → Q v H') → (fun x y H Q => r0 x y H Q ∨ r x y H Q : R2) x y H Q := fun S H x y t u w Q hs p q e z => by
  rcases eqG_cases e with ⟨a, b, rfl, rfl, rfl⟩ | ⟨h1, h2, rfl⟩
  · refine .inl ?_
    rw [p.str, q.str]
    exact hr0 a b H Q (z _ _ (Same.refl _) (one_bl _))
  · obtain ⟨a1, b1⟩ := Bool.and_eq_true_iff.mp h1
    obtain ⟨a2, b2⟩ := Bool.and_eq_true_iff.mp h2
    subst hr
    exact .inr ⟨_, _, p.dp a1, q.dp a2, b1, b2, z _ _ (Same.refl _) (one_bl _)⟩
theorem req_str (a b : Str) (H : Hp) (Q : VK) (h : Q (.bl (id (decide (a = b)))) H) : rEq (.str a) (.str b) H Q := ⟨rfl, by
  have e : decide (V.str a = V.str b) = decide (a = b) := by by_cases z : a = b <;> simp [z]
  rw [e]; exact h⟩
theorem rne_str (a b : Str) (H : Hp) (Q : VK) (h : Q (.bl (not (decide (a = b)))) H) : rNe (.str a) (.str b) H Q := ⟨rfl, by
  have e : decide (V.str a = V.str b) = decide (a = b) := by by_cases z : a = b <;> simp [z]
  rw [e]; exact h⟩
theorem t_eq (cn : Cn X W k) (ha : PE X a (tG .w X.K S0 H0 W da)) (hb : PE X b (tG .w X.K S0 H0 W db)) : PT X (.Compare a [.Eq] [b] pos) (tB X.K S0 H0 W (dTest (d2 eqT da db))) := t_cmp (op_eq.or (op_eqD cn.room.units)) (eq_imp (n := id) req_str rfl) ha hb (nomark _)
theorem t_ne (cn : Cn X W k) (ha : PE X a (tG .w X.K S0 H0 W da)) (hb : PE X b (tG .w X.K S0 H0 W db)) : PT X (.Compare a [.NotEq] [b] pos) (tB X.K S0 H0 W (dTest (d2 neT da db))) := t_cmp (op_ne.or (op_neD cn.room.units)) (eq_imp (n := not) rne_str rfl) ha hb (nomark _)
theorem e_eq (cn : Cn X W k) (ha : PE X a (tG .w X.K S0 H0 W da)) (hb : PE X b (tG .w X.K S0 H0 W db)) : PE X (.Compare a [.Eq] [b] pos) (tG .f X.K S0 H0 W (d2 eqT da db)) := e_cmp (op_eq.or (op_eqD cn.room.units)) (eq_imp (n := id) req_str rfl) ha hb (nomark _)
theorem e_ne (cn : Cn X W k) (ha : PE X a (tG .w X.K S0 H0 W da)) (hb : PE X b (tG .w X.K S0 H0 W db)) : PE X (.Compare a [.NotEq] [b] pos) (tG .f X.K S0 H0 W (d2 neT da db)) := e_cmp (op_ne.or (op_neD cn.room.units)) (eq_imp (n := not) rne_str rfl) ha hb (nomark _)
/-! xs == [], whatever stands in xs -/
def nilG (n : Bool → Bool) : T → T → Option T
  | .lst xs, .lst [] => some (.bl (n xs.isEmpty))
  | _, _ => none
theorem op_eqN (hu : X.A.units < cLine) : OpR X (compareOp .Eq) (fun x y H Q => ∃ a b xs, x = .ref a ∧ y = .ref b ∧ SqL X.K H a xs ∧ SqL X.K H b [] ∧ Q (.bl (id xs.isEmpty)) H) := by
  rintro pins s σ H x y v u Q I rx ry ⟨a, b, xs, rfl, rfl, ha, hb, q⟩
  obtain rfl : v = Value.ref a := rx
  obtain rfl : u = Value.ref b := ry
  obtain ⟨i1, r1, t1, _⟩ := I.list ha
  obtain ⟨i2, r2, t2, _⟩ := I.list hb
  cases r2
  cases xs with
  | nil =>
    cases r1
    exact (SeqAt.RcAt.lists (e := fun _ => true) t1.isList t2.isList rfl hu fun j h1 _ => absurd h1 (Nat.not_lt_zero _)) X.prog X.w _ _ ⟨.bl _, H, I, rfl, q⟩
  | cons z zs =>
    cases r1
    exact (SeqAt.RcAt.lists_lengths t1.isList t2.isList (by simp) hu) X.prog X.w _ _ ⟨.bl _, H, I, rfl, q⟩
theorem op_neN (hu : X.A.units < cLine) : OpR X (compareOp .NotEq) (fun x y H Q => ∃ a b xs, x = .ref a ∧ y = .ref b ∧ SqL X.K H a xs ∧ SqL X.K H b [] ∧ Q (.bl (not xs.isEmpty)) H) := by
  rintro pins s σ H x y v u Q I rx ry ⟨a, b, xs, rfl, rfl, ha, hb, q⟩
  obtain rfl : v = Value.ref a := rx
  obtain rfl : u = Value.ref b := ry
  obtain ⟨i1, r1, t1, _⟩ := I.list ha
  obtain ⟨i2, r2, t2, _⟩ := I.list hb
  cases r2
  cases xs with
  | nil =>
    cases r1
    exact (SeqAt.RcNeAt.lists (e := fun _ => true) t1.isList t2.isList rfl hu fun j h1 _ => absurd h1 (Nat.not_lt_zero _)) X.prog X.w _ _ ⟨.bl _, H, I, rfl, q⟩
  | cons z zs =>
    cases r1
    exact (SeqAt.RcNeAt.lists_lengths t1.isList t2.isList (by simp) hu) X.prog X.w _ _ ⟨.bl _, H, I, rfl, q⟩
theorem nil_imp {n : Bool → Bool} : ∀ (S : Addr → Prop) (H : Hp) (x y : V) (t u w : T) (Q : VK), (∀ a, S a → H a ≠ none) → Pm X.K .w S H H x t → Pm X.K .w S H H y u → nilG n t u = some w → (∀ v H', Same H H' → Pm X.K .f S H H' v w → Q v H') →
    (fun x y H Q => ∃ a b xs, x = .ref a ∧ y = .ref b ∧ SqL X.K H a xs ∧ SqL X.K H b [] ∧ Q (.bl (n xs.isEmpty)) H : R2) x y H Q := fun S H x y t u w Q hs p q e z => by
  unfold nilG at e
  split at e
  · rename_i ts
    cases e
    obtain ⟨a, xs, rfl, h, r⟩ := p.lst
    obtain ⟨b, ys, rfl, h2, r2⟩ := q.lst
    cases r2
    refine ⟨a, b, xs, rfl, rfl, SqL.of h, SqL.of h2, ?_⟩
    have e2 : xs.isEmpty = ts.isEmpty := by cases r <;> rfl
    rw [e2]
    exact z _ _ (Same.refl _) (one_bl _)
  · cases e
theorem t_neN (cn : Cn X W k) (ha : PE X a (tG .w X.K S0 H0 W da)) (hb : PE X b (tG .w X.K S0 H0 W db)) : PT X (.Compare a [.NotEq] [b] pos) (tB X.K S0 H0 W (dTest (d2 (nilG not) da db))) := t_cmp (op_neN (by have := cn.room.units; omega)) (nil_imp (n := not)) ha hb (nomark _)
theorem t_eqN (cn : Cn X W k) (ha : PE X a (tG .w X.K S0 H0 W da)) (hb : PE X b (tG .w X.K S0 H0 W db)) : PT X (.Compare a [.Eq] [b] pos) (tB X.K S0 H0 W (dTest (d2 (nilG id) da db))) := t_cmp (op_eqN (by have := cn.room.units; omega)) (nil_imp (n := id)) ha hb (nomark _)
theorem e_neN (cn : Cn X W k) (ha : PE X a (tG .w X.K S0 H0 W da)) (hb : PE X b (tG .w X.K S0 H0 W db)) : PE X (.Compare a [.NotEq] [b] pos) (tG .f X.K S0 H0 W (d2 (nilG not) da db)) := e_cmp (op_neN (by have := cn.room.units; omega)) (nil_imp (n := not)) ha hb (nomark _)
theorem e_eqN (cn : Cn X W k) (ha : PE X a (tG .w X.K S0 H0 W da)) (hb : PE X b (tG .w X.K S0 H0 W db)) : PE X (.Compare a [.Eq] [b] pos) (tG .f X.K S0 H0 W (d2 (nilG id) da db)) := e_cmp (op_eqN (by have := cn.room.units; omega)) (nil_imp (n := id)) ha hb (nomark _)
/-- x is True, x is not True -/
def isBT (n : Bool → Bool) : T → T → Option T
  | .bl a, .bl b => some (.bl (n (decide (a = b))))
  | _, _ => none
theorem isB_imp {n : Bool → Bool} : ∀ (S : Addr → Prop) (H : Hp) (x y : V) (t u w : T) (Q : VK), (∀ a, S a → H a ≠ none) → Pm X.K .w S H H x t → Pm X.K .w S H H y u → isBT n t u = some w → (∀ v H', Same H H' → Pm X.K .f S H H' v w → Q v H') →
    (fun x y H Q => ∃ a b, x = .bl a ∧ y = .bl b ∧ Q (.bl (n (decide (a = b)))) H : R2) x y H Q := fun S H x y t u w Q hs p q e z => by
  cases t <;> cases u <;> first | (cases e; done) | (cases e; exact ⟨_, _, p.bl, q.bl, z _ _ (Same.refl _) (one_bl _)⟩)
theorem t_isB (ha : PE X a (tG .w X.K S0 H0 W da)) (hb : PE X b (tG .w X.K S0 H0 W db)) : PT X (.Compare a [.Is] [b] pos) (tB X.K S0 H0 W (dTest (d2 (isBT id) da db))) := t_cmp op_is_bl (isB_imp (n := id)) ha hb (nomark _)
theorem t_notB (ha : PE X a (tG .w X.K S0 H0 W da)) (hb : PE X b (tG .w X.K S0 H0 W db)) : PT X (.Compare a [.IsNot] [b] pos) (tB X.K S0 H0 W (dTest (d2 (isBT not) da db))) := t_cmp op_isnot_bl (isB_imp (n := not)) ha hb (nomark _)
theorem e_isB (ha : PE X a (tG .w X.K S0 H0 W da)) (hb : PE X b (tG .w X.K S0 H0 W db)) : PE X (.Compare a [.Is] [b] pos) (tG .f X.K S0 H0 W (d2 (isBT id) da db)) := e_cmp op_is_bl (isB_imp (n := id)) ha hb (nomark _)
theorem e_notB (ha : PE X a (tG .w X.K S0 H0 W da)) (hb : PE X b (tG .w X.K S0 H0 W db)) : PE X (.Compare a [.IsNot] [b] pos) (tG .f X.K S0 H0 W (d2 (isBT not) da db)) := e_cmp op_isnot_bl (isB_imp (n := not)) ha hb (nomark _)

/-! ### a op b op c -/
def dChain (f g : T → T → Option T) (da db dc : Lo → R T) : Lo → R T := fun ev => (da ev).bind fun t => (db ev).bind fun u => (ofO (f t u)).bind fun z => match z with
  | .bl true => (dc ev).bind fun w => ofO (g u w)
  | .bl false => .ok (.bl false)
  | _ => .bad
theorem chain_imp {ce : Expr} {dc : Lo → R T} {r r' : R2} {f g : T → T → Option T}
    (hr : ∀ (S : Addr → Prop) (H : Hp) (x y : V) (t u w : T) (Q : VK), (∀ a, S a → H a ≠ none) → Pm X.K .w S H H x t → Pm X.K .w S H H y u → f t u = some w → (∀ v H', Same H H' → Pm X.K .f S H H' v w → Q v H') → r x y H Q)
    (hr' : ∀ (S : Addr → Prop) (H : Hp) (x y : V) (t u w : T) (Q : VK), (∀ a, S a → H a ≠ none) → Pm X.K .w S H H x t → Pm X.K .w S H H y u → g t u = some w → (∀ v H', Same H H' → Pm X.K .f S H H' v w → Q v H') → r' x y H Q) :
    ∀ σ H Q, tG .f X.K S0 H0 W (dChain f g da db dc) σ H Q → tChain r r' (tG .w X.K S0 H0 W da) (tG .w X.K S0 H0 W db) (tG .w X.K S0 H0 W dc) σ H Q := fun σ H Q ⟨ev, ps, r0, z⟩ => by
  refine ⟨ev, ps, r0, R.on_mono (R.on_bind z) (fun t q v H1 s1 p1 => ?_) fun _ _ q => q⟩
  refine ⟨ev, ps, r0.up s1, R.on_mono (R.on_bind q) (fun u q2 v2 H2 s2 p2 => ?_) fun c fs q2 cls dd H2 s2 x => q2 cls dd H2 (s1.trans s2) x⟩
  cases e : f t u with
  | none => rw [e] at q2; exact q2.elim
  | some w =>
    rw [e] at q2
    refine hr _ H2 v v2 t u w _ (r0.up (s1.trans s2)).sx (Pm.up (m := .w) s2 p1) p2 e fun v3 H3 s3 p3 => ?_
    cases w with
    | bl b =>
      refine ⟨b, p3.bl, ?_⟩
      have s13 := (s1.trans s2).trans s3
      cases b with
      | true =>
        refine iteT ⟨ev, ps, r0.up s13, R.on_mono (R.on_bind (show R.on ((dc ev).bind fun w => ofO (g u w)) _ _ from q2)) (fun w q4 v4 H4 s4 p4 => ?_) fun c fs q4 cls dd H4 s4 x => q4 cls dd H4 (s13.trans s4) x⟩
        cases e2 : g u w with
        | none => rw [e2] at q4; exact q4.elim
        | some w2 =>
          rw [e2] at q4
          exact hr' _ H4 v2 v4 u w w2 Q (r0.up (s13.trans s4)).sx (Pm.up (m := .w) (s3.trans s4) p2) p4 e2 fun v5 H5 s5 p5 => q4 v5 H5 ((s13.trans s4).trans s5) (p5.back (s13.trans s4))
      | false => exact iteF (q2 _ H3 s13 (one_bl false))
    | _ => exact q2.elim
theorem e_chain {ce : Expr} {dc : Lo → R T} {op op' : CmpOp} {r r' : R2} {f g : T → T → Option T} (ho : OpR X (compareOp op) r) (ho' : OpR X (compareOp op') r')
    (hr : ∀ (S : Addr → Prop) (H : Hp) (x y : V) (t u w : T) (Q : VK), (∀ a, S a → H a ≠ none) → Pm X.K .w S H H x t → Pm X.K .w S H H y u → f t u = some w → (∀ v H', Same H H' → Pm X.K .f S H H' v w → Q v H') → r x y H Q)
    (hr' : ∀ (S : Addr → Prop) (H : Hp) (x y : V) (t u w : T) (Q : VK), (∀ a, S a → H a ≠ none) → Pm X.K .w S H H x t → Pm X.K .w S H H y u → g t u = some w → (∀ v H', Same H H' → Pm X.K .f S H H' v w → Q v H') → r' x y H Q)
    (ha : PE X a (tG .w X.K S0 H0 W da)) (hb : PE X b (tG .w X.K S0 H0 W db)) (hc : PE X ce (tG .w X.K S0 H0 W dc)) (hm : lastMarks [op, op'] [b, ce] = false := by with_unfolding_all rfl) :
    PE X (.Compare a [op, op'] [b, ce] pos) (tG .f X.K S0 H0 W (dChain f g da db dc)) := pe_imp (pe_chain ho ho' ha hb hc hm) (chain_imp (ce := ce) hr hr')
theorem t_chain {ce : Expr} {dc : Lo → R T} {op op' : CmpOp} {r r' : R2} {f g : T → T → Option T} (ho : OpR X (compareOp op) r) (ho' : OpR X (compareOp op') r')
    (hr : ∀ (S : Addr → Prop) (H : Hp) (x y : V) (t u w : T) (Q : VK), (∀ a, S a → H a ≠ none) → Pm X.K .w S H H x t → Pm X.K .w S H H y u → f t u = some w → (∀ v H', Same H H' → Pm X.K .f S H H' v w → Q v H') → r x y H Q)
    (hr' : ∀ (S : Addr → Prop) (H : Hp) (x y : V) (t u w : T) (Q : VK), (∀ a, S a → H a ≠ none) → Pm X.K .w S H H x t → Pm X.K .w S H H y u → g t u = some w → (∀ v H', Same H H' → Pm X.K .f S H H' v w → Q v H') → r' x y H Q)
    (ha : PE X a (tG .w X.K S0 H0 W da)) (hb : PE X b (tG .w X.K S0 H0 W db)) (hc : PE X ce (tG .w X.K S0 H0 W dc)) (hm : lastMarks [op, op'] [b, ce] = false := by with_unfolding_all rfl) :
    PT X (.Compare a [op, op'] [b, ce] pos) (tB X.K S0 H0 W (dTest (dChain f g da db dc))) := pt_imp (pt_chain ho ho' ha hb hc hm) fun σ H Q ⟨ev, ps, r0, z⟩ =>
  chain_imp (ce := ce) hr hr' σ H _ ⟨ev, ps, r0, R.on_mono (R.on_bind z) (fun t q v H' s p => by
    cases t with
    | bl b => exact ⟨b, p.bl, q H' s⟩
    | _ => exact q.elim) fun _ _ q => q⟩
theorem e_lele {ce : Expr} {dc : Lo → R T} (ha : PE X a (tG .w X.K S0 H0 W da)) (hb : PE X b (tG .w X.K S0 H0 W db)) (hc : PE X ce (tG .w X.K S0 H0 W dc)) (hm : lastMarks [.LtE, .LtE] [b, ce] = false := by with_unfolding_all rfl) :
    PE X (.Compare a [.LtE, .LtE] [b, ce] pos) (tG .f X.K S0 H0 W (dChain leT leT da db dc)) := e_chain op_le op_le (int0 cmpOk) (int0 cmpOk) ha hb hc hm
theorem t_lele {ce : Expr} {dc : Lo → R T} (ha : PE X a (tG .w X.K S0 H0 W da)) (hb : PE X b (tG .w X.K S0 H0 W db)) (hc : PE X ce (tG .w X.K S0 H0 W dc)) (hm : lastMarks [.LtE, .LtE] [b, ce] = false := by with_unfolding_all rfl) :
    PT X (.Compare a [.LtE, .LtE] [b, ce] pos) (tB X.K S0 H0 W (dTest (dChain leT leT da db dc))) := t_chain op_le op_le (int0 cmpOk) (int0 cmpOk) ha hb hc hm
end
end DL

set_option maxHeartbeats 1000000
namespace DL
open PySem PySem.Spec PyProof.Rows L2

/-! ### subscripts -/
def ixT : T → T → Option T
  | .lst xs, .int i => atI xs i
  | .tup xs, .int i => atI xs i
  | .scr ns, .int i => (atI ns i).map T.int
  | .str z, .int i => if z.length ≤ sizeLine then (atI z.cps.toList i).map fun c => T.str ⟨#[c]⟩ else none
  | _, _ => none
def cut {α : Type} (xs : List α) (lo hi : Option Int) : List α := (xs.drop (HT.sIx xs.length 0 lo)).take (HT.sIx xs.length xs.length hi - HT.sIx xs.length 0 lo)
def sliceT (t : T) (lo hi : Option Int) : Option T := match t with
  | .lst xs => some (.lst (cut xs lo hi))
  | .tup xs => some (.tup (cut xs lo hi))
  | .scr ns => some (.lst ((cut ns lo hi).map .int))
  | .str z => if z.length ≤ sizeLine then some (.str (cutS z lo hi)) else none
  | _ => none
def dPn : Lo → R (Option Int) := fun _ => .ok none
def dPs (a : Lo → R T) : Lo → R (Option Int) := fun ev => (a ev).bind fun t => match t with
  | .int i => .ok (some i)
  | _ => .bad
def dSlice (a : Lo → R T) (lo hi : Lo → R (Option Int)) : Lo → R T := fun ev => (a ev).bind fun t => (lo ev).bind fun l => (hi ev).bind fun h => ofO (sliceT t l h)
def tP (K : PySem.W.Frag) (S0 : Addr → Prop) (H0 : Hp) (W : WX) (d : Lo → R (Option Int)) : TO := fun σ H Q => ∃ ev ps, Rp K S0 H0 ps σ H ev ∧
  (d ev).on (fun o => ∀ H', Same H H' → Q o H') (fun c fs => ∀ cls dd H', Same H H' → IsX K (Sx S0 σ ev) H' cls dd c fs → W cls dd σ H')
section
variable {X : Cx} {e a b : Expr} {S S0 : Addr → Prop} {H0 : Hp} {W : WX} {d da db : Lo → R T} {c : Lo → R Bool} {pos : Pos} {m ma mb : Md} {k : Nat}
theorem ixN_map {α β : Type} (f : α → β) (xs : List α) (i : Int) : atI (xs.map f) i = (atI xs i).map f := by
  unfold atI
  rw [List.length_map]
  cases ixN xs.length i with
  | none => rfl
  | some j => simp
theorem atI_ts {K : PySem.W.Frag} {H : Hp} {vs : List V} {ts : List T} {i : Int} {t : T} (r : IsTs K S H vs ts) (h : atI ts i = some t) : ∃ v, atI vs i = some v ∧ IsT K S H v t := by
  unfold atI at h ⊢
  rw [r.len]
  cases e : ixN ts.length i with
  | none => rw [e] at h; cases h
  | some j =>
    rw [e] at h
    obtain ⟨v, h1, h2⟩ := r.get (i := j) (t := t) h
    exact ⟨v, h1, h2⟩
theorem e_ix (ha : PE X a (tG .w X.K S0 H0 W da)) (hb : PE X b (tG .w X.K S0 H0 W db)) (hs : PlainIx b := by exact fun _ _ => rfl) : PE X (.Subscript a b pos) (tG .s X.K S0 H0 W (d2 ixT da db)) := by
  refine pe_imp (pe_ix ix_seq ha hb hs) (im2 fun S H x y t u w Q hs p q e z => ?_)
  cases u with
  | int i =>
    cases t with
    | lst xs =>
      obtain ⟨l, vs, ex, hl, r⟩ := p.lst
      obtain ⟨v, h1, h2⟩ := atI_ts r e
      exact .inl ⟨l, vs, i, v, ex, q.int, SqL.of hl, h1, z _ _ (Same.refl _) h2⟩
    | tup xs =>
      obtain ⟨l, vs, ex, hl, r⟩ := p.tup
      obtain ⟨v, h1, h2⟩ := atI_ts r e
      exact .inr (.inl ⟨l, vs, i, v, ex, q.int, hl.sq, h1, z _ _ (Same.refl _) h2⟩)
    | scr ns =>
      obtain ⟨l, ex, hl⟩ := p.scr
      have e' : (atI ns i).map T.int = some w := e
      cases e2 : atI ns i with
      | none => rw [e2] at e'; cases e'
      | some n =>
        rw [e2] at e'
        cases e'
        exact .inl ⟨l, _, i, .int n, ex, q.int, hl.sq, by rw [ixN_map, e2]; rfl, z _ _ (Same.refl _) (IsT.int n)⟩
    | str s =>
      obtain ⟨hz, e'⟩ : s.length ≤ sizeLine ∧ (atI s.cps.toList i).map (fun c => T.str ⟨#[c]⟩) = some w := by
        have e1 : (if s.length ≤ sizeLine then (atI s.cps.toList i).map fun c => T.str ⟨#[c]⟩ else none) = some w := e
        by_cases hz : s.length ≤ sizeLine
        · rw [if_pos hz] at e1; exact ⟨hz, e1⟩
        · rw [if_neg hz] at e1; cases e1
      cases e2 : atI s.cps.toList i with
      | none => rw [e2] at e'; cases e'
      | some n =>
        rw [e2] at e'
        cases e'
        exact .inr (.inr ⟨s, i, n, p.str, q.int, hz, e2, z _ _ (Same.refl _) (IsT.str _)⟩)
    | _ => cases e
  | _ => cases t <;> cases e
theorem o_none : PO X none (tP X.K S0 H0 W dPn) := ⟨fun pins s σ H Q I ⟨ev, ps, r, z⟩ => po_none.run pins s σ H Q I (z H (Same.refl _))⟩
theorem o_some (h : PE X e (tG m X.K S0 H0 W d)) : PO X (some e) (tP X.K S0 H0 W (dPs d)) := ⟨fun pins s σ H Q I ⟨ev, ps, r, z⟩ => (po_some h).run pins s σ H Q I
  ⟨ev, ps, r, R.on_mono (R.on_bind z) (fun t q v H' s p => by
    cases t with
    | int i => exact ⟨i, p.int, q H' s⟩
    | _ => exact q.elim) fun _ _ q => q⟩⟩
theorem e_slice {lo hi : Option Expr} {dl dh : Lo → R (Option Int)} {p2 : Pos} (he : PE X e (tG .w X.K S0 H0 W d)) (hl : PO X lo (tP X.K S0 H0 W dl)) (hu : PO X hi (tP X.K S0 H0 W dh)) :
    PE X (.Subscript e (.Slice lo hi none p2) pos) (tG .f X.K S0 H0 W (dSlice d dl dh)) := pe_imp (pe_slice (sl_list.or (sl_tupA.or sl_str)) he hl hu) fun σ H Q ⟨ev, ps, r0, z⟩ => by
  refine ⟨ev, ps, r0, R.on_mono (R.on_bind z) (fun t q v H1 s1 p1 => ?_) fun _ _ q => q⟩
  refine ⟨ev, ps, r0.up s1, R.on_mono (R.on_bind q) (fun l q2 H2 s2 => ?_) fun c fs q2 cls dd H2 s2 x => q2 cls dd H2 (s1.trans s2) x⟩
  have s12 := s1.trans s2
  refine ⟨ev, ps, r0.up s12, R.on_mono (R.on_bind q2) (fun h q3 H3 s3 => ?_) fun c fs q2 cls dd H2 s2 x => q2 cls dd H2 (s12.trans s2) x⟩
  have s13 := s12.trans s3
  have p3 := Pm.up (m := .w) (s2.trans s3) p1
  have hs := (r0.up s13).sx
  cases t with
  | lst xs =>
    obtain ⟨a, vs, ex, hl, rl⟩ := p3.lst
    refine .inl ⟨a, vs, ex, SqL.of hl, fun n hn => q3 _ _ (s13.trans (same_upd hn)) ?_⟩
    have e1 : cutV vs l h = (vs.drop (HT.sIx xs.length 0 l)).take (HT.sIx xs.length xs.length h - HT.sIx xs.length 0 l) := by unfold cutV; rw [rl.len]
    rw [e1]
    exact (new_lst hn ((rl.drop _).take _)).back s13
  | tup xs =>
    obtain ⟨a, vs, ex, hl, rl⟩ := p3.tup
    have e1 : cutV vs l h = (vs.drop (HT.sIx xs.length 0 l)).take (HT.sIx xs.length xs.length h - HT.sIx xs.length 0 l) := by unfold cutV; rw [rl.len]
    refine .inr (.inl ⟨a, vs, ex, hl.sq, fun hw => q3 _ _ s13 ?_, fun hw n hn => q3 _ _ (s13.trans (same_upd hn)) ?_⟩)
    · have e2 : cut xs l h = xs := by
        have hw1 := hw.1
        have hw2 := hw.2
        rw [rl.len] at hw1 hw2
        unfold cut
        rw [hw1, hw2]; simp
      rw [e2]
      exact .inl ⟨rfl, .tup hl rl⟩
    · rw [e1]
      exact (new_tup hs hn ((rl.drop _).take _)).back s13
  | scr ns =>
    obtain ⟨a, ex, hl⟩ := p3.scr
    refine .inl ⟨a, _, ex, hl.sq, fun n hn => q3 _ _ (s13.trans (same_upd hn)) ?_⟩
    have e1 : cutV (ns.map V.int) l h = (cut ns l h).map V.int := by unfold cutV cut; rw [List.length_map, ← List.map_drop, ← List.map_take]
    have e2 : ∀ (ms : List Int), IsTs X.K (Sx S0 σ ev) H3 (ms.map V.int) (ms.map T.int) := fun ms => by
      induction ms with
      | nil => exact .nil
      | cons i ms ih => exact .cons (.int i) ih
    rw [e1]
    exact (new_lst hn (e2 _)).back s13
  | str s =>
    have q3' : (ofO (if s.length ≤ sizeLine then some (T.str (cutS s l h)) else none)).on (fun t => ∀ v H', Same H H' → Pm X.K .f (Sx S0 σ ev) H H' v t → Q v H') _ := q3
    by_cases hz : s.length ≤ sizeLine
    · rw [if_pos hz] at q3'
      exact .inr (.inr ⟨s, p3.str, hz, q3' _ _ s13 (one_str _)⟩)
    · rw [if_neg hz] at q3'
      exact q3'.elim
  | _ => exact q3.elim

/-! ### built-in functions -/
inductive IsWs (K : PySem.W.Frag) (S : Addr → Prop) (H : Hp) : List V → List T → Prop
  | nil : IsWs K S H [] []
  | cons {v : V} {t : T} {vs : List V} {ts : List T} (h : Pm K .w S H H v t) (r : IsWs K S H vs ts) : IsWs K S H (v :: vs) (t :: ts)
theorem IsWs.same {K : PySem.W.Frag} {H H' : Hp} (s : Same H H') : ∀ {vs : List V} {ts : List T}, IsWs K S H vs ts → IsWs K S H' vs ts
  | _, _, .nil => .nil
  | _, _, .cons h r => .cons (Pm.up (m := .w) s h) (IsWs.same s r)
def tAw (K : PySem.W.Frag) (S0 : Addr → Prop) (H0 : Hp) (W : WX) (d : Lo → R (List T)) : TA := fun σ H Q => ∃ ev ps, Rp K S0 H0 ps σ H ev ∧
  (d ev).on (fun ts => ∀ vs H', Same H H' → IsWs K (Sx S0 σ ev) H' vs ts → Q vs H') (fun c fs => ∀ cls dd H', Same H H' → IsX K (Sx S0 σ ev) H' cls dd c fs → W cls dd σ H')
variable {es : List Expr} {ds : Lo → R (List T)}
theorem w_nil : PA X [] (tAw X.K S0 H0 W dNil) := ⟨fun pos pins s σ H Q I ⟨ev, ps, r, z⟩ => pa_nil.run pos pins s σ H Q I (z [] H (Same.refl _) .nil)⟩
theorem w_cons (ha : PE X e (tG .w X.K S0 H0 W d)) (hr : PA X es (tAw X.K S0 H0 W ds)) (hs : starEach (e :: es) X.env = (false, eval e X.env) :: starEach es X.env := by rfl) : PA X (e :: es) (tAw X.K S0 H0 W (dCons d ds)) := by
  refine ⟨fun pos pins s σ H Q I h => (pa_cons ha hr hs).run pos pins s σ H Q I ?_⟩
  obtain ⟨ev, ps, r, z⟩ := h
  refine ⟨ev, ps, r, R.on_mono (R.on_bind z) (fun t q v H1 s1 p1 => ?_) fun _ _ q => q⟩
  refine ⟨ev, ps, r.up s1, R.on_mono (R.on_bind q) (fun ts q2 vs H2 s2 p2 => q2 _ H2 (s1.trans s2) (.cons ?_ p2)) fun c fs q2 cls dd H2 s2 x => q2 cls dd H2 (s1.trans s2) x⟩
  exact Pm.up (m := .w) s2 p1
def dBlt (f : List T → Option T) (ds : Lo → R (List T)) : Lo → R T := fun ev => (ds ev).bind fun ts => ofO (f ts)
/-- what a built-in's rule asks and answers -/
def BOk (K : PySem.W.Frag) (m : Md) (r : List V → Hp → VK → Prop) (f : List T → Option T) : Prop :=
  ∀ (S : Addr → Prop) (H : Hp) (vs : List V) (ts : List T) (w : T) (Q : VK), (∀ a, S a → H a ≠ none) → IsWs K S H vs ts → f ts = some w → (∀ v H', Same H H' → Pm K m S H H' v w → Q v H') → r vs H Q
theorem imB {r : List V → Hp → VK → Prop} {f : List T → Option T} (hr : BOk X.K m r f) : ∀ σ H Q, tG m X.K S0 H0 W (dBlt f ds) σ H Q → tCB r (tAw X.K S0 H0 W ds) σ H Q := fun σ H Q ⟨ev, ps, r0, z⟩ => by
  refine ⟨ev, ps, r0, R.on_mono (R.on_bind z) (fun ts q vs H1 s1 p1 => ?_) fun _ _ q => q⟩
  cases e : f ts with
  | none => rw [e] at q; exact q.elim
  | some w =>
    rw [e] at q
    exact hr _ H1 vs ts w Q (r0.up s1).sx p1 e fun v' H' s p => q v' H' (s1.trans s) (p.back s1)
theorem e_blt {x : Str} {id : String} {p : Pos} {r : List V → Hp → VK → Prop} {f : List T → Option T} (hc : CallR X (.builtin id) r) (hr : BOk X.K m r f) (hm : X.mg x = none) (hv : bootBuiltins x = some (.builtin id)) (ha : PA X (e :: es) (tAw X.K S0 H0 W ds)) (hg : Gl X x := by rfl) (hn : x ≠ "__name__" := by decide) (hdb : (x == ("__debug__" : Str)) = false := by decide)
    (he : starEach (e :: es) X.env = (false, eval e X.env) :: starEach es X.env := by rfl) (hpl : (backTo pos (starEach es X.env)).any (·.1) = false := by rfl) : PE X (.Call (.Name x p) (e :: es) [] pos) (tG m X.K S0 H0 W (dBlt f ds)) :=
  pe_imp (pe_callB hc hg hm hv ha hn hdb he hpl) (imB hr)
theorem e_bty {x : Str} {id : String} {p : Pos} {r : List V → Hp → VK → Prop} {f : List T → Option T} (hc : CallR X (.type id) r) (hr : BOk X.K m r f) (hm : X.mg x = none) (hv : bootBuiltins x = some (.type id)) (ha : PA X (e :: es) (tAw X.K S0 H0 W ds)) (hg : Gl X x := by rfl) (hn : x ≠ "__name__" := by decide) (hdb : (x == ("__debug__" : Str)) = false := by decide)
    (he : starEach (e :: es) X.env = (false, eval e X.env) :: starEach es X.env := by rfl) (hpl : (backTo pos (starEach es X.env)).any (·.1) = false := by rfl) : PE X (.Call (.Name x p) (e :: es) [] pos) (tG m X.K S0 H0 W (dBlt f ds)) :=
  pe_imp (pe_callTy hc hg hm hv ha hn hdb he hpl) (imB hr)

def lenL : List T → Option T
  | [.lst xs] => some (.int xs.length)
  | [.tup xs] => some (.int xs.length)
  | [.scr ns] => some (.int ns.length)
  | [.str z] => if z.length ≤ sizeLine then some (.int z.length) else none
  | _ => none
theorem one_w {K : PySem.W.Frag} {H : Hp} {vs : List V} {t : T} (h : IsWs K S H vs [t]) : ∃ v, vs = [v] ∧ Pm K .w S H H v t := by
  cases h with
  | cons h r => cases r; exact ⟨_, rfl, h⟩
theorem two_w {K : PySem.W.Frag} {H : Hp} {vs : List V} {t u : T} (h : IsWs K S H vs [t, u]) : ∃ v w, vs = [v, w] ∧ Pm K .w S H H v t ∧ Pm K .w S H H w u := by
  cases h with
  | cons h r => cases r with | cons h2 r => cases r; exact ⟨_, _, rfl, h, h2⟩
theorem b_len : BOk X.K .f (fun xs H Q => (∃ p ys, xs = [.ref p] ∧ (SqL X.K H p ys ∨ SqT X.K H p ys) ∧ Q (.int ys.length) H) ∨ ∃ z : Str, xs = [.str z] ∧ z.length ≤ sizeLine ∧ Q (.int z.length) H) lenL := fun S H vs ts w Q hs p e z => by
  unfold lenL at e
  split at e
  · cases e
    obtain ⟨v, rfl, q⟩ := one_w p
    obtain ⟨a, xs, rfl, h, r⟩ := q.lst
    exact .inl ⟨a, xs, rfl, .inl (SqL.of h), by rw [r.len]; exact z _ _ (Same.refl _) (one_int _)⟩
  · cases e
    obtain ⟨v, rfl, q⟩ := one_w p
    obtain ⟨a, xs, rfl, h, r⟩ := q.tup
    exact .inl ⟨a, xs, rfl, .inr h.sq, by rw [r.len]; exact z _ _ (Same.refl _) (one_int _)⟩
  · cases e
    obtain ⟨v, rfl, q⟩ := one_w p
    obtain ⟨a, rfl, h⟩ := q.scr
    exact .inl ⟨a, _, rfl, .inl h.sq, by rw [List.length_map]; exact z _ _ (Same.refl _) (one_int _)⟩
  · obtain ⟨hz, rfl⟩ := some_if e
    obtain ⟨v, rfl, q⟩ := one_w p
    rw [q.str]
    exact .inr ⟨_, rfl, hz, z _ _ (Same.refl _) (one_int _)⟩
  · cases e
theorem e_len {p : Pos} (hm : X.mg "len" = none) (ha : PE X e (tG .w X.K S0 H0 W d)) (hg : Gl X "len" := by rfl) (hs : starEach [e] X.env = (false, eval e X.env) :: starEach [] X.env := by rfl) :
    PE X (.Call (.Name "len" p) [e] [] pos) (tG .f X.K S0 H0 W (dBlt lenL (dCons d dNil))) := e_blt (call_len_seq.or call_len_str) b_len hm (by decide +kernel) (w_cons ha w_nil hs) hg (he := hs)
/-- max(a, b), min(a, b) of nums -/
def maxL : List T → Option T
  | [.int a, .int b] => some (.int (if b > a then b else a))
  | _ => none
def minL : List T → Option T
  | [.int a, .int b] => some (.int (if b < a then b else a))
  | _ => none
theorem b_max2 : BOk X.K .f (fun xs H Q => ∃ i j, xs = [.int i, .int j] ∧ Q (.int (if j > i then j else i)) H) maxL := fun S H vs ts w Q hs p e z => by
  unfold maxL at e
  split at e
  · cases e
    obtain ⟨v, v', rfl, q, q'⟩ := two_w p
    rw [q.int, q'.int]
    exact ⟨_, _, rfl, z _ _ (Same.refl _) (one_int _)⟩
  · cases e
theorem b_min2 : BOk X.K .f (fun xs H Q => ∃ i j, xs = [.int i, .int j] ∧ Q (.int (if j < i then j else i)) H) minL := fun S H vs ts w Q hs p e z => by
  unfold minL at e
  split at e
  · cases e
    obtain ⟨v, v', rfl, q, q'⟩ := two_w p
    rw [q.int, q'.int]
    exact ⟨_, _, rfl, z _ _ (Same.refl _) (one_int _)⟩
  · cases e
theorem e_max2 {p : Pos} (cn : Cn X W k) (hm : X.mg "max" = none) (ha : PA X [a, b] (tAw X.K S0 H0 W ds)) (hg : Gl X "max" := by rfl) (hs : starEach [a, b] X.env = (false, eval a X.env) :: starEach [b] X.env := by rfl) (hpl : (backTo pos (starEach [b] X.env)).any (·.1) = false := by rfl) :
    PE X (.Call (.Name "max" p) [a, b] [] pos) (tG .f X.K S0 H0 W (dBlt maxL ds)) := e_blt (call_max2 cn.calm) b_max2 hm (by decide +kernel) ha hg (he := hs) (hpl := hpl)
theorem e_min2 {p : Pos} (cn : Cn X W k) (hm : X.mg "min" = none) (ha : PA X [a, b] (tAw X.K S0 H0 W ds)) (hg : Gl X "min" := by rfl) (hs : starEach [a, b] X.env = (false, eval a X.env) :: starEach [b] X.env := by rfl) (hpl : (backTo pos (starEach [b] X.env)).any (·.1) = false := by rfl) :
    PE X (.Call (.Name "min" p) [a, b] [] pos) (tG .f X.K S0 H0 W (dBlt minL ds)) := e_blt (call_min2 cn.calm) b_min2 hm (by decide +kernel) ha hg (he := hs) (hpl := hpl)
/-- int(flag), int(n) -/
def intL : List T → Option T
  | [.int a] => some (.int a)
  | [.bl b] => some (.int (if b then 1 else 0))
  | _ => none
theorem b_int : BOk X.K .f (fun xs H Q => (∃ i, xs = [.int i] ∧ Q (.int i) H) ∨ ∃ k, xs = [.bl k] ∧ Q (.int (if k then 1 else 0)) H) intL := fun S H vs ts w Q hs p e z => by
  unfold intL at e
  split at e
  · cases e
    obtain ⟨v, rfl, q⟩ := one_w p
    rw [q.int]
    exact .inl ⟨_, rfl, z _ _ (Same.refl _) (one_int _)⟩
  · cases e
    obtain ⟨v, rfl, q⟩ := one_w p
    rw [q.bl]
    exact .inr ⟨_, rfl, z _ _ (Same.refl _) (one_int _)⟩
  · cases e
theorem e_int1 {p : Pos} (hm : X.mg "int" = none) (ha : PE X e (tG .w X.K S0 H0 W d)) (hg : Gl X "int" := by rfl) (hs : starEach [e] X.env = (false, eval e X.env) :: starEach [] X.env := by rfl) :
    PE X (.Call (.Name "int" p) [e] [] pos) (tG .f X.K S0 H0 W (dBlt intL (dCons d dNil))) := e_bty call_int1 b_int hm (by decide +kernel) (w_cons ha w_nil hs) hg (he := hs)
/-- list(xs), tuple(xs) -/
def listL : List T → Option T
  | [.lst xs] => some (.lst xs)
  | [.tup xs] => some (.lst xs)
  | _ => none
theorem b_list : BOk X.K .f (fun xs H Q => ∃ p ys, xs = [.ref p] ∧ (SqL X.K H p ys ∨ SqT X.K H p ys) ∧ ∀ l, H l = none → Q (.ref l) (upd H l (.lst ys))) listL := fun S H vs ts w Q hs p e z => by
  unfold listL at e
  split at e
  · cases e
    obtain ⟨v, rfl, q⟩ := one_w p
    obtain ⟨a, xs, rfl, h, r⟩ := q.lst
    exact ⟨a, xs, rfl, .inl (SqL.of h), fun l hl => z _ _ (same_upd hl) (new_lst hl r)⟩
  · cases e
    obtain ⟨v, rfl, q⟩ := one_w p
    obtain ⟨a, xs, rfl, h, r⟩ := q.tup
    exact ⟨a, xs, rfl, .inr h.sq, fun l hl => z _ _ (same_upd hl) (new_lst hl r)⟩
  · cases e
theorem e_listc {p : Pos} (hm : X.mg "list" = none) (ha : PE X e (tG .w X.K S0 H0 W d)) (hg : Gl X "list" := by rfl) (hs : starEach [e] X.env = (false, eval e X.env) :: starEach [] X.env := by rfl) :
    PE X (.Call (.Name "list" p) [e] [] pos) (tG .f X.K S0 H0 W (dBlt listL (dCons d dNil))) := e_bty call_list_of b_list hm (by decide +kernel) (w_cons ha w_nil hs) hg (he := hs)
def tupleL : List T → Option T
  | [.lst xs] => some (.tup xs)
  | [.tup xs] => some (.tup xs)
  | _ => none
theorem b_tuple : BOk X.K .f (fun xs H Q => ∃ p ys, xs = [.ref p] ∧ ((SqL X.K H p ys ∧ ∀ l, H l = none → Q (.ref l) (upd H l (.tup ys))) ∨ (SqT X.K H p ys ∧ Q (.ref p) H))) tupleL := fun S H vs ts w Q hs p e z => by
  unfold tupleL at e
  split at e
  · cases e
    obtain ⟨v, rfl, q⟩ := one_w p
    obtain ⟨a, xs, rfl, h, r⟩ := q.lst
    exact ⟨a, xs, rfl, .inl ⟨SqL.of h, fun l hl => z _ _ (same_upd hl) (new_tup hs hl r)⟩⟩
  · cases e
    obtain ⟨v, rfl, q⟩ := one_w p
    obtain ⟨a, xs, rfl, h, r⟩ := q.tup
    exact ⟨a, xs, rfl, .inr ⟨h.sq, z _ _ (Same.refl _) (.inl ⟨rfl, .tup h r⟩)⟩⟩
  · cases e
theorem e_tuplec {p : Pos} (hm : X.mg "tuple" = none) (ha : PE X e (tG .w X.K S0 H0 W d)) (hg : Gl X "tuple" := by rfl) (hs : starEach [e] X.env = (false, eval e X.env) :: starEach [] X.env := by rfl) :
    PE X (.Call (.Name "tuple" p) [e] [] pos) (tG .f X.K S0 H0 W (dBlt tupleL (dCons d dNil))) := e_bty call_tuple_of b_tuple hm (by decide +kernel) (w_cons ha w_nil hs) hg (he := hs)
/-- all, any, sum -/
def bls : List T → Option (List Bool)
  | [] => some []
  | .bl b :: ts => (bls ts).map (b :: ·)
  | _ => none
def nums : List T → Option (List Int)
  | [] => some []
  | .int b :: ts => (nums ts).map (b :: ·)
  | _ => none
def allL : List T → Option T
  | [.lst xs] => (bls xs).map fun bs => .bl (bs.all id)
  | _ => none
def anyL : List T → Option T
  | [.lst xs] => (bls xs).map fun bs => .bl (bs.any id)
  | _ => none
def sumL : List T → Option T
  | [.lst xs] => (nums xs).map fun bs => .int bs.sum
  | [.scr ns] => some (.int ns.sum)
  | _ => none
theorem bls_v {K : PySem.W.Frag} {H : Hp} : ∀ {vs : List V} {ts : List T} {bs : List Bool}, IsTs K S H vs ts → bls ts = some bs → vs = bs.map V.bl
  | _, _, bs, .nil, e => by cases e; rfl
  | _, _, bs, .cons h r, e => by
    cases h with
    | bl b =>
      unfold bls at e
      obtain ⟨cs, e1, e2⟩ := Option.map_eq_some_iff.mp e
      subst e2
      rw [bls_v r e1]; rfl
    | _ => cases e
theorem nums_v {K : PySem.W.Frag} {H : Hp} : ∀ {vs : List V} {ts : List T} {bs : List Int}, IsTs K S H vs ts → nums ts = some bs → vs = bs.map V.int
  | _, _, bs, .nil, e => by cases e; rfl
  | _, _, bs, .cons h r, e => by
    cases h with
    | int b =>
      unfold nums at e
      obtain ⟨cs, e1, e2⟩ := Option.map_eq_some_iff.mp e
      subst e2
      rw [nums_v r e1]; rfl
    | _ => cases e
theorem b_all : BOk X.K .f (rAll X.K) allL := fun S H vs ts w Q hs p e z => by
  unfold allL at e
  split at e
  · obtain ⟨bs, e1, e2⟩ := Option.map_eq_some_iff.mp e
    subst e2
    obtain ⟨v, rfl, q⟩ := one_w p
    obtain ⟨a, xs, rfl, h, r⟩ := q.lst
    exact ⟨a, bs, rfl, by rw [← bls_v r e1]; exact SqL.of h, z _ _ (Same.refl _) (one_bl _)⟩
  · cases e
theorem b_any : BOk X.K .f (rAny X.K) anyL := fun S H vs ts w Q hs p e z => by
  unfold anyL at e
  split at e
  · obtain ⟨bs, e1, e2⟩ := Option.map_eq_some_iff.mp e
    subst e2
    obtain ⟨v, rfl, q⟩ := one_w p
    obtain ⟨a, xs, rfl, h, r⟩ := q.lst
    exact ⟨a, bs, rfl, by rw [← bls_v r e1]; exact SqL.of h, z _ _ (Same.refl _) (one_bl _)⟩
  · cases e
theorem b_sum : BOk X.K .f (rSum X.K) sumL := fun S H vs ts w Q hs p e z => by
  unfold sumL at e
  split at e
  · obtain ⟨bs, e1, e2⟩ := Option.map_eq_some_iff.mp e
    subst e2
    obtain ⟨v, rfl, q⟩ := one_w p
    obtain ⟨a, xs, rfl, h, r⟩ := q.lst
    exact ⟨a, bs, rfl, by rw [← nums_v r e1]; exact SqL.of h, z _ _ (Same.refl _) (one_int _)⟩
  · cases e
    obtain ⟨v, rfl, q⟩ := one_w p
    obtain ⟨a, rfl, h⟩ := q.scr
    exact ⟨a, _, rfl, h.sq, z _ _ (Same.refl _) (one_int _)⟩
  · cases e
theorem e_all {p : Pos} (cn : Cn X W k) (hm : X.mg "all" = none) (ha : PE X e (tG .w X.K S0 H0 W d)) (hg : Gl X "all" := by rfl) (hs : starEach [e] X.env = (false, eval e X.env) :: starEach [] X.env := by rfl) :
    PE X (.Call (.Name "all" p) [e] [] pos) (tG .f X.K S0 H0 W (dBlt allL (dCons d dNil))) := e_blt (cr_all cn.calm) b_all hm (by decide +kernel) (w_cons ha w_nil hs) hg (he := hs)
theorem e_any {p : Pos} (cn : Cn X W k) (hm : X.mg "any" = none) (ha : PE X e (tG .w X.K S0 H0 W d)) (hg : Gl X "any" := by rfl) (hs : starEach [e] X.env = (false, eval e X.env) :: starEach [] X.env := by rfl) :
    PE X (.Call (.Name "any" p) [e] [] pos) (tG .f X.K S0 H0 W (dBlt anyL (dCons d dNil))) := e_blt (cr_any cn.calm) b_any hm (by decide +kernel) (w_cons ha w_nil hs) hg (he := hs)
theorem e_sum {p : Pos} (cn : Cn X W k) (hm : X.mg "sum" = none) (ha : PE X e (tG .w X.K S0 H0 W d)) (hg : Gl X "sum" := by rfl) (hs : starEach [e] X.env = (false, eval e X.env) :: starEach [] X.env := by rfl) :
    PE X (.Call (.Name "sum" p) [e] [] pos) (tG .f X.K S0 H0 W (dBlt sumL (dCons d dNil))) := e_blt (cr_sum cn.calm) b_sum hm (by decide +kernel) (w_cons ha w_nil hs) hg (he := hs)

/-! ### isinstance of built-in types -/
def tyN : T → Option String
  | .non => some "NoneType"
  | .bl _ => some "bool"
  | .int _ => some "int"
  | .str _ => some "str"
  | .lst _ => some "list"
  | .scr _ => some "list"
  | .tup _ => some "tuple"
  | .dic _ => some "dict"
  | .dit _ => some "dict"
  | _ => none
/-- whether a value of the type n is one of the type m (the types that the texts name) -/
def isiB (n m : String) : Bool := n == m || (n == "bool" && m == "int")
def isiT (m : String) (t : T) : Option T := (tyN t).map fun n => .bl (isiB n m)
def isiL (m : String) : List T → Option T
  | [t] => isiT m t
  | _ => none
theorem kit_isi (n m : String) (hn : n ∈ ["NoneType", "bool", "int", "str", "list", "tuple", "dict"]) (hm : m ∈ ["bool", "int", "str", "list", "tuple", "dict"]) : kitB n m = some (isiB n m) := by
  have key : ∀ n ∈ ["NoneType", "bool", "int", "str", "list", "tuple", "dict"], ∀ m ∈ ["bool", "int", "str", "list", "tuple", "dict"], kitB n m = some (isiB n m) := by decide +kernel
  exact key n hn m hm
theorem ty_in {t : T} {n : String} (h : tyN t = some n) : n ∈ ["NoneType", "bool", "int", "str", "list", "tuple", "dict"] := by
  cases t <;> simp [tyN] at h <;> subst h <;> decide
theorem Pm.ty {K : PySem.W.Frag} {H : Hp} {v : V} {t : T} {n : String} (p : Pm K .w S H H v t) (h : tyN t = some n) : TyX K H v (.type n) := by
  cases t with
  | non => cases h; rw [p.non]; exact .base .non
  | bl b => cases h; rw [p.bl]; exact .base (.bl b)
  | int b => cases h; rw [p.int]; exact .base (.int b)
  | str b => cases h; rw [p.str]; exact .base (.str b)
  | lst ts => cases h; obtain ⟨a, xs, rfl, h, r⟩ := p.lst; exact .base (.lst h)
  | tup ts =>
    cases h
    obtain ⟨a, xs, rfl, h, r⟩ := p.tup
    rcases h with ⟨_, h | ⟨o, h⟩⟩ | ⟨o, its, n, h, c, _⟩
    · exact .base (.tup h)
    · exact .fTuple h
    · exact .kTuple h c
  | scr ts =>
    cases h
    obtain ⟨a, rfl, h⟩ := p.scr
    rcases h with ⟨_, h | ⟨o, h⟩⟩ | ⟨o, its, n, h, c, _⟩
    · exact .base (.lst h)
    · exact .base (.frz h)
    · exact .kList h c
  | dic ts =>
    cases h
    rcases p with p | ⟨a, rfl, p⟩
    · cases p with | dic n h r => exact .base (.dK h)
    · cases p with | dic h r => exact .base (.dK h)
  | dit ts =>
    cases h
    rcases p with p | ⟨a, rfl, p⟩
    · cases p with | dit n h r => exact .base (.dT h)
    · cases p with | dit h r => exact .base (.dT h)
  | _ => cases h
/-- isinstance(e, T) -/
theorem e_isi {ty : String} {x : Str} {p p2 : Pos} (hm : X.mg "isinstance" = none) (hm2 : X.mg x = none) (hv : bootBuiltins x = some (.type ty)) (hty : ty ∈ ["bool", "int", "str", "list", "tuple", "dict"]) (ha : PE X e (tG .w X.K S0 H0 W d)) (hg : Gl X "isinstance" := by rfl) (hg2 : Gl X x := by rfl) (hn : x ≠ "__name__" := by decide)
    (hdb : (x == ("__debug__" : Str)) = false := by decide)
    (hs : starEach [e, .Name x p2] X.env = (false, eval e X.env) :: starEach [.Name x p2] X.env := by rfl) (hs2 : starEach [.Name x p2] X.env = (false, eval (.Name x p2) X.env) :: starEach [] X.env := by rfl)
    (hpl : (backTo pos (starEach [.Name x p2] X.env)).any (·.1) = false := by rfl) :
    PE X (.Call (.Name "isinstance" p) [e, .Name x p2] [] pos) (tG .f X.K S0 H0 W (dBlt (isiL ty) (dCons d dNil))) := by
  refine pe_imp (pe_callB call_isi hg hm (by decide +kernel) (pa_cons ha (pa_cons (pe_bltn hg2 hm2 hv (v := .ty ty) rfl hn hdb) pa_nil hs2) hs) (he := hs) (hpl := hpl)) fun σ H Q ⟨ev, ps, r0, z⟩ => ?_
  refine ⟨ev, ps, r0, R.on_mono (R.on_bind (R.on_bind z)) (fun t q v H1 s1 p1 => ?_) fun _ _ q => q⟩
  have q : (ofO (isiT ty t)).on _ _ := q
  cases e : tyN t with
  | none => unfold isiT at q; rw [e] at q; exact q.elim
  | some n =>
    unfold isiT at q
    rw [e] at q
    exact ⟨v, .ty ty, .type n, .type ty, isiB n ty, rfl, .ty ty, p1.ty e, kit_ty (kit_isi n ty (ty_in e) hty), q _ _ s1 (one_bl _)⟩
end
end DL

set_option maxHeartbeats 1000000
namespace DL
open PySem PySem.Spec PyProof.Rows L2

/-! ### defs by their functions -/
/-- as the hand layer's promise, where the guards of repr are known -/
structure FnG (P : Program) (w : World) (K : PySem.W.Frag) (mg : Str → Option Value) (base : Heap) (k : Nat) (f : Addr) (fd : FuncData) (ps : List Str) (sp : Sp) : Prop where
  len : ∀ vs H Q E, sp vs H Q E → vs.length = ps.length
  go : ∀ (A : Around) (outer : List PySem.Env) (s : Shared) (H : Hp) (args : Args) (us : List Value) (vs : List V) (Q : VK) (E : XK), Room k A → A.guards = some [] → Env0 P w K mg base A outer s H → BindsTo s fd args (ps.zip us) → Vals vs us →
    sp vs H Q E → codeAny (model P w) A (.call (.ref f) args) (CR (L2.CX P w) outer P w H s Q E) s
def spD (K : PySem.W.Frag) (n : Nat) (m : Md) (d : List T → R T) : Sp := fun vs H Q E => ∃ ts S, vs.length = n ∧ (∀ a, S a → H a ≠ none) ∧ IsTs K S H vs ts ∧
  (d ts).on (fun t => ∀ v H', Same H H' → Pm K m S H H' v t → Q v H') (fun c fs => ∀ cls dd H', Same H H' → IsX K S H' cls dd c fs → E cls dd H')
/-- the def of the module's name x -/
structure GF (P : Program) (w : World) (K : PySem.W.Frag) (mg : Str → Option Value) (base : Heap) (k : Nat) (x : Str) (n : Nat) (m : Md) (d : List T → R T) : Prop where
  ex : ∃ f fd ps, ps.length = n ∧ mg x = some (.ref f) ∧ PySem.W.keepIn K (.ref f) = true ∧ Binds K fd ps [] ∧ FnG P w K mg base k f fd ps (spD K n m d)
theorem GF.mono {P : Program} {w : World} {K : PySem.W.Frag} {mg : Str → Option Value} {base : Heap} {j k : Nat} {x : Str} {n : Nat} {m : Md} {d : List T → R T} (F : GF P w K mg base j x n m d) (h : j ≤ k := by decide) : GF P w K mg base k x n m d := by
  obtain ⟨f, fd, ps, a, b, c, e, G⟩ := F.ex
  exact ⟨f, fd, ps, a, b, c, e, ⟨G.len, fun A outer s H args us vs Q E hr => G.go A outer s H args us vs Q E (hr.mono h)⟩⟩
/-- another function that tells the same or less -/
theorem GF.eq {P : Program} {w : World} {K : PySem.W.Frag} {mg : Str → Option Value} {base : Heap} {k : Nat} {x : Str} {n : Nat} {m : Md} {d d' : List T → R T} (F : GF P w K mg base k x n m d) (h : ∀ ts, d' ts ≠ .bad → d ts = d' ts) : GF P w K mg base k x n m d' := by
  obtain ⟨f, fd, ps, a, b, c, e, G⟩ := F.ex
  have key : ∀ vs H Q E, spD K n m d' vs H Q E → spD K n m d vs H Q E := fun vs H Q E ⟨ts, S, h1, h2, h3, h4⟩ => ⟨ts, S, h1, h2, h3, by
    rw [h ts (fun z => by rw [z] at h4; exact h4)]; exact h4⟩
  exact ⟨f, fd, ps, a, b, c, e, ⟨fun vs H Q E z => G.len vs H Q E (key _ _ _ _ z), fun A outer s H args us vs Q E h1 h2 h3 h4 h5 z => G.go A outer s H args us vs Q E h1 h2 h3 h4 h5 (key _ _ _ _ z)⟩⟩

def dCall (d : List T → R T) (ds : Lo → R (List T)) : Lo → R T := fun ev => (ds ev).bind d
section
variable {X : Cx} {e a b : Expr} {S S0 : Addr → Prop} {H0 : Hp} {W : WX} {da db : Lo → R T} {c : Lo → R Bool} {pos : Pos} {m ma mb : Md} {k : Nat} {es : List Expr} {ds : Lo → R (List T)}
theorem run_G {x : Str} {n : Nat} {d : List T → R T} (cn : Cn X W k) {f : Addr} {fd : FuncData} {prs : List Str} (hb : Binds X.K fd prs []) (G : FnG X.prog X.w X.K X.mg X.base k f fd prs (spD X.K n m d))
    {pins : List (Addr × Obj)} {σ : L2.St} {H : Hp} {s : Shared} {Q : VK} {us : List Value} {vs : List V} (I : Inv X pins σ H s) (r : Vals vs us) (h : spD X.K n m d vs H Q (fun cls dd H' => W cls dd σ H')) :
    wpAny (model X.prog X.w) X.A (call (.ref f) us) (EP X pins σ Q) X.xe s := by
  have hl : us.length = prs.length := by rw [← r.length]; exact G.len _ _ _ _ h
  have bd := hb s us I.kIn (by rw [List.append_nil]; exact hl)
  rw [List.append_nil] at bd
  refine wpAny_call (codeAny_mono (G.go X.A X.stack s H ⟨us, []⟩ us vs Q _ cn.room cn.gu I.env0 bd r h) fun res s' hq => ?_)
  match res, hq with
  | .error u, hq => exact cn.tk u s' (XE.of_call I (fun cls dd H' z => z) hq)
  | .ok (.ret u), hq => exact I.after hq
theorem e_call {x : Str} {n : Nat} {d : List T → R T} {p : Pos} (cn : Cn X W k) (F : GF X.prog X.w X.K X.mg X.base k x n m d) (ha : PA X (e :: es) (tA X.K S0 H0 W ds)) (hn : ∀ ev ts, ds ev = .ok ts → ts.length = n) (hg : Gl X x := by rfl) (hdb : (x == ("__debug__" : Str)) = false := by decide)
    (he : starEach (e :: es) X.env = (false, eval e X.env) :: starEach es X.env := by rfl) (hpl : (backTo pos (starEach es X.env)).any (·.1) = false := by rfl) : PE X (.Call (.Name x p) (e :: es) [] pos) (tG m X.K S0 H0 W (dCall d ds)) := by
  refine ⟨fun pins s σ H Q I h => ?_⟩
  obtain ⟨ev, ps, r0, z⟩ := h
  obtain ⟨f, fd, prs, hl, hm, hk, hb, G⟩ := F.ex
  refine wpAny_Call_Name_kw (ld_glob I hg hm ?_ hdb)
  refine PySem.W.callWith_K (h₀ := X.base) I.ok.mod.kin hk (thn (ha.run pos pins s σ H (fun vs H1 => spD X.K n m d vs H1 Q fun cls dd H' => W cls dd σ H') I ⟨ev, ps, r0, ?_⟩) fun us s1 hh => ?_) he hpl
  · have z2 := R.on_bind z
    cases e1 : ds ev with
    | bad => rw [e1] at z2; exact z2.elim
    | ex c fs => rw [e1] at z2; exact z2
    | ok ts =>
      rw [e1] at z2
      intro vs H1 s1 p1
      exact ⟨ts, _, by rw [p1.len]; exact hn ev ts e1, (r0.up s1).sx, p1, R.on_mono z2 (fun t q v H2 s2 p => q v H2 (s1.trans s2) (p.back s1)) fun c fs q cls dd H2 s2 x => q cls dd H2 (s1.trans s2) x⟩
  · obtain ⟨vs, H1, I1, rv, q⟩ := hh
    exact ⟨I1.kIn, run_G (x := x) cn hb G I1 rv q⟩
theorem n_nil : ∀ (ev : Lo) (ts : List T), dNil ev = .ok ts → ts.length = 0 := fun ev ts h => by cases h; rfl
theorem n_cons {d : Lo → R T} {n : Nat} (h : ∀ ev ts, ds ev = .ok ts → ts.length = n) : ∀ (ev : Lo) (ts : List T), dCons d ds ev = .ok ts → ts.length = n + 1 := fun ev ts z => by
  unfold dCons at z
  cases e1 : d ev with
  | ok t =>
    rw [e1] at z
    have z : ((ds ev).bind fun ts => R.ok (t :: ts)) = .ok ts := z
    cases e2 : ds ev with
    | ok us =>
      rw [e2] at z
      cases z
      rw [List.length_cons, h ev us e2]
    | ex c fs => rw [e2] at z; cases z
    | bad => rw [e2] at z; cases z
  | ex c fs => rw [e1] at z; cases z
  | bad => rw [e1] at z; cases z
end

/-! ### statements -/
inductive Fl where
  | nx (ev : Lo) | bk (ev : Lo) | ct (ev : Lo) | rt (t : T) | ex (c : Str) (fs : List (Str × T)) (ev : Lo) | bad
def Fl.on (r : Fl) (N B C : Lo → Prop) (Rt : T → Prop) (Ex : Str → List (Str × T) → Lo → Prop) : Prop := match r with
  | .nx ev => N ev
  | .bk ev => B ev
  | .ct ev => C ev
  | .rt t => Rt t
  | .ex c fs ev => Ex c fs ev
  | .bad => False
theorem Fl.on_mono {r : Fl} {N B C N' B' C' : Lo → Prop} {Rt Rt' : T → Prop} {Ex Ex' : Str → List (Str × T) → Lo → Prop} (h : r.on N B C Rt Ex) (hN : ∀ ev, N ev → N' ev) (hB : ∀ ev, B ev → B' ev) (hC : ∀ ev, C ev → C' ev) (hR : ∀ t, Rt t → Rt' t)
    (hE : ∀ c fs ev, Ex c fs ev → Ex' c fs ev) : r.on N' B' C' Rt' Ex' := by
  cases r with
  | nx ev => exact hN _ h
  | bk ev => exact hB _ h
  | ct ev => exact hC _ h
  | rt ev => exact hR _ h
  | ex c fs ev => exact hE _ _ _ h
  | bad => exact h
/-- a value first, then a flow -/
def R.fl {α : Type} (r : R α) (ev : Lo) (f : α → Fl) : Fl := match r with
  | .ok a => f a
  | .ex c fs => .ex c fs ev
  | .bad => .bad
@[simp] theorem R.fl_ok {α : Type} (a : α) (ev : Lo) (f : α → Fl) : (R.ok a).fl ev f = f a := rfl
@[simp] theorem R.fl_ex {α : Type} (c : Str) (fs : List (Str × T)) (ev : Lo) (f : α → Fl) : (R.ex c fs : R α).fl ev f = .ex c fs ev := rfl
@[simp] theorem R.fl_bad {α : Type} (ev : Lo) (f : α → Fl) : (R.bad : R α).fl ev f = .bad := rfl
theorem R.fl_on {α : Type} {r : R α} {ev : Lo} {f : α → Fl} {N B C : Lo → Prop} {Rt : T → Prop} {Ex : Str → List (Str × T) → Lo → Prop} (h : (r.fl ev f).on N B C Rt Ex) : r.on (fun a => (f a).on N B C Rt Ex) fun c fs => Ex c fs ev := by
  cases r <;> exact h
/-- a statement's reading by its function -/
def tS (m : Md) (K : PySem.W.Frag) (S0 : Addr → Prop) (H0 : Hp) (W : WX) (d : Lo → Fl) : TS := fun D σ H => ∃ ev ps, Rp K S0 H0 ps σ H ev ∧
  (d ev).on (fun e => ∀ σ' H', Rp K S0 H0 ps σ' H' e → D.nx σ' H') (fun e => ∀ σ' H', Rp K S0 H0 ps σ' H' e → D.bk σ' H') (fun e => ∀ σ' H', Rp K S0 H0 ps σ' H' e → D.ct σ' H')
    (fun t => ∀ v H', Same H0 H' → Pm K m S0 H0 H' v t → D.rt v H') (fun c fs e => ∀ cls dd σ' H', Rp K S0 H0 ps σ' H' e → IsX K (Sx S0 σ' e) H' cls dd c fs → W cls dd σ' H')
section
variable {K : PySem.W.Frag} {S0 : Addr → Prop} {H0 H H' : Hp} {ps ps' : List (V × T)} {σ : L2.St} {ev : Lo}
theorem Rp.pins (r : Rp K S0 H0 ps σ H ev) (h : ∀ p ∈ ps', IsT K (Sx S0 σ ev) H p.1 p.2) : Rp K S0 H0 ps' σ H ev := ⟨r.same, r.s0, r.frz, r.own, r.inj, h, r.len⟩
theorem set_get {α : Type} {l : List α} {i j : Nat} {x y : α} (h : (l.set i x)[j]? = some y) : (j = i ∧ y = x ∧ i < l.length) ∨ (j ≠ i ∧ l[j]? = some y) := by
  by_cases e : i = j
  · subst e
    by_cases hl : i < l.length
    · rw [List.getElem?_set_self hl] at h; cases h; exact .inl ⟨rfl, rfl, hl⟩
    · rw [List.getElem?_eq_none (by simpa using hl)] at h; cases h
  · rw [List.getElem?_set_ne e] at h; exact .inr ⟨fun z => e z.symm, h⟩
theorem own_set {i : Nat} {v : V} {t : T} {o : Bool} {a : Addr} (h : Own (σ.set i (some v)) (ev.set i (some (t, o))) a) : (o = true ∧ v = .ref a) ∨ Own σ ev a := by
  obtain ⟨j, u, h1, h2⟩ := h
  rcases set_get h1 with ⟨rfl, e, _⟩ | ⟨n, g⟩
  · cases e
    rcases set_get h2 with ⟨_, e2, _⟩ | ⟨n, _⟩
    · cases e2; exact .inl ⟨rfl, rfl⟩
    · exact absurd rfl n
  · rcases set_get h2 with ⟨e, _⟩ | ⟨_, g2⟩
    · exact absurd e n
    · exact .inr ⟨j, u, g, g2⟩
/-- a slot is stored anew; H the heap ahead -/
theorem Rp.store {i : Nat} {v : V} {t : T} {o : Bool} (r : Rp K S0 H0 ps σ H ev) (s : Same H H')
    (h : (o = false ∧ IsT K (Sx S0 σ ev) H' v t) ∨ (o = true ∧ ∃ a, v = .ref a ∧ H a = none ∧ OwC K (fun b => Sx S0 σ ev b ∨ b = a) H' a t)) : Rp K S0 H0 ps (σ.set i (some v)) H' (ev.set i (some (t, o))) := by
  have lt : ∀ {a : Addr}, Own (σ.set i (some v)) (ev.set i (some (t, o))) a → (o = true ∧ v = .ref a) ∨ Own σ ev a := own_set
  -- what isn't owned now isn't owned then
  have mv : Mv (Sx S0 σ ev) (Sx S0 (σ.set i (some v)) (ev.set i (some (t, o)))) H H' := fun a u e n => ⟨s a u e, fun z => by
    rcases z with z | z
    · exact n (.inl z)
    · rcases lt z with ⟨eo, ea⟩ | z
      · rcases h with ⟨e2, _⟩ | ⟨_, b, eb, hb, _⟩
        · rw [eo] at e2; cases e2
        · rw [ea] at eb; cases eb; rw [hb] at e; cases e
      · exact n (.inr z)⟩
  refine ⟨r.same.trans s, (r.up s).s0, fun j u hj => ?_, fun j u hj => ?_, fun j l u w a h1 h2 h3 h4 => ?_, fun p hp => (r.pin p hp).mv mv, by simp [r.len]⟩
  · rcases set_get hj with ⟨rfl, e, hlt⟩ | ⟨n, g⟩
    · cases e
      refine ⟨v, ?_, ?_⟩
      · rw [List.getElem?_set_self (by rw [r.len]; exact hlt)]
      · rcases h with ⟨_, q⟩ | ⟨e2, _⟩
        · refine q.mv (mv_less fun a z => ?_)
          rcases z with z | z
          · exact .inl z
          · rcases lt z with ⟨eo, _⟩ | z
            · cases eo
            · exact .inr z
        · cases e2
    · obtain ⟨x, h1, h2⟩ := r.frz j u g
      exact ⟨x, by rw [List.getElem?_set_ne (fun z => n z.symm)]; exact h1, h2.mv mv⟩
  · rcases set_get hj with ⟨rfl, e, hlt⟩ | ⟨n, g⟩
    · cases e
      rcases h with ⟨e2, _⟩ | ⟨_, a, rfl, hn, c⟩
      · cases e2
      · refine ⟨a, by rw [List.getElem?_set_self (by rw [r.len]; exact hlt)], fun z => r.s0 a z hn, r.same.free hn, c.mv (mv_less fun b z => ?_) rfl⟩
        rcases z with z | z
        · exact .inl (.inl z)
        · rcases lt z with ⟨_, eb⟩ | z
          · cases eb; exact .inr rfl
          · exact .inl (.inr z)
    · obtain ⟨a, h1, h2, h3, c⟩ := r.own j u g
      refine ⟨a, by rw [List.getElem?_set_ne (fun z => n z.symm)]; exact h1, h2, h3, c.mv mv ?_⟩
      obtain ⟨x, e⟩ := c.some
      rw [e]; exact s _ _ e
  · have ne : ∀ {j : Nat} {u : T}, j ≠ i → ev[j]? = some (some (u, true)) → (σ.set i (some v))[j]? = some (some (.ref a)) → o = true → v = .ref a → False := fun {j u} n g g2 eo ea => by
      rw [List.getElem?_set_ne (fun z => n z.symm)] at g2
      obtain ⟨b, e1, _, _, c⟩ := r.own j u g
      rw [g2] at e1
      cases e1
      obtain ⟨x, e⟩ := c.some
      rcases h with ⟨e2, _⟩ | ⟨_, b, eb, hb, _⟩
      · rw [eo] at e2; cases e2
      · rw [ea] at eb; cases eb; rw [hb] at e; cases e
    have vat : ∀ {j : Nat}, j = i → (σ.set i (some v))[j]? = some (some (.ref a)) → v = .ref a := fun {j} e g => by
      subst e
      rcases set_get g with ⟨_, e2, _⟩ | ⟨n, _⟩
      · cases e2; rfl
      · exact absurd rfl n
    rcases set_get h1 with ⟨e1, e2, _⟩ | ⟨n1, g1⟩
    · rcases set_get h2 with ⟨e3, _, _⟩ | ⟨n2, g2⟩
      · rw [e1, e3]
      · cases e2
        exact (ne n2 g2 h4 rfl (vat e1 h3)).elim
    · rcases set_get h2 with ⟨e3, e4, _⟩ | ⟨n2, g2⟩
      · cases e4
        exact (ne n1 g1 h3 rfl (vat e3 h4)).elim
      · rw [List.getElem?_set_ne (fun z => n1 z.symm)] at h3
        rw [List.getElem?_set_ne (fun z => n2 z.symm)] at h4
        exact r.inj j l u w a g1 g2 h3 h4
/-- what an owned slot holds is changed -/
theorem Rp.write {i : Nat} {a : Addr} {t u : T} {o : HO} (r : Rp K S0 H0 ps σ H ev) (hi : ev[i]? = some (some (t, true))) (ha : σ[i]? = some (some (.ref a))) (c : OwC K (Sx S0 σ ev) (upd H a o) a u) : Rp K S0 H0 ps σ (upd H a o) (ev.set i (some (u, true))) := by
  have hit : i < ev.length := (List.getElem?_eq_some_iff.mp hi).1
  have sx : ∀ b, Sx S0 σ (ev.set i (some (u, true))) b ↔ Sx S0 σ ev b := fun b => by
    constructor
    · rintro (z | ⟨j, w, h1, h2⟩)
      · exact .inl z
      · rcases set_get h1 with ⟨rfl, _, _⟩ | ⟨n, g⟩
        · exact .inr ⟨j, t, hi, h2⟩
        · exact .inr ⟨j, w, g, h2⟩
    · rintro (z | ⟨j, w, h1, h2⟩)
      · exact .inl z
      · by_cases e : i = j
        · subst e; exact .inr ⟨i, u, by rw [List.getElem?_set_self hit], h2⟩
        · exact .inr ⟨j, w, by rw [List.getElem?_set_ne e]; exact h1, h2⟩
  have hS : Sx S0 σ ev a := .inr ⟨i, t, hi, ha⟩
  have mv : Mv (Sx S0 σ ev) (Sx S0 σ (ev.set i (some (u, true)))) H (upd H a o) := fun b w e n => ⟨(upd_ne (fun z => n (by rw [z]; exact hS))).trans e, fun z => n ((sx b).mp z)⟩
  obtain ⟨a', e1, n0, hn, c0⟩ := r.own i t hi
  rw [ha] at e1
  cases e1
  have own0 : H0 a = none := hn
  refine ⟨fun b w e => ?_, fun b z => ?_, fun j w hj => ?_, fun j w hj => ?_, fun j l w x b h1 h2 h3 h4 => ?_, fun p hp => (r.pin p hp).mv mv, by simp [r.len]⟩
  · have : b ≠ a := fun z => by rw [z, own0] at e; cases e
    rw [upd_ne this]; exact r.same b w e
  · by_cases e : b = a
    · rw [e, upd_same]; exact fun z => nomatch z
    · rw [upd_ne e]; exact r.s0 b z
  · rcases set_get hj with ⟨_, e, _⟩ | ⟨n, g⟩
    · cases e
    · obtain ⟨x, h1, h2⟩ := r.frz j w g
      exact ⟨x, h1, h2.mv mv⟩
  · rcases set_get hj with ⟨rfl, e, _⟩ | ⟨n, g⟩
    · cases e
      exact ⟨a, ha, n0, hn, c.mv (mv_less fun b z => (sx b).mp z) rfl⟩
    · obtain ⟨b, h1, h2, h3, cb⟩ := r.own j w g
      have nb : b ≠ a := fun z => n (r.inj j i w t a g hi (z ▸ h1) ha)
      exact ⟨b, h1, h2, h3, cb.mv mv (by rw [upd_ne nb])⟩
  · have g : ∀ {j : Nat} {w : T}, (ev.set i (some (u, true)))[j]? = some (some (w, true)) → ∃ w', ev[j]? = some (some (w', true)) := fun {j w} h => by
      rcases set_get h with ⟨rfl, _, _⟩ | ⟨_, g⟩
      · exact ⟨t, hi⟩
      · exact ⟨w, g⟩
    obtain ⟨w1, g1⟩ := g h1
    obtain ⟨w2, g2⟩ := g h2
    exact r.inj j l w1 w2 b g1 g2 h3 h4
/-- an owned slot is data from now on -/
theorem Rp.release {i : Nat} {t : T} (r : Rp K S0 H0 ps σ H ev) (hi : ev[i]? = some (some (t, true))) : Rp K S0 H0 ps σ H (ev.set i (some (t, false))) := by
  have sx : ∀ b, Sx S0 σ (ev.set i (some (t, false))) b → Sx S0 σ ev b := fun b z => by
    rcases z with z | ⟨j, w, h1, h2⟩
    · exact .inl z
    · rcases set_get h1 with ⟨_, e, _⟩ | ⟨n, g⟩
      · cases e
      · exact .inr ⟨j, w, g, h2⟩
  have mv : Mv (Sx S0 σ ev) (Sx S0 σ (ev.set i (some (t, false)))) H H := mv_less sx
  refine ⟨r.same, r.s0, fun j w hj => ?_, fun j w hj => ?_, fun j l w x b h1 h2 h3 h4 => ?_, fun p hp => (r.pin p hp).mv mv, by simp [r.len]⟩
  · rcases set_get hj with ⟨rfl, e, _⟩ | ⟨n, g⟩
    · cases e
      obtain ⟨a, h1, h2, h3, c⟩ := r.own _ _ hi
      refine ⟨.ref a, h1, OwC.isT ?_ (c.mv mv rfl)⟩
      rintro (z | ⟨l, x, g1, g2⟩)
      · exact h2 z
      · rcases set_get g1 with ⟨_, e, _⟩ | ⟨n, g⟩
        · cases e
        · exact n (r.inj l _ x _ a g hi g2 h1)
    · obtain ⟨x, h1, h2⟩ := r.frz j w g
      exact ⟨x, h1, h2.mv mv⟩
  · rcases set_get hj with ⟨_, e, _⟩ | ⟨n, g⟩
    · cases e
    · obtain ⟨b, h1, h2, h3, cb⟩ := r.own j w g
      exact ⟨b, h1, h2, h3, cb.mv mv rfl⟩
  · rcases set_get h1 with ⟨_, e, _⟩ | ⟨_, g1⟩
    · cases e
    · rcases set_get h2 with ⟨_, e, _⟩ | ⟨_, g2⟩
      · cases e
      · exact r.inj j l w x b g1 g2 h3 h4
end
end DL

set_option maxHeartbeats 1000000
namespace DL
open PySem PySem.Spec PyProof.Rows L2

def sNx : Lo → Fl := fun ev => .nx ev
def sBk : Lo → Fl := fun ev => .bk ev
def sCt : Lo → Fl := fun ev => .ct ev
def sSeq (a b : Lo → Fl) : Lo → Fl := fun ev => match a ev with
  | .nx e => b e
  | r => r
def sIf (c : Lo → R Bool) (a b : Lo → Fl) : Lo → Fl := fun ev => (c ev).fl ev fun z => if z then a ev else b ev
def sEx (d : Lo → R T) : Lo → Fl := fun ev => (d ev).fl ev fun _ => .nx ev
def sSet (i : Nat) (d : Lo → R T) : Lo → Fl := fun ev => (d ev).fl ev fun t => .nx (ev.set i (some (t, false)))
def sSetF (i : Nat) (d : Lo → R T) : Lo → Fl := fun ev => (d ev).fl ev fun t => .nx (ev.set i (some (t, isMut t)))
def sAug (i : Nat) (f : T → T → Option T) (d : Lo → R T) : Lo → Fl := fun ev => match ev[i]? with
  | some (some (t, false)) => (d ev).fl ev fun u => match f t u with
    | some w => .nx (ev.set i (some (w, false)))
    | none => .bad
  | _ => .bad
def sRet (d : Lo → R T) : Lo → Fl := fun ev => (d ev).fl ev fun t => .rt t
def sRetO (f : Bool) (i : Nat) : Lo → Fl := fun ev => match ev[i]? with
  | some (some (t, true)) => .rt t
  | some (some (t, false)) => if f && isMut t then .bad else .rt t
  | _ => .bad
def sRetN : Lo → Fl := fun _ => .rt .non
def sRel (i : Nat) (a : Lo → Fl) : Lo → Fl := fun ev => match ev[i]? with
  | some (some (t, true)) => a (ev.set i (some (t, false)))
  | _ => a ev
def sApp (i : Nat) (d : Lo → R T) : Lo → Fl := fun ev => match ev[i]? with
  | some (some (.lst ts, true)) => (d ev).fl ev fun u => if ts.length < sizeLine then .nx (ev.set i (some (.lst (ts ++ [u]), true))) else .bad
  | _ => .bad
def sSetIx (i : Nat) (dk d : Lo → R T) : Lo → Fl := fun ev => (d ev).fl ev fun u => match ev[i]? with
  | some (some (.lst ts, true)) => (dk ev).fl ev fun k => match k with
    | .int j => match ixN ts.length j with
      | some n => .nx (ev.set i (some (.lst (ts.set n u), true)))
      | none => .bad
    | _ => .bad
  | _ => .bad
def gNm (i : Nat) : T → Lo → Option Lo := fun t ev => some (ev.set i (some (t, false)))
def gNil : List T → Lo → Option Lo := fun ts ev => match ts with
  | [] => some ev
  | _ => none
def gCons (g : T → Lo → Option Lo) (gs : List T → Lo → Option Lo) : List T → Lo → Option Lo := fun ts ev => match ts with
  | t :: ts => (g t ev).bind (gs ts)
  | [] => none
def gTp (n : Nat) (gs : List T → Lo → Option Lo) : T → Lo → Option Lo := fun t ev => match t with
  | .tup ts => if ts.length = n then gs ts ev else none
  | .lst ts => if ts.length = n then gs ts ev else none
  | _ => none
def sAsg (g : T → Lo → Option Lo) (d : Lo → R T) : Lo → Fl := fun ev => (d ev).fl ev fun t => match g t ev with
  | some e => .nx e
  | none => .bad
def forL (g : T → Lo → Option Lo) (body : Lo → Fl) : List T → Lo → Fl
  | [], ev => .nx ev
  | t :: ts, ev => match g t ev with
    | none => .bad
    | some e => match body e with
      | .nx e' => forL g body ts e'
      | .ct e' => forL g body ts e'
      | .bk e' => .nx e'
      | r => r
def sFor (di : Lo → R (List T)) (g : T → Lo → Option Lo) (body : Lo → Fl) : Lo → Fl := fun ev => (di ev).fl ev fun ts => forL g body ts ev
def whileL (c : Lo → R Bool) (body : Lo → Fl) : Nat → Lo → Fl
  | 0, _ => .bad
  | n + 1, ev => (c ev).fl ev fun z => if z then (match body ev with
      | .nx e' => whileL c body n e'
      | .ct e' => whileL c body n e'
      | .bk e' => .nx e'
      | r => r) else .nx ev
def sWhile (n : Nat) (c : Lo → R Bool) (body : Lo → Fl) : Lo → Fl := whileL c body n
/-- a def's end -/
def fin : Fl → R T
  | .nx _ => .ok .non
  | .rt t => .ok t
  | .ex c fs _ => .ex c fs
  | _ => .bad
def start' (n : Nat) (ts : List T) : Lo := ts.map (fun t => some (t, false)) ++ List.replicate (n - ts.length) none
def dFn (n : Nat) (d : Lo → Fl) : List T → R T := fun ts => fin (d (start' n ts))

section
variable {X : Cx} {e a b : Expr} {stm : Stmt} {rest sa sb : List Stmt} {S S0 : Addr → Prop} {H0 : Hp} {W : WX} {d da db dk : Lo → R T} {c : Lo → R Bool} {d1 d2 : Lo → Fl} {pos : Pos} {m ma mb : Md} {k : Nat}
theorem ps_imp {t t' : TS} (h : PS X stm t) (f : ∀ D σ H, t' D σ H → t D σ H) : PS X stm t' := ⟨fun pins s σ H D I z => h.run pins s σ H D I (f D σ H z)⟩
theorem pss_imp {t t' : TS} (h : PSs X rest t) (f : ∀ D σ H, t' D σ H → t D σ H) : PSs X rest t' := ⟨fun pins s σ H D I z => h.run pins s σ H D I (f D σ H z)⟩
theorem ss_nil : PSs X [] (tS m X.K S0 H0 W sNx) := pss_imp pss_nil fun D σ H ⟨ev, ps, r, z⟩ => z σ H r
theorem ss_cons (h1 : PS X stm (tS m X.K S0 H0 W d1)) (h2 : PSs X rest (tS m X.K S0 H0 W d2)) : PSs X (stm :: rest) (tS m X.K S0 H0 W (sSeq d1 d2)) := pss_imp (pss_cons h1 h2) fun D σ H ⟨ev, ps, r, z⟩ => by
  refine ⟨ev, ps, r, ?_⟩
  unfold sSeq at z
  cases e1 : d1 ev with
  | nx e => rw [e1] at z; exact fun σ' H' r' => ⟨e, ps, r', z⟩
  | _ => rw [e1] at z; exact z
theorem ss_one (h1 : PS X stm (tS m X.K S0 H0 W d1)) : PSs X [stm] (tS m X.K S0 H0 W d1) := pss_one h1
/-- a slot is released ahead -/
theorem rel {i : Nat} (h : PS X stm (tS m X.K S0 H0 W d1)) : PS X stm (tS m X.K S0 H0 W (sRel i d1)) := ps_imp h fun D σ H ⟨ev, ps, r, z⟩ => by
  unfold sRel at z
  split at z
  · rename_i t e
    exact ⟨_, ps, r.release e, z⟩
  · exact ⟨ev, ps, r, z⟩
theorem s_pass : PS X (.Pass pos) (tS m X.K S0 H0 W sNx) := ps_imp ps_pass fun D σ H ⟨ev, ps, r, z⟩ => z σ H r
theorem s_break : PS X (.Break pos) (tS m X.K S0 H0 W sBk) := ps_imp ps_break fun D σ H ⟨ev, ps, r, z⟩ => z σ H r
theorem s_continue : PS X (.Continue pos) (tS m X.K S0 H0 W sCt) := ps_imp ps_continue fun D σ H ⟨ev, ps, r, z⟩ => z σ H r
theorem s_if {ce : Expr} (hc : PT X ce (tB X.K S0 H0 W c)) (ha : PSs X sa (tS m X.K S0 H0 W d1)) (hb : PSs X sb (tS m X.K S0 H0 W d2)) : PS X (.If ce sa sb pos) (tS m X.K S0 H0 W (sIf c d1 d2)) := ps_imp (ps_if hc ha hb) fun D σ H ⟨ev, ps, r, z⟩ => by
  refine ⟨ev, ps, r, R.on_mono (R.fl_on z) (fun b q H' s => ?_) fun c fs q cls dd H' s x => q cls dd σ H' (r.up s) x⟩
  cases b with
  | true => exact ⟨ev, ps, r.up s, q⟩
  | false => exact ⟨ev, ps, r.up s, q⟩
theorem s_expr (he : PE X e (tG ma X.K S0 H0 W d)) (hs : swapsWith e none pos.line X.env = pure false := by rfl) : PS X (.Expr e pos) (tS m X.K S0 H0 W (sEx d)) := ps_imp (ps_expr he hs) fun D σ H ⟨ev, ps, r, z⟩ =>
  ⟨ev, ps, r, R.on_mono (R.fl_on z) (fun t q v H' s p => q σ H' (r.up s)) fun c fs q cls dd H' s x => q cls dd σ H' (r.up s) x⟩
theorem imSet {i : Nat} : ∀ D σ H, tS m X.K S0 H0 W (sSet i d) D σ H → tAsg (tG .s X.K S0 H0 W d) (gName i) D σ H := fun D σ H ⟨ev, ps, r, z⟩ =>
  ⟨ev, ps, r, R.on_mono (R.fl_on z) (fun t q v H' s p => q _ H' (r.store s (.inl ⟨rfl, p⟩))) fun c fs q cls dd H' s x => q cls dd σ H' (r.up s) x⟩
theorem imSetF {i : Nat} : ∀ D σ H, tS m X.K S0 H0 W (sSetF i d) D σ H → tAsg (tG .f X.K S0 H0 W d) (gName i) D σ H := fun D σ H ⟨ev, ps, r, z⟩ =>
  ⟨ev, ps, r, R.on_mono (R.fl_on z) (fun t q v H' s p => q _ H' (r.store s (by
    rcases p with ⟨h1, h2⟩ | ⟨a, h1, h2, h3⟩
    · exact .inl ⟨h1, h2⟩
    · refine .inr ⟨?_, a, h1, h2, h3⟩
      cases h3 <;> rfl))) fun c fs q cls dd H' s x => q cls dd σ H' (r.up s) x⟩
theorem s_set (cn : Cn X W k) (i : Nat) {x : Str} {p' : Pos} (he : PE X e (tG .s X.K S0 H0 W d)) (hi : X.N[i]? = some x := by rfl) (hx : Loc X.env.scope x := by first | exact Or.inl rfl | exact Or.inr rfl) (hs : swapsWith e (some (.Name x p')) pos.line X.env = pure false := by rfl)
    (hf : X.fn x = true ∨ X.env.scope.names.lookup x = some .local := by first | exact .inl rfl | exact .inr rfl) : PS X (.Assign [.Name x p'] e pos) (tS m X.K S0 H0 W (sSet i d)) := ps_imp (ps_set cn.nd hi hx he hs hf) imSet
theorem s_setF (cn : Cn X W k) (i : Nat) {x : Str} {p' : Pos} (he : PE X e (tG .f X.K S0 H0 W d)) (hi : X.N[i]? = some x := by rfl) (hx : Loc X.env.scope x := by first | exact Or.inl rfl | exact Or.inr rfl) (hs : swapsWith e (some (.Name x p')) pos.line X.env = pure false := by rfl)
    (hf : X.fn x = true ∨ X.env.scope.names.lookup x = some .local := by first | exact .inl rfl | exact .inr rfl) : PS X (.Assign [.Name x p'] e pos) (tS m X.K S0 H0 W (sSetF i d)) := ps_imp (ps_set cn.nd hi hx he hs hf) imSetF
theorem s_aug (cn : Cn X W k) (i : Nat) {x : Str} {p' : Pos} {op : Operator} {r : R2} {f : T → T → Option T} (ho : OpR X (inplaceOp op) r)
    (hr : ∀ (S : Addr → Prop) (H : Hp) (x y : V) (t u w : T) (Q : VK), (∀ a, S a → H a ≠ none) → Pm X.K .w S H H x t → Pm X.K .w S H H y u → f t u = some w → (∀ v H', Same H H' → Pm X.K .s S H H' v w → Q v H') → r x y H Q)
    (he : PE X e (tG .w X.K S0 H0 W d)) (hi : X.N[i]? = some x := by rfl) (hx : Loc X.env.scope x := by first | exact Or.inl rfl | exact Or.inr rfl)
    (hf : X.fn x = true ∨ X.env.scope.names.lookup x = some .local := by first | exact .inl rfl | exact .inr rfl) : PS X (.AugAssign (.Name x p') op e pos) (tS m X.K S0 H0 W (sAug i f d)) := ps_imp (ps_aug (ti := r) cn.nd hi hx he ho hf) fun D σ H ⟨ev, ps, r0, z⟩ => by
  unfold sAug at z
  split at z
  · rename_i t e0
    obtain ⟨v, h1, h2⟩ := r0.frz i t e0
    refine ⟨v, h1, ev, ps, r0, R.on_mono (R.fl_on z) (fun u q y H1 s1 p1 => ?_) fun c fs q cls dd H' s x => q cls dd σ H' (r0.up s) x⟩
    cases e1 : f t u with
    | none => rw [e1] at q; exact q.elim
    | some w =>
      rw [e1] at q
      exact hr _ H1 v y t u w _ (r0.up s1).sx (.inl (h2.mv (mv_same s1))) p1 e1 fun v' H' s p => q _ H' (r0.store (s1.trans s) (.inl ⟨rfl, p⟩))
  · exact z.elim
def augAdd : T → T → Option T
  | .int a, .int b => some (.int (a + b))
  | .str a, .str b => if a.length + b.length ≤ sizeLine then some (.str (a ++ b)) else none
  | _, _ => none
theorem s_augAdd (cn : Cn X W k) (i : Nat) {x : Str} {p' : Pos} (he : PE X e (tG .w X.K S0 H0 W d)) (hi : X.N[i]? = some x := by rfl) (hx : Loc X.env.scope x := by first | exact Or.inl rfl | exact Or.inr rfl)
    (hf : X.fn x = true ∨ X.env.scope.names.lookup x = some .local := by first | exact .inl rfl | exact .inr rfl) : PS X (.AugAssign (.Name x p') .Add e pos) (tS m X.K S0 H0 W (sAug i augAdd d)) :=
  s_aug cn i (iop_add.or iop_add_str) (fun S H x y t u w Q hs p q e z => by
    cases t with
    | int a =>
      cases u with
      | int b => cases e; exact .inl ⟨a, b, p.int, q.int, z _ _ (Same.refl _) (IsT.int _)⟩
      | _ => cases e
    | str a =>
      cases u with
      | str b =>
        obtain ⟨hz, rfl⟩ := some_if (show (if a.length + b.length ≤ sizeLine then some (T.str (a ++ b)) else none) = some w from e)
        exact .inr ⟨a, b, p.str, q.str, hz, z _ _ (Same.refl _) (IsT.str _)⟩
      | _ => cases e
    | _ => cases u <;> cases e) he hi hx hf
theorem s_augSub (cn : Cn X W k) (i : Nat) {x : Str} {p' : Pos} (he : PE X e (tG .w X.K S0 H0 W d)) (hi : X.N[i]? = some x := by rfl) (hx : Loc X.env.scope x := by first | exact Or.inl rfl | exact Or.inr rfl)
    (hf : X.fn x = true ∨ X.env.scope.names.lookup x = some .local := by first | exact .inl rfl | exact .inr rfl) : PS X (.AugAssign (.Name x p') .Sub e pos) (tS m X.K S0 H0 W (sAug i subT d)) :=
  s_aug cn i iop_sub (fun S H x y t u w Q hs p q e z => by
    cases t <;> cases u <;> first | (cases e; done) | (cases e; exact ⟨_, _, p.int, q.int, z _ _ (Same.refl _) (IsT.int _)⟩)) he hi hx hf
/-! ### return -/
theorem Rp.less {ps : List (V × T)} {σ : L2.St} {H : Hp} {ev : Lo} {K : PySem.W.Frag} (r : Rp K S0 H0 ps σ H ev) {H' : Hp} {v : V} {t : T} (hm : m ≠ .w) (p : Pm K m (Sx S0 σ ev) H H' v t) : Pm K m S0 H0 H' v t := by
  cases m with
  | w => exact absurd rfl hm
  | s => exact IsT.mv (mv_less fun a z => .inl z) p
  | f => exact p.elim (fun z => .inl ⟨z.1, z.2.mv (mv_less fun a z => .inl z)⟩) fun ⟨a, e, n, c⟩ => .inr ⟨a, e, r.same.free n, c.mv (mv_less fun b z => z.elim (fun y => .inl (.inl y)) .inr) rfl⟩
theorem s_ret (hm : m ≠ .w) (he : PE X e (tG m X.K S0 H0 W d)) : PS X (.Return (some e) pos) (tS m X.K S0 H0 W (sRet d)) := ps_imp (ps_ret he) fun D σ H ⟨ev, ps, r, z⟩ =>
  ⟨ev, ps, r, R.on_mono (R.fl_on z) (fun t q v H' s p => q v H' (r.same.trans s) (r.less hm p)) fun c fs q cls dd H' s x => q cls dd σ H' (r.up s) x⟩
theorem s_retS (he : PE X e (tG .s X.K S0 H0 W d)) : PS X (.Return (some e) pos) (tS .s X.K S0 H0 W (sRet d)) := s_ret (fun z => nomatch z) he
theorem s_retF (he : PE X e (tG .f X.K S0 H0 W d)) : PS X (.Return (some e) pos) (tS .f X.K S0 H0 W (sRet d)) := s_ret (fun z => nomatch z) he
theorem imRetO {i : Nat} {f : Bool} (hf : f = match m with | .s => false | _ => true) (hm : m ≠ .w) : ∀ D σ H, tS m X.K S0 H0 W (sRetO f i) D σ H → tRet (tVar i) D σ H := fun D σ H ⟨ev, ps, r, z⟩ => by
  unfold sRetO at z
  split at z
  · rename_i t e
    obtain ⟨a, h1, h2, h3, c⟩ := r.own i t e
    refine ⟨_, h1, z _ H r.same ?_⟩
    cases m with
    | w => exact absurd rfl hm
    | s => exact OwC.isT h2 (c.mv (mv_less fun b z => .inl z) rfl)
    | f => exact .inr ⟨a, rfl, h3, c.mv (mv_less fun b z => z.elim .inl fun e2 => .inr ⟨i, t, e, by rw [e2]; exact h1⟩) rfl⟩
  · rename_i t e
    obtain ⟨v, h1, h2⟩ := r.frz i t e
    refine ⟨v, h1, ?_⟩
    have h3 : IsT X.K S0 H v t := h2.mv (mv_less fun a z => .inl z)
    cases m with
    | w => exact absurd rfl hm
    | s => subst hf; exact z v H r.same h3
    | f =>
      subst hf
      cases e2 : isMut t with
      | true => rw [e2] at z; exact z.elim
      | false => rw [e2] at z; exact z v H r.same (.inl ⟨e2, h3⟩)
  · exact z.elim
theorem s_retOS (i : Nat) {x : Str} {p' : Pos} (hN : X.N[i]? = some x := by rfl) (hv : Vis X.env.scope x := by first | exact Or.inl rfl | exact Or.inr (Or.inl rfl) | exact Or.inr (Or.inr rfl)) (hd : (x == ("__debug__" : Str)) = false := by decide)
    (hcd : (x == ("__classdict__" : Str)) = false := by decide) : PS X (.Return (some (.Name x p')) pos) (tS .s X.K S0 H0 W (sRetO false i)) := ps_imp (ps_ret (pe_var hN hv hd hcd)) (imRetO rfl (fun z => nomatch z))
theorem s_retOF (i : Nat) {x : Str} {p' : Pos} (hN : X.N[i]? = some x := by rfl) (hv : Vis X.env.scope x := by first | exact Or.inl rfl | exact Or.inr (Or.inl rfl) | exact Or.inr (Or.inr rfl)) (hd : (x == ("__debug__" : Str)) = false := by decide)
    (hcd : (x == ("__classdict__" : Str)) = false := by decide) : PS X (.Return (some (.Name x p')) pos) (tS .f X.K S0 H0 W (sRetO true i)) := ps_imp (ps_ret (pe_var hN hv hd hcd)) (imRetO rfl (fun z => nomatch z))
theorem s_retN (hm : m ≠ .w := by exact fun z => nomatch z) : PS X (.Return none pos) (tS m X.K S0 H0 W sRetN) := ps_imp ps_retN fun D σ H ⟨ev, ps, r, z⟩ => z .non H r.same (by
  cases m with
  | w => exact absurd rfl hm
  | s => exact IsT.non
  | f => exact one_non)
/-! ### lists of the def's own -/
theorem s_append (i : Nat) {x : Str} {p1 p2 p3 : Pos} (he : PE X e (tG .s X.K S0 H0 W d)) (hN : X.N[i]? = some x := by rfl) (hv : Vis X.env.scope x := by first | exact Or.inl rfl | exact Or.inr (Or.inl rfl) | exact Or.inr (Or.inr rfl)) (hd : (x == ("__debug__" : Str)) = false := by decide)
    (hcd : (x == ("__classdict__" : Str)) = false := by decide) (hse : starEach [e] X.env = (false, eval e X.env) :: starEach [] X.env := by rfl)
    (hs : swapsWith (.Call (.Attribute (.Name x p1) "append" p2) [e] [] p3) none pos.line X.env = pure false := by rfl)
    (hpe : ∀ {tv : TE} {tl : TA}, PE X (.Name x p1) tv → PA X [e] tl → PE X (.Call (.Attribute (.Name x p1) "append" p2) [e] [] p3) (tBM X.K "list" rAppend tv tl) := by
      intro _ _ h1 h2; exact pe_bm PySem.F.plainAttrs_list PySem.F.slot_list_append PySem.F.type_list_append mt_append h1 h2) :
    PS X (.Expr (.Call (.Attribute (.Name x p1) "append" p2) [e] [] p3) pos) (tS m X.K S0 H0 W (sApp i d)) := ps_imp (ps_expr (hpe (pe_var hN hv hd hcd) (pa_cons he pa_nil hse)) hs) fun D σ H ⟨ev, ps, r, z⟩ => by
  unfold sApp at z
  split at z
  · rename_i ts e0
    obtain ⟨a, h1, h2, h3, c⟩ := r.own i _ e0
    refine ⟨.ref a, h1, ?_, ?_⟩
    · cases c with
      | lst h q => exact .inl ⟨rfl, _, SqL.of h⟩
    · refine ⟨ev, ps, r, R.on_mono (R.fl_on z) (fun u q v H1 s1 p1 => ?_) fun c fs q cls dd H' s x => q cls dd σ H' (r.up s) x⟩
      have r1 := r.up s1
      obtain ⟨a', h1', _, _, c1⟩ := r1.own i _ e0
      rw [h1] at h1'
      cases h1'
      by_cases hz : ts.length < sizeLine
      · rw [if_pos hz] at q
        cases c1 with
        | @lst xs _ h rs =>
          refine ⟨a, xs, v, rfl, rfl, h, by rw [rs.len]; exact hz, q _ _ (r1.write e0 h1 ?_)⟩
          have n : Sx S0 σ ev a := .inr ⟨i, _, e0, h1⟩
          have mv : Mv (Sx S0 σ ev) (Sx S0 σ ev) H1 (upd H1 a (.lst (xs ++ [v]))) := fun b w g nb => ⟨by rw [upd_ne (fun y => nb (by rw [y]; exact n))]; exact g, nb⟩
          exact .lst upd_same ((rs.mv mv).app (.cons (IsT.mv mv p1) .nil))
      · rw [if_neg hz] at q
        exact q.elim
  · exact z.elim
theorem s_setIx (i : Nat) {x : Str} {ke : Expr} {p1 p2 : Pos} (he : PE X e (tG .s X.K S0 H0 W d)) (hk : PE X ke (tG .w X.K S0 H0 W dk)) (hN : X.N[i]? = some x := by rfl) (hv : Vis X.env.scope x := by first | exact Or.inl rfl | exact Or.inr (Or.inl rfl) | exact Or.inr (Or.inr rfl)) (hd : (x == ("__debug__" : Str)) = false := by decide)
    (hcd : (x == ("__classdict__" : Str)) = false := by decide)
    (hpg : ∀ {tv tk : TE}, PE X (.Name x p1) tv → PE X ke tk → PG X (.Subscript (.Name x p1) ke p2) (gSub tv tk rSetL) := by intro _ _ h1 h2; exact pg_sub h1 h2 set_list)
    (hs : swapsWithSole [.Subscript (.Name x p1) ke p2] e pos.line X.env = pure false := by rfl) (hw : swappedStores [.Subscript (.Name x p1) ke p2] e X.env = pure none := by rfl)
    (h1 : (assignEach [.Subscript (.Name x p1) ke p2] X.env).map (·.2) = [assign (.Subscript (.Name x p1) ke p2) X.env] := by rfl) :
    PS X (.Assign [.Subscript (.Name x p1) ke p2] e pos) (tS m X.K S0 H0 W (sSetIx i dk d)) := ps_imp (ps_asg he (hpg (pe_var hN hv hd hcd) hk) hs hw h1) fun D σ H ⟨ev, ps, r, z⟩ => by
  refine ⟨ev, ps, r, R.on_mono (R.fl_on z) (fun u q v H1 s1 p1 => ?_) fun c fs q cls dd H' s x => q cls dd σ H' (r.up s) x⟩
  split at q
  · rename_i ts e0
    obtain ⟨a, g1, _, _, _⟩ := r.own i _ e0
    refine ⟨.ref a, g1, ev, ps, r.up s1, R.on_mono (R.fl_on q) (fun kt q2 kv H2 s2 p2 => ?_) fun c fs q cls dd H' s x => q cls dd σ H' (r.up (s1.trans s)) x⟩
    have r2 := r.up (s1.trans s2)
    obtain ⟨a', g1', _, _, c1⟩ := r2.own i _ e0
    rw [g1] at g1'
    cases g1'
    cases kt with
    | int j =>
      cases ej : ixN ts.length j with
      | none => have q2' := q2; simp only [ej] at q2'; exact q2'.elim
      | some n =>
        have q2' := q2
        simp only [ej] at q2'
        cases c1 with
        | @lst xs _ h rs =>
          refine ⟨a, xs, j, n, rfl, p2.int, h, by rw [rs.len]; exact ej, q2' _ _ (r2.write e0 g1 ?_)⟩
          have nn : Sx S0 σ ev a := .inr ⟨i, _, e0, g1⟩
          have mv : Mv (Sx S0 σ ev) (Sx S0 σ ev) H2 (upd H2 a (.lst (xs.set n v))) := fun b w g nb => ⟨by rw [upd_ne (fun y => nb (by rw [y]; exact nn))]; exact g, nb⟩
          exact .lst upd_same (IsTs.set (IsT.mv mv (IsT.mv (mv_same s2) p1)) n (rs.mv mv))
    | _ => exact q2.elim
  · exact q.elim

/-! ### targets -/
def tTg (vs : List Nat) (K : PySem.W.Frag) (S0 : Addr → Prop) (H0 : Hp) (g : T → Lo → Option Lo) : TG := fun v σ H Q => ∃ ev ps t, Rp K S0 H0 ps σ H ev ∧ IsT K (Sx S0 σ ev) H v t ∧ ∃ e, g t ev = some e ∧ ∀ σ', wipe σ' vs = wipe σ vs → Rp K S0 H0 ps σ' H e → Q σ' H
def tTgs (vs : List Nat) (K : PySem.W.Frag) (S0 : Addr → Prop) (H0 : Hp) (g : List T → Lo → Option Lo) : TGs := fun xs σ H Q => ∃ ev ps ts, Rp K S0 H0 ps σ H ev ∧ IsTs K (Sx S0 σ ev) H xs ts ∧ ∃ e, g ts ev = some e ∧ ∀ σ', wipe σ' vs = wipe σ vs → Rp K S0 H0 ps σ' H e → Q σ' H
theorem wipe_in {σ : L2.St} {i : Nat} {x : Option V} : ∀ {vs : List Nat}, i ∈ vs → wipe (σ.set i x) vs = wipe σ vs := fun {vs} => by
  have key : ∀ vs : List Nat, wipe (σ.set i x) vs = if i ∈ vs then wipe σ vs else (wipe σ vs).set i x := fun vs => by
    induction vs with
    | nil => simp [wipe]
    | cons v vs ih =>
      unfold wipe
      rw [ih]
      by_cases hv : v = i
      · subst hv
        by_cases hm : v ∈ vs <;> simp [hm, List.set_set]
      · have hv' : ¬ i = v := fun z => hv z.symm
        by_cases hm : i ∈ vs
        · simp [hm]
        · simp [hm, hv', List.set_comm _ _ hv]
  intro h
  rw [key vs, if_pos h]
theorem pg_imp {t t' : TG} (h : PG X e t) (f : ∀ v σ H Q, t' v σ H Q → t v σ H Q) : PG X e t' := ⟨fun pins s σ H v u Q I r z => h.run pins s σ H v u Q I r (f v σ H Q z)⟩
variable {vs : List Nat} {g : T → Lo → Option Lo} {gs : List T → Lo → Option Lo} {es : List Expr}
theorem g_nm (cn : X.N.Nodup) (i : Nat) {x : Str} (hi : X.N[i]? = some x := by rfl) (hx : Loc X.env.scope x := by first | exact Or.inl rfl | exact Or.inr rfl) (hf : X.fn x = true ∨ X.env.scope.names.lookup x = some .local := by first | exact .inl rfl | exact .inr rfl) (hv : i ∈ vs := by decide) :
    PG X (.Name x pos) (tTg vs X.K S0 H0 (gNm i)) := pg_imp (pg_name cn hi hx hf) fun v σ H Q ⟨ev, ps, t, r, p, e, he, z⟩ => by
  cases he
  exact z _ (wipe_in hv) (r.store (Same.refl _) (.inl ⟨rfl, p⟩))
theorem g_nil : PGs X [] (tTgs vs X.K S0 H0 gNil) := ⟨fun pins s σ H xs us Q I r ⟨ev, ps, ts, r0, p, e, he, z⟩ => pgs_nil.run pins s σ H xs us Q I r (by
  unfold gNil at he
  split at he
  · cases he; cases p; exact ⟨rfl, z σ rfl r0⟩
  · cases he)⟩
theorem g_cons (h1 : PG X e (tTg vs X.K S0 H0 g)) (h2 : PGs X es (tTgs vs X.K S0 H0 gs)) (hs : (assignEach (e :: es) X.env).map (·.2) = assign e X.env :: (assignEach es X.env).map (·.2) := by rfl) : PGs X (e :: es) (tTgs vs X.K S0 H0 (gCons g gs)) :=
  ⟨fun pins s σ H xs us Q I r ⟨ev, ps, ts, r0, p, e0, he, z⟩ => (pgs_cons h1 h2 hs).run pins s σ H xs us Q I r (by
    unfold gCons at he
    split at he
    · rename_i t ts
      cases p with
      | @cons v _ xs' _ p1 p2 =>
        obtain ⟨e1, he1, he2⟩ := Option.bind_eq_some_iff.mp he
        -- the rest is pinned while the first one is stored
        have zip : ∀ {S : Addr → Prop} {xs : List V} {ts : List T}, IsTs X.K S H xs ts → ∀ q ∈ xs.zip ts, IsT X.K S H q.1 q.2 := fun {S xs ts} h => by
          induction ts generalizing xs with
          | nil => cases h; intro q hq; simp at hq
          | cons t ts ih =>
            cases h with
            | cons a b =>
              intro q hq
              rcases List.mem_cons.mp (by simpa using hq) with e | hq
              · rw [e]; exact a
              · exact ih b q hq
        have unzip : ∀ {S : Addr → Prop} {xs : List V} {ts : List T}, xs.length = ts.length → (∀ q ∈ xs.zip ts, IsT X.K S H q.1 q.2) → IsTs X.K S H xs ts := fun {S xs ts} hl h => by
          induction ts generalizing xs with
          | nil => cases xs with | nil => exact .nil | cons _ _ => simp at hl
          | cons t ts ih =>
            cases xs with
            | nil => simp at hl
            | cons x xs => exact .cons (h (x, t) (by simp)) (ih (by simpa using hl) fun q hq => h q (by simp [hq]))
        have len := p2.len
        refine ⟨v, _, rfl, ev, xs'.zip ts ++ ps, t, r0.pins fun q hq => (List.mem_append.mp hq).elim (zip p2 q) (r0.pin q), p1, e1, he1, fun σ1 hw1 r1 => ?_⟩
        refine ⟨e1, ps, ts, r1.pins fun q hq => r1.pin q (List.mem_append_right _ hq), unzip len fun q hq => r1.pin q (List.mem_append_left _ hq), e0, he2, fun σ2 hw2 r2 => z σ2 (hw2.trans hw1) r2⟩
    · cases he)⟩
theorem g_tp {kk n : Nat} (hc : X.calm = true) (h : PGs X es (tTgs vs X.K S0 H0 gs)) (hn : (assignEach es X.env).length = n := by rfl) (hst : (assignEach es X.env).findIdx? (·.1) = none := by rfl) : PG X (.Tuple es kk pos) (tTg vs X.K S0 H0 (gTp n gs)) := by
  have two : PG X (.Tuple es kk pos) (fun v σ H Q => gTup X.K n (tTgs vs X.K S0 H0 gs) v σ H Q ∨ gLst X.K n (tTgs vs X.K S0 H0 gs) v σ H Q) := ⟨fun pins s σ H v u Q I r z => z.elim
    (fun z => (pg_tup hc h hn hst).run pins s σ H v u Q I r z) fun z => (pg_lst hc h hn hst).run pins s σ H v u Q I r z⟩
  refine pg_imp two fun v σ H Q ⟨ev, ps, t, r, p, e, he, z⟩ => ?_
  have key : ∀ {us : List T}, (if us.length = n then gs us ev else none) = some e → us.length = n ∧ gs us ev = some e := fun {us} q => by
    by_cases q1 : us.length = n
    · rw [if_pos q1] at q; exact ⟨q1, q⟩
    · rw [if_neg q1] at q; cases q
  cases t with
  | tup us =>
    obtain ⟨hl, he⟩ := key he
    cases p with
    | tup h rs => exact .inl ⟨_, _, rfl, h.sq, by rw [rs.len]; exact hl, ev, ps, _, r, rs, e, he, z⟩
  | lst us =>
    obtain ⟨hl, he⟩ := key he
    cases p with
    | lst nn h rs => exact .inr ⟨_, _, rfl, SqL.of h, by rw [rs.len]; exact hl, ev, ps, _, r, rs, e, he, z⟩
  | _ => cases he
theorem s_asg {tg : Expr} (he : PE X e (tG .s X.K S0 H0 W d)) (hg : PG X tg (tTg vs X.K S0 H0 g)) (hs : swapsWithSole [tg] e pos.line X.env = pure false := by rfl) (hw : swappedStores [tg] e X.env = pure none := by rfl) (h1 : (assignEach [tg] X.env).map (·.2) = [assign tg X.env] := by rfl) :
    PS X (.Assign [tg] e pos) (tS m X.K S0 H0 W (sAsg g d)) := ps_imp (ps_asg he hg hs hw h1) fun D σ H ⟨ev, ps, r, z⟩ => by
  refine ⟨ev, ps, r, R.on_mono (R.fl_on z) (fun t q v H' s p => ?_) fun c fs q cls dd H' s x => q cls dd σ H' (r.up s) x⟩
  cases e1 : g t ev with
  | none => rw [e1] at q; exact q.elim
  | some e2 => rw [e1] at q; exact ⟨ev, ps, t, r.up s, p, e2, e1, fun σ' _ r' => q σ' H' r'⟩
end
end DL

set_option maxHeartbeats 1000000
namespace DL
open PySem PySem.Spec PyProof.Rows L2

/-- what an iterator yields -/
structure ItOk (K : PySem.W.Frag) (J : It) (pn : List (V × T)) (ts : List T) : Prop where
  go : ∀ (S : Addr → Prop) (H : Hp) (i : Nat), (∀ p ∈ pn, Pm K .w S H H p.1 p.2) → i < ts.length → J.go i H
  yld : ∀ (S : Addr → Prop) (H : Hp) (i : Nat) (x : V) (H' : Hp), (∀ p ∈ pn, Pm K .w S H H p.1 p.2) → (∀ a, S a → H a ≠ none) → i < ts.length → J.yld i H x H' → ∃ t, ts[i]? = some t ∧ Same H H' ∧ IsT K S H' x t
  stop : ∀ (S : Addr → Prop) (H : Hp) (i : Nat), (∀ p ∈ pn, Pm K .w S H H p.1 p.2) → ts.length ≤ i → J.stop i H
def tI (m : Md) (K : PySem.W.Frag) (S0 : Addr → Prop) (H0 : Hp) (W : WX) (d : Lo → R (List T)) : TI := fun σ H Rr => ∃ ev ps, Rp K S0 H0 ps σ H ev ∧
  (d ev).on (fun ts => ∀ J H' pn, Same H H' → (∀ p ∈ pn, Pm K m (Sx S0 σ ev) H H' p.1 p.2) → ItOk K J pn ts → Rr J H') (fun c fs => ∀ cls dd H', Same H H' → IsX K (Sx S0 σ ev) H' cls dd c fs → W cls dd σ H')
/-- the items of a list, a tuple, a text -/
def itemsT : T → Option (List T)
  | .lst xs => some xs
  | .tup xs => some xs
  | .scr ns => some (ns.map T.int)
  | .str z => some (z.cps.toList.map fun c => T.str ⟨#[c]⟩)
  | _ => none
def dIter (d : Lo → R T) : Lo → R (List T) := fun ev => (d ev).bind fun t => ofO (itemsT t)
def dRng1 (d : Lo → R T) : Lo → R (List T) := fun ev => (d ev).bind fun t => match t with
  | .int n => if -(2 ^ 62) ≤ n ∧ n < 2 ^ 62 then .ok ((List.range n.toNat).map fun (i : Nat) => T.int (i : Int)) else .bad
  | _ => .bad
def dRng2 (d : Lo → R (List T)) : Lo → R (List T) := fun ev => (d ev).bind fun t => match t with
  | [.int a, .int b] => if -(2 ^ 62) ≤ a ∧ a < 2 ^ 62 ∧ -(2 ^ 62) ≤ b ∧ b < 2 ^ 62 then .ok ((List.range (b - a).toNat).map fun (i : Nat) => T.int (a + (i : Int))) else .bad
  | _ => .bad
/-- range(a, b, -1) -/
def dRngD (d : Lo → R (List T)) : Lo → R (List T) := fun ev => (d ev).bind fun t => match t with
  | [.int a, .int b, .int c] => if -(2 ^ 62) ≤ a ∧ a < 2 ^ 62 ∧ -(2 ^ 62) ≤ b ∧ b < 2 ^ 62 ∧ c = -1 then .ok ((List.range (a - b).toNat).map fun (i : Nat) => T.int (a - (i : Int))) else .bad
  | _ => .bad
def enumL (ts : List T) : List T := (ts.zipIdx).map fun p => T.tup [.int p.2, p.1]
def dEnum (d : Lo → R T) : Lo → R (List T) := fun ev => (d ev).bind fun t => match t with
  | .lst xs => .ok (enumL xs)
  | .scr ns => .ok (enumL (ns.map T.int))
  | _ => .bad
def dZip (d : Lo → R (List T)) : Lo → R (List T) := fun ev => (d ev).bind fun t => match t with
  | [.lst xs, .lst ys] => .ok ((xs.zip ys).map fun p => T.tup [p.1, p.2])
  | _ => .bad

section
variable {X : Cx} {e a b tg : Expr} {S S0 : Addr → Prop} {H0 : Hp} {W : WX} {d da db : Lo → R T} {pos : Pos} {m ma mb : Md} {k : Nat} {ds : Lo → R (List T)} {es : List Expr}
theorem pi_imp {wi wi' : TI} (h : PI X tg e wi) (f : ∀ σ H Q, wi' σ H Q → wi σ H Q) : PI X tg e wi' := ⟨fun pins s σ H Q I z => h.run pins s σ H Q I (f σ H Q z)⟩
theorem itl_ok {K : PySem.W.Frag} {a : Addr} {ts : List T} (h : ∀ (S : Addr → Prop) (H : Hp), Pm K .w S H H (.ref a) (.lst ts) → ∃ xs, H a = some (.lst xs) ∧ IsTs K S H xs ts) : ItOk K (Itl K a) [(.ref a, .lst ts)] ts where
  go := fun S H i hp hi => by
    obtain ⟨xs, hx, r⟩ := h S H (hp _ List.mem_cons_self)
    obtain ⟨v, h1, _⟩ := r.get (i := i) (List.getElem?_eq_getElem hi)
    exact ⟨xs, v, SqL.of hx, h1⟩
  yld := fun S H i x H' hp hs hi y => by
    obtain ⟨xs, hx, r⟩ := h S H (hp _ List.mem_cons_self)
    obtain ⟨e, y⟩ := y
    subst e
    obtain ⟨t, h1, h2⟩ := r.getv (y xs (SqL.of hx))
    exact ⟨t, h1, Same.refl _, h2⟩
  stop := fun S H i hp hi => by
    obtain ⟨xs, hx, r⟩ := h S H (hp _ List.mem_cons_self)
    exact ⟨xs, SqL.of hx, by rw [r.len]; exact hi⟩
theorem itscr_ok {K : PySem.W.Frag} {a : Addr} {ns : List Int} : ItOk K (Itl K a) [(.ref a, .scr ns)] (ns.map T.int) where
  go := fun S H i hp hi => by
    obtain ⟨b, e, h⟩ := (hp (V.ref a, T.scr ns) List.mem_cons_self).scr
    cases e
    have hi' : i < ns.length := by simpa using hi
    exact ⟨_, .int ns[i], h.sq, by simp [hi']⟩
  yld := fun S H i x H' hp hs hi y => by
    obtain ⟨b, e, h⟩ := (hp (V.ref a, T.scr ns) List.mem_cons_self).scr
    cases e
    obtain ⟨e, y⟩ := y
    subst e
    have hi' : i < ns.length := by simpa using hi
    have q := y _ h.sq
    have q2 : x = .int ns[i] := by simp [hi'] at q; exact q.symm
    subst q2
    exact ⟨.int ns[i], by simp [hi'], Same.refl _, .int _⟩
  stop := fun S H i hp hi => by
    obtain ⟨b, e, h⟩ := (hp (V.ref a, T.scr ns) List.mem_cons_self).scr
    cases e
    exact ⟨_, h.sq, by simpa using hi⟩
theorem itt_ok {K : PySem.W.Frag} {a : Addr} {ts : List T} : ItOk K (Itt K a) [(.ref a, .tup ts)] ts where
  go := fun S H i hp hi => by
    obtain ⟨b, xs, e, h, r⟩ := (hp (V.ref a, T.tup ts) List.mem_cons_self).tup
    cases e
    obtain ⟨v, h1, _⟩ := r.get (i := i) (List.getElem?_eq_getElem hi)
    exact ⟨xs, v, h.sq, h1⟩
  yld := fun S H i x H' hp hs hi y => by
    obtain ⟨b, xs, e, h, r⟩ := (hp (V.ref a, T.tup ts) List.mem_cons_self).tup
    cases e
    obtain ⟨e, y⟩ := y
    subst e
    obtain ⟨t, h1, h2⟩ := r.getv (y xs h.sq)
    exact ⟨t, h1, Same.refl _, h2⟩
  stop := fun S H i hp hi => by
    obtain ⟨b, xs, e, h, r⟩ := (hp (V.ref a, T.tup ts) List.mem_cons_self).tup
    cases e
    exact ⟨xs, h.sq, by rw [r.len]; exact hi⟩
theorem its_ok {K : PySem.W.Frag} {z : Str} : ItOk K (Its z) [] (z.cps.toList.map fun c => T.str ⟨#[c]⟩) where
  go := fun S H i hp hi => by
    have hi' : i < z.cps.size := by simpa using hi
    exact hi'
  yld := fun S H i x H' hp hs hi y => by
    have hi' : i < z.cps.size := by simpa using hi
    obtain ⟨e, c, h1, h2⟩ := y
    subst e h2
    exact ⟨.str ⟨#[c]⟩, by simp [h1], Same.refl _, .str _⟩
  stop := fun S H i hp hi => by
    have hi' : z.cps.size ≤ i := by simpa using hi
    exact hi'
/-- a loop over a list, a tuple, a text -/
theorem i_seq (hm : m ≠ .f) (he : PE X e (tG m X.K S0 H0 W d)) : PI X tg e (tI m X.K S0 H0 W (dIter d)) := by
  have h3 : PI X tg e (fun σ H R => iList X.K (tG m X.K S0 H0 W d) σ H R ∨ iTup X.K (tG m X.K S0 H0 W d) σ H R ∨ iStr (tG m X.K S0 H0 W d) σ H R) := ⟨fun pins s σ H R I z => by
    rcases z with z | z | z
    · exact (pi_list he).run pins s σ H R I z
    · exact (pi_tup he).run pins s σ H R I z
    · exact (pi_str he).run pins s σ H R I z⟩
  refine pi_imp h3 fun σ H Rr ⟨ev, ps, r, z⟩ => ?_
  have z2 := R.on_bind z
  cases e1 : d ev with
  | bad => rw [e1] at z2; exact z2.elim
  | ex c fs => rw [e1] at z2; exact .inl ⟨ev, ps, r, by rw [e1]; exact z2⟩
  | ok t =>
    rw [e1] at z2
    cases t with
    | lst ts =>
      refine .inl ⟨ev, ps, r, ?_⟩
      rw [e1]
      intro v H' s p
      obtain ⟨a, xs, rfl, h, rs⟩ := p.lst
      exact ⟨a, rfl, ⟨xs, SqL.of h⟩, z2 _ H' [(.ref a, .lst ts)] s (fun q hq => by rw [List.mem_singleton.mp hq]; exact p) (itl_ok fun S H2 q => by
        obtain ⟨b, ys, eb, hb, rb⟩ := q.lst
        cases eb
        exact ⟨ys, hb, rb⟩)⟩
    | scr ns =>
      refine .inl ⟨ev, ps, r, ?_⟩
      rw [e1]
      intro v H' s p
      obtain ⟨a, rfl, h⟩ := p.scr
      exact ⟨a, rfl, ⟨_, h.sq⟩, z2 _ H' [(.ref a, .scr ns)] s (fun q hq => by rw [List.mem_singleton.mp hq]; exact p) itscr_ok⟩
    | tup ts =>
      refine .inr (.inl ⟨ev, ps, r, ?_⟩)
      rw [e1]
      intro v H' s p
      obtain ⟨a, xs, rfl, h, rs⟩ := p.tup
      exact ⟨a, rfl, ⟨_, h.sq⟩, z2 _ H' [(.ref a, .tup ts)] s (fun q hq => by rw [List.mem_singleton.mp hq]; exact p) itt_ok⟩
    | str x =>
      refine .inr (.inr ⟨ev, ps, r, ?_⟩)
      rw [e1]
      intro v H' s p
      exact ⟨x, p.str, z2 _ H' [] s (fun q hq => by cases hq) its_ok⟩
    | _ => exact z2.elim
theorem itr_ok {K : PySem.W.Frag} {lo : Int} {n : Nat} : ItOk K (Itr lo n) [] ((List.range n).map fun (i : Nat) => T.int (lo + (i : Int))) where
  go := fun S H i hp hi => by show i < n; simpa using hi
  yld := fun S H i x H' hp hs hi y => by
    obtain ⟨e, h2⟩ := y
    subst e h2
    have hi' : i < n := by simpa using hi
    exact ⟨.int (lo + i), by simp [hi'], Same.refl _, .int _⟩
  stop := fun S H i hp hi => by show n ≤ i; simpa using hi
theorem i_rng1 {p : Pos} (hm : X.mg "range" = none) (he : PE X e (tG .w X.K S0 H0 W d)) (hg : Gl X "range" := by rfl) (hs : starEach [e] X.env = [(false, eval e X.env)] := by rfl) : PI X tg (.Call (.Name "range" p) [e] [] pos) (tI m X.K S0 H0 W (dRng1 d)) :=
  pi_imp (pi_range1 hg hm (w_cons he w_nil hs) hs) fun σ H Rr ⟨ev, ps, r, z⟩ => by
    have z2 := R.on_bind z
    cases e1 : d ev with
    | bad => rw [e1] at z2; exact z2.elim
    | ex c fs => rw [e1] at z2; exact ⟨ev, ps, r, by unfold dCons; rw [e1]; exact z2⟩
    | ok t =>
      rw [e1] at z2
      refine ⟨ev, ps, r, ?_⟩
      unfold dCons
      rw [e1]
      intro vs H' s p
      obtain ⟨v, rfl, q⟩ := one_w p
      cases t with
      | int n =>
        have z3 : (if -(2 ^ 62) ≤ n ∧ n < 2 ^ 62 then R.ok ((List.range n.toNat).map fun (i : Nat) => T.int (i : Int)) else R.bad).on _ _ := z2
        by_cases hn : -(2 ^ 62) ≤ n ∧ n < 2 ^ 62
        · rw [if_pos hn] at z3
          refine ⟨n, by rw [q.int], hn.1, hn.2, z3 _ H' [] s (fun q hq => by cases hq) ?_⟩
          have e2 : ((List.range n.toNat).map fun (i : Nat) => T.int (i : Int)) = (List.range n.toNat).map fun (i : Nat) => T.int (0 + (i : Int)) := by
            apply List.map_congr_left; intro i _; rw [Int.zero_add]
          rw [e2]
          exact itr_ok
        · rw [if_neg hn] at z3; exact z3.elim
      | _ => exact z2.elim
theorem i_rng2 {p : Pos} (hm : X.mg "range" = none) (he : PA X [a, b] (tAw X.K S0 H0 W ds)) (hg : Gl X "range" := by rfl) (hs : starEach [a, b] X.env = [(false, eval a X.env), (false, eval b X.env)] := by rfl) (hs2 : starEach [b] X.env = [(false, eval b X.env)] := by rfl) :
    PI X tg (.Call (.Name "range" p) [a, b] [] pos) (tI m X.K S0 H0 W (dRng2 ds)) :=
  pi_imp (pi_range2 hg hm he hs hs2) fun σ H Rr ⟨ev, ps, r, z⟩ => by
    refine ⟨ev, ps, r, R.on_mono (R.on_bind z) (fun ts q vs H' s p => ?_) fun _ _ q => q⟩
    split at q
    · rename_i i j
      obtain ⟨v, v', rfl, q1, q2⟩ := two_w p
      by_cases hn : -(2 ^ 62) ≤ i ∧ i < 2 ^ 62 ∧ -(2 ^ 62) ≤ j ∧ j < 2 ^ 62
      · rw [if_pos hn] at q
        exact ⟨i, j, by rw [q1.int, q2.int], hn, q _ H' [] s (fun q hq => by cases hq) itr_ok⟩
      · rw [if_neg hn] at q; exact q.elim
    · exact q.elim
theorem itc_ok {K : PySem.W.Frag} {lo : Int} {n : Nat} : ItOk K (Itc lo (-1) n) [] ((List.range n).map fun (i : Nat) => T.int (lo - (i : Int))) where
  go := fun S H i hp hi => by show i < n; simpa using hi
  yld := fun S H i x H' hp hs hi y => by
    obtain ⟨e, h2⟩ := y
    subst e h2
    have hi' : i < n := by simpa using hi
    refine ⟨.int (lo - i), by simp [hi'], Same.refl _, ?_⟩
    have e2 : lo + (i : Int) * -1 = lo - i := by omega
    rw [e2]
    exact .int _
  stop := fun S H i hp hi => by show n ≤ i; simpa using hi
theorem three_w {K : PySem.W.Frag} {H : Hp} {vs : List V} {t u w : T} (h : IsWs K S H vs [t, u, w]) : ∃ x y z, vs = [x, y, z] ∧ Pm K .w S H H x t ∧ Pm K .w S H H y u ∧ Pm K .w S H H z w := by
  cases h with
  | cons h r => cases r with | cons h2 r => cases r with | cons h3 r => cases r; exact ⟨_, _, _, rfl, h, h2, h3⟩
theorem i_rngD {ce : Expr} {p : Pos} (hm : X.mg "range" = none) (he : PA X [a, b, ce] (tAw X.K S0 H0 W ds)) (hg : Gl X "range" := by rfl) (hs : starEach [a, b, ce] X.env = (false, eval a X.env) :: starEach [b, ce] X.env := by rfl) (hpl : (backTo pos (starEach [b, ce] X.env)).any (·.1) = false := by rfl) :
    PI X tg (.Call (.Name "range" p) [a, b, ce] [] pos) (tI m X.K S0 H0 W (dRngD ds)) :=
  pi_imp (pi_range3 hg hm he hs hpl) fun σ H Rr ⟨ev, ps, r, z⟩ => by
    refine ⟨ev, ps, r, R.on_mono (R.on_bind z) (fun ts q vs H' s p => ?_) fun _ _ q => q⟩
    split at q
    · rename_i i j c
      obtain ⟨v, v', v3, rfl, q1, q2, q3⟩ := three_w p
      by_cases hn : -(2 ^ 62) ≤ i ∧ i < 2 ^ 62 ∧ -(2 ^ 62) ≤ j ∧ j < 2 ^ 62 ∧ c = -1
      · rw [if_pos hn] at q
        obtain ⟨h1, h2, h3, h4, rfl⟩ := hn
        exact ⟨i, j, -1, (i - j).toNat, by rw [q1.int, q2.int, q3.int], RgC.neg h1 h2 h3 h4, q _ H' [] s (fun q hq => by cases hq) itc_ok⟩
      · rw [if_neg hn] at q; exact q.elim
    · exact q.elim
theorem enum_at (ts : List T) (i : Nat) (h : i < ts.length) : (enumL ts)[i]? = some (.tup [.int i, ts[i]]) := by
  simp [enumL, h]
theorem enum_len (ts : List T) : (enumL ts).length = ts.length := by simp [enumL]
theorem ite_ok {K : PySem.W.Frag} {a : Addr} {u : T} {ts : List T} (h : ∀ (S : Addr → Prop) (H : Hp), Pm K .w S H H (.ref a) u → ∃ xs, SqL K H a xs ∧ IsTs K S H xs ts) : ItOk K (Ite K a) [(.ref a, u)] (enumL ts) where
  go := fun S H i hp hi => by
    obtain ⟨xs, hx, r⟩ := h S H (hp _ List.mem_cons_self)
    rw [enum_len] at hi
    obtain ⟨v, h1, _⟩ := r.get (i := i) (List.getElem?_eq_getElem hi)
    exact ⟨xs, v, hx, h1⟩
  yld := fun S H i x H' hp hs hi y => by
    obtain ⟨xs, hx, r⟩ := h S H (hp _ List.mem_cons_self)
    obtain ⟨U, w, rfl, hU, rfl, y⟩ := y
    obtain ⟨t, h1, h2⟩ := r.getv (y xs hx)
    rw [enum_len] at hi
    have e2 : ts[i] = t := by rw [List.getElem?_eq_getElem hi] at h1; exact Option.some.inj h1
    exact ⟨_, enum_at ts i hi, same_upd hU, by rw [e2]; exact (new_tup hs hU (.cons (.int _) (.cons h2 .nil))).elim (fun z => z.2) fun ⟨_, _, _, c⟩ => by cases c⟩
  stop := fun S H i hp hi => by
    obtain ⟨xs, hx, r⟩ := h S H (hp _ List.mem_cons_self)
    rw [enum_len] at hi
    exact ⟨xs, hx, by rw [r.len]; exact hi⟩
theorem scr_ts {K : PySem.W.Frag} {H : Hp} : ∀ ns : List Int, IsTs K S H (ns.map V.int) (ns.map T.int)
  | [] => .nil
  | n :: ns => .cons (.int n) (scr_ts ns)
theorem i_enum {p tpos : Pos} {elts : List Expr} {kk : Nat} (hm : X.mg "enumerate" = none) (hw : m ≠ .f) (he : PE X e (tG m X.K S0 H0 W d)) (hg : Gl X "enumerate" := by rfl) (hs : starEach [e] X.env = [(false, eval e X.env)] := by rfl) :
    PI X (.Tuple elts kk tpos) (.Call (.Name "enumerate" p) [e] [] pos) (tI m X.K S0 H0 W (dEnum d)) :=
  pi_imp (pi_enum hg hm (pa_cons he pa_nil hs) hs) fun σ H Rr ⟨ev, ps, r, z⟩ => by
    refine ⟨ev, ps, r, R.on_mono (R.on_bind z) (fun t q v H' s p => ?_) fun _ _ q => q⟩
    cases t with
    | lst ts =>
      obtain ⟨a, xs, rfl, h, rs⟩ := p.lst
      exact ⟨a, xs, rfl, SqL.of h, q _ H' [(.ref a, .lst ts)] s (fun q hq => by rw [List.mem_singleton.mp hq]; exact p) (ite_ok fun S H2 q => by
        obtain ⟨b, ys, eb, hb, rb⟩ := q.lst
        cases eb
        exact ⟨ys, SqL.of hb, rb⟩)⟩
    | scr ns =>
      obtain ⟨a, rfl, h⟩ := p.scr
      exact ⟨a, _, rfl, h.sq, q _ H' [(.ref a, .scr ns)] s (fun q hq => by rw [List.mem_singleton.mp hq]; exact p) (ite_ok fun S H2 q => by
        obtain ⟨b, eb, hb⟩ := q.scr
        cases eb
        exact ⟨_, hb.sq, scr_ts ns⟩)⟩
    | _ => exact q.elim
theorem zip_at (xs ys : List T) (i : Nat) (h : i < xs.length) (h2 : i < ys.length) : ((xs.zip ys).map fun p => T.tup [p.1, p.2])[i]? = some (.tup [xs[i], ys[i]]) := by
  have e : (xs.zip ys)[i]? = some (xs[i], ys[i]) := by rw [List.getElem?_eq_getElem (by simp; omega)]; simp
  rw [List.getElem?_map, e]; rfl
theorem itz_ok {K : PySem.W.Frag} {a b : Addr} {xs ys : List T} : ItOk K (Itz K a b) [(.ref a, .lst xs), (.ref b, .lst ys)] ((xs.zip ys).map fun p => T.tup [p.1, p.2]) where
  go := fun S H i hp hi => by
    obtain ⟨a', vs, e, h, r⟩ := (hp (.ref a, .lst xs) (by simp)).lst
    cases e
    obtain ⟨b', ws, e, h', r'⟩ := (hp (.ref b, .lst ys) (by simp)).lst
    cases e
    have hi2 : i < xs.length ∧ i < ys.length := by
      have : i < min xs.length ys.length := by simpa using hi
      omega
    obtain ⟨v, h1, _⟩ := r.get (i := i) (List.getElem?_eq_getElem hi2.1)
    obtain ⟨w, h2, _⟩ := r'.get (i := i) (List.getElem?_eq_getElem hi2.2)
    exact ⟨vs, ws, v, w, SqL.of h, SqL.of h', h1, h2⟩
  yld := fun S H i x H' hp hs hi y => by
    obtain ⟨a', vs, e, h, r⟩ := (hp (.ref a, .lst xs) (by simp)).lst
    cases e
    obtain ⟨b', ws, e, h', r'⟩ := (hp (.ref b, .lst ys) (by simp)).lst
    cases e
    have hi2 : i < xs.length ∧ i < ys.length := by
      have : i < min xs.length ys.length := by simpa using hi
      omega
    obtain ⟨U, v, w, rfl, hU, rfl, y1, y2⟩ := y
    obtain ⟨t, h1, h2⟩ := r.getv (y1 vs (SqL.of h))
    obtain ⟨t', h1', h2'⟩ := r'.getv (y2 ws (SqL.of h'))
    have e1 : xs[i] = t := by rw [List.getElem?_eq_getElem hi2.1] at h1; exact Option.some.inj h1
    have e2 : ys[i] = t' := by rw [List.getElem?_eq_getElem hi2.2] at h1'; exact Option.some.inj h1'
    exact ⟨_, zip_at xs ys i hi2.1 hi2.2, same_upd hU, by rw [e1, e2]; exact (new_tup hs hU (.cons h2 (.cons h2' .nil))).elim (fun z => z.2) fun ⟨_, _, _, c⟩ => by cases c⟩
  stop := fun S H i hp hi => by
    obtain ⟨a', vs, e, h, r⟩ := (hp (.ref a, .lst xs) (by simp)).lst
    cases e
    obtain ⟨b', ws, e, h', r'⟩ := (hp (.ref b, .lst ys) (by simp)).lst
    cases e
    have hi2 : min xs.length ys.length ≤ i := by simpa using hi
    exact ⟨vs, ws, SqL.of h, SqL.of h', by rw [r.len, r'.len]; omega⟩
theorem i_zip {p tpos : Pos} {elts : List Expr} {kk : Nat} (hm : X.mg "zip" = none) (ha : PE X a (tG ma X.K S0 H0 W da)) (hb : PE X b (tG ma X.K S0 H0 W db)) (hw : ma ≠ .f) (hg : Gl X "zip" := by rfl)
    (hs : starEach [a, b] X.env = (false, eval a X.env) :: starEach [b] X.env := by rfl) (hs2 : starEach [b] X.env = (false, eval b X.env) :: starEach [] X.env := by rfl) (hpi : ∀ {ta : TA}, PA X [a, b] ta → PI X (.Tuple elts kk tpos) (.Call (.Name "zip" p) [a, b] [] pos) (iZip X.K ta)) :
    PI X (.Tuple elts kk tpos) (.Call (.Name "zip" p) [a, b] [] pos) (tI ma X.K S0 H0 W (dZip (dCons da (dCons db dNil)))) :=
  pi_imp (hpi (pa_cons ha (pa_cons hb pa_nil hs2) hs)) fun σ H Rr ⟨ev, ps, r, z⟩ => by
    refine ⟨ev, ps, r, R.on_mono (R.on_bind (R.on_bind z)) (fun t q v H1 s1 p1 => ?_) fun _ _ q => q⟩
    have q := R.on_bind (R.on_bind q)
    refine ⟨ev, ps, r.up s1, ?_⟩
    unfold dCons at q
    cases e2 : db ev with
    | bad => rw [e2] at q; exact q.elim
    | ex c fs => rw [e2] at q; exact fun cls dd H2 s2 x => q cls dd H2 (s1.trans s2) x
    | ok u =>
    rw [e2] at q
    intro v2 H2 s2 p2
    cases t with
    | lst xs =>
      cases u with
      | lst ys =>
        have p1' := Pm.up s2 p1
        obtain ⟨a, vs, rfl, h, rs⟩ := p1'.lst
        obtain ⟨b, ws, rfl, h2, rs2⟩ := p2.lst
        refine ⟨a, b, vs, ws, rfl, SqL.of h, SqL.of h2, q _ H2 [(.ref a, .lst xs), (.ref b, .lst ys)] (s1.trans s2) (fun q hq => ?_) itz_ok⟩
        rcases List.mem_cons.mp hq with e | hq
        · rw [e]; exact p1'
        · rw [List.mem_singleton.mp hq]; exact p2.back s1
      | _ => exact q.elim
    | _ => exact q.elim
end
end DL

set_option maxHeartbeats 1000000
namespace DL
open PySem PySem.Spec PyProof.Rows L2

section
variable {X : Cx} {e a b tg iter : Expr} {body : List Stmt} {S S0 : Addr → Prop} {H0 : Hp} {W : WX} {d da db : Lo → R T} {pos : Pos} {m ma mb : Md} {k : Nat} {ds : Lo → R (List T)} {es : List Expr} {d1 : Lo → Fl} {g : T → Lo → Option Lo} {vs : List Nat} {di : Lo → R (List T)} {c : Lo → R Bool}
theorem s_for (cn : Cn X W k) (hi : PI X tg iter (tI .s X.K S0 H0 W di)) (hg : PG X tg (tTg vs X.K S0 H0 g)) (hb : PSs X body (tS m X.K S0 H0 W d1)) (hs : ∀ x, foldedSetIterable iter X.env x = pure x := by intro _; rfl) :
    PS X (.For tg iter body [] pos) (tS m X.K S0 H0 W (sFor di g d1)) := ps_imp (ps_for cn.po cn.calm hi hg hb hs) fun D σ H ⟨ev, ps, r, z⟩ => by
  refine ⟨ev, ps, r, R.on_mono (R.fl_on z) (fun ts q J H1 pn s1 hp it => ?_) fun c fs q cls dd H' s x => q cls dd σ H' (r.up s) x⟩
  have r1 : Rp X.K S0 H0 (pn ++ ps) σ H1 ev := (r.up s1).pins fun p hq => (List.mem_append.mp hq).elim (fun y => hp p y) ((r.up s1).pin p)
  refine ⟨fun i n σ' H' => n = ts.length - i ∧ i ≤ ts.length ∧ ∃ ev', Rp X.K S0 H0 (pn ++ ps) σ' H' ev' ∧
    (forL g d1 (ts.drop i) ev').on (fun e => ∀ σ' H', Rp X.K S0 H0 ps σ' H' e → D.nx σ' H') (fun e => ∀ σ' H', Rp X.K S0 H0 ps σ' H' e → D.bk σ' H') (fun e => ∀ σ' H', Rp X.K S0 H0 ps σ' H' e → D.ct σ' H')
      (fun t => ∀ v H', Same H0 H' → Pm X.K m S0 H0 H' v t → D.rt v H') (fun c fs e => ∀ cls dd σ' H', Rp X.K S0 H0 ps σ' H' e → IsX X.K (Sx S0 σ' e) H' cls dd c fs → W cls dd σ' H'), ⟨ts.length, by simp, Nat.zero_le _, ev, r1, by rw [List.drop_zero]; exact q⟩, ?_⟩
  rintro i n σ2 H2 ⟨rfl, hi2, ev2, r2, z2⟩
  have un : ∀ {σ' : L2.St} {H' : Hp} {e : Lo}, Rp X.K S0 H0 (pn ++ ps) σ' H' e → Rp X.K S0 H0 ps σ' H' e := fun y => y.pins fun p hq => y.pin p (List.mem_append_right _ hq)
  have pins : ∀ p ∈ pn, Pm X.K .w (Sx S0 σ2 ev2) H2 H2 p.1 p.2 := fun p hq => .inl (r2.pin p (List.mem_append_left _ hq))
  by_cases hlt : i < ts.length
  · refine .inr ⟨it.go _ H2 i pins hlt, fun σ' H' => ∃ ev', Rp X.K S0 H0 (pn ++ ps) σ' H' ev' ∧ (forL g d1 (ts.drop (i + 1)) ev').on _ _ _ _ _, fun σ' H' ⟨ev', r', z'⟩ => ⟨ts.length - (i + 1), by omega, rfl, hlt, ev', r', z'⟩, fun x H3 y => ?_⟩
    obtain ⟨t, ht, s3, pt⟩ := it.yld _ H2 i x H3 pins r2.sx hlt y
    have et : ts.drop i = t :: ts.drop (i + 1) := by
      rw [List.drop_eq_getElem_cons hlt]
      rw [List.getElem?_eq_getElem hlt] at ht
      rw [Option.some.inj ht]
    rw [et] at z2
    unfold forL at z2
    cases eg : g t ev2 with
    | none => rw [eg] at z2; exact z2.elim
    | some e3 =>
      rw [eg] at z2
      refine ⟨ev2, pn ++ ps, t, r2.up s3, pt, e3, eg, fun σ4 _ r4 => ⟨e3, pn ++ ps, r4, ?_⟩⟩
      cases e5 : d1 e3 with
      | nx e6 => simp only [e5] at z2; exact fun σ' H' r' => ⟨e6, r', z2⟩
      | ct e6 => simp only [e5] at z2; exact fun σ' H' r' => ⟨e6, r', z2⟩
      | bk e6 => simp only [e5] at z2; exact fun σ' H' r' => z2 σ' H' (un r')
      | rt t => simp only [e5] at z2; exact z2
      | ex c fs e6 => simp only [e5] at z2; exact fun cls dd σ' H' r' x => z2 cls dd σ' H' (un r') x
      | bad => simp only [e5] at z2; exact z2.elim
  · have ei : i = ts.length := by omega
    subst ei
    rw [List.drop_length] at z2
    exact .inl ⟨it.stop _ H2 _ pins (Nat.le_refl _), z2 σ2 H2 (un r2)⟩
theorem s_while (cn : Cn X W k) (n : Nat) {ce : Expr} (hc : PT X ce (tB X.K S0 H0 W c)) (hb : PSs X body (tS m X.K S0 H0 W d1)) : PS X (.While ce body [] pos) (tS m X.K S0 H0 W (sWhile n c d1)) := ps_imp (ps_while cn.po hc hb) fun D σ H ⟨ev, ps, r, z⟩ => by
  refine ⟨fun i σ' H' => ∃ ev', Rp X.K S0 H0 ps σ' H' ev' ∧
    (whileL c d1 i ev').on (fun e => ∀ σ' H', Rp X.K S0 H0 ps σ' H' e → D.nx σ' H') (fun e => ∀ σ' H', Rp X.K S0 H0 ps σ' H' e → D.bk σ' H') (fun e => ∀ σ' H', Rp X.K S0 H0 ps σ' H' e → D.ct σ' H')
      (fun t => ∀ v H', Same H0 H' → Pm X.K m S0 H0 H' v t → D.rt v H') (fun c fs e => ∀ cls dd σ' H', Rp X.K S0 H0 ps σ' H' e → IsX X.K (Sx S0 σ' e) H' cls dd c fs → W cls dd σ' H'), ⟨n, ev, r, z⟩, ?_⟩
  rintro i σ2 H2 ⟨ev2, r2, z2⟩
  cases i with
  | zero => exact z2.elim
  | succ i =>
    unfold whileL at z2
    refine ⟨ev2, ps, r2, R.on_mono (R.fl_on z2) (fun b q H3 s3 => ?_) fun c fs q cls dd H' s x => q cls dd σ2 H' (r2.up s) x⟩
    cases b with
    | false => exact iteF (q σ2 H3 (r2.up s3))
    | true =>
      refine iteT ⟨fun σ' H' => ∃ ev', Rp X.K S0 H0 ps σ' H' ev' ∧ (whileL c d1 i ev').on _ _ _ _ _, fun σ' H' h => ⟨i, Nat.lt_succ_self _, h⟩, ev2, ps, r2.up s3, ?_⟩
      cases e5 : d1 ev2 with
      | nx e6 => simp only [e5, if_true] at q; exact fun σ' H' r' => ⟨e6, r', q⟩
      | ct e6 => simp only [e5, if_true] at q; exact fun σ' H' r' => ⟨e6, r', q⟩
      | bk e6 => simp only [e5, if_true] at q; exact q
      | rt t => simp only [e5, if_true] at q; exact q
      | ex c fs e6 => simp only [e5, if_true] at q; exact q
      | bad => simp only [e5, if_true] at q; exact q.elim
end

/-! ### comprehensions -/
def wipeL (vs : List Nat) (ev : Lo) : Lo := vs.foldr (fun v l => l.set v none) ev
def compL (g : T → Lo → Option Lo) (c : Lo → R Bool) (de : Lo → R T) (ev : Lo) : List T → R (List T)
  | [] => .ok []
  | t :: ts => match g t ev with
    | none => .bad
    | some e => match c e with
      | .ok true => (match de e with
        | .ok u => (match compL g c de ev ts with
          | .ok us => .ok (u :: us)
          | _ => .bad)
        | _ => .bad)
      | .ok false => compL g c de ev ts
      | _ => .bad
def dComp (vs : List Nat) (di : Lo → R (List T)) (g : T → Lo → Option Lo) (c : Lo → R Bool) (de : Lo → R T) : Lo → R T := fun ev => (di ev).bind fun ts => match compL g c de (wipeL vs ev) ts with
  | .ok us => if us.length ≤ sizeLine then .ok (.lst us) else .bad
  | _ => .bad
def dYes : Lo → R Bool := fun _ => .ok true
/-- nothing is raised in a comprehension -/
abbrev W0 : WX := fun _ _ _ _ => False
section
variable {K : PySem.W.Frag} {S0 : Addr → Prop} {H0 H : Hp} {ps : List (V × T)} {σ : L2.St} {ev : Lo} {vs : List Nat}
theorem wipeL_len (ev : Lo) : ∀ vs : List Nat, (wipeL vs ev).length = ev.length
  | [] => rfl
  | v :: vs => by show ((wipeL vs ev).set v none).length = _; rw [List.length_set, wipeL_len ev vs]
theorem wipeL_some {i : Nat} {x : T × Bool} : ∀ {vs : List Nat}, (wipeL vs ev)[i]? = some (some x) → ev[i]? = some (some x) ∧ i ∉ vs
  | [], h => ⟨h, by simp⟩
  | v :: vs, h => by
    have h : ((wipeL vs ev).set v none)[i]? = some (some x) := h
    rcases set_get h with ⟨_, e, _⟩ | ⟨n, g⟩
    · cases e
    · obtain ⟨h1, h2⟩ := wipeL_some g
      exact ⟨h1, by simp [n, h2]⟩
theorem wipe_out {i : Nat} : ∀ {vs : List Nat}, i ∉ vs → (wipe σ vs)[i]? = σ[i]?
  | [], _ => rfl
  | v :: vs, h => by
    unfold wipe
    have h2 : v ≠ i ∧ i ∉ vs := ⟨fun z => h (by simp [z]), fun z => h (by simp [z])⟩
    rw [List.getElem?_set_ne h2.1]
    exact wipe_out h2.2
theorem own_wipe {a : Addr} (h : Own (wipe σ vs) (wipeL vs ev) a) : Own σ ev a := by
  obtain ⟨i, t, h1, h2⟩ := h
  obtain ⟨g1, g2⟩ := wipeL_some h1
  rw [wipe_out g2] at h2
  exact ⟨i, t, g1, h2⟩
/-- what a block may not touch: what the def has, and the new list -/
def Sb (S0 : Addr → Prop) (σ : L2.St) (ev : Lo) (vs : List Nat) (D : Addr) (a : Addr) : Prop := S0 a ∨ a = D ∨ (Own σ ev a ∧ ¬ Own (wipe σ vs) (wipeL vs ev) a)
theorem sb_iff {D a : Addr} : Sx (Sb S0 σ ev vs D) (wipe σ vs) (wipeL vs ev) a ↔ Sx S0 σ ev a ∨ a = D := by
  constructor
  · rintro ((z | z | ⟨z, _⟩) | z)
    · exact .inl (.inl z)
    · exact .inr z
    · exact .inl (.inr z)
    · exact .inl (.inr (own_wipe z))
  · rintro ((z | z) | z)
    · exact .inl (.inl z)
    · by_cases y : Own (wipe σ vs) (wipeL vs ev) a
      · exact .inr y
      · exact .inl (.inr (.inr ⟨z, y⟩))
    · exact .inl (.inr (.inl z))
theorem Rp.block {D : Addr} {o : HO} (r : Rp K S0 H0 ps σ H ev) (hD : H D = none) : Rp K (Sb S0 σ ev vs D) H0 ps (wipe σ vs) (upd H D o) (wipeL vs ev) := by
  have mv : Mv (Sx S0 σ ev) (Sx (Sb S0 σ ev vs D) (wipe σ vs) (wipeL vs ev)) H (upd H D o) := fun a u e n => by
    have ne : a ≠ D := ne_of_none e hD
    exact ⟨by rw [upd_ne ne]; exact e, fun z => (sb_iff.mp z).elim n ne⟩
  have sm : Same H (upd H D o) := same_upd hD
  refine ⟨r.same.trans sm, fun a z => ?_, fun i t h => ?_, fun i t h => ?_, fun i j t u a h1 h2 h3 h4 => ?_, fun p hp => (r.pin p hp).mv mv, by rw [wipe_length, wipeL_len]; exact r.len⟩
  · rcases z with z | z | ⟨z, _⟩
    · exact (r.up sm).s0 a z
    · rw [z, upd_same]; exact fun y => nomatch y
    · exact (r.up sm).sx a (.inr z)
  · obtain ⟨g1, g2⟩ := wipeL_some h
    obtain ⟨v, h1, h2⟩ := r.frz i t g1
    exact ⟨v, by rw [wipe_out g2]; exact h1, h2.mv mv⟩
  · obtain ⟨g1, g2⟩ := wipeL_some h
    obtain ⟨a, h1, h2, h3, c⟩ := r.own i t g1
    obtain ⟨o', e⟩ := c.some
    have ne : a ≠ D := ne_of_none e hD
    have w : (wipe σ vs)[i]? = some (some (.ref a)) := by rw [wipe_out g2]; exact h1
    refine ⟨a, w, ?_, h3, c.mv mv (by rw [upd_ne ne])⟩
    rintro (z | z | ⟨_, z⟩)
    · exact h2 z
    · exact ne z
    · exact z ⟨i, t, h, w⟩
  · obtain ⟨g1, g2⟩ := wipeL_some h1
    obtain ⟨g3, g4⟩ := wipeL_some h2
    rw [wipe_out g2] at h3
    rw [wipe_out g4] at h4
    exact r.inj i j t u a g1 g3 h3 h4
/-- the new list grows within the block -/
theorem Rp.grow {D : Addr} {o : HO} (r : Rp K S0 H0 ps σ H ev) (hD : S0 D) (h0 : H0 D = none) : Rp K S0 H0 ps σ (upd H D o) ev := by
  have mv : Mv (Sx S0 σ ev) (Sx S0 σ ev) H (upd H D o) := fun a u e n => ⟨by rw [upd_ne (fun z => n (by rw [z]; exact .inl hD))]; exact e, n⟩
  refine ⟨fun a u e => ?_, fun a z => ?_, fun i t h => ?_, fun i t h => ?_, r.inj, fun p hp => (r.pin p hp).mv mv, r.len⟩
  · have ne : a ≠ D := fun z => by rw [z, h0] at e; cases e
    rw [upd_ne ne]; exact r.same a u e
  · by_cases e : a = D
    · rw [e, upd_same]; exact fun y => nomatch y
    · rw [upd_ne e]; exact r.s0 a z
  · obtain ⟨v, h1, h2⟩ := r.frz i t h
    exact ⟨v, h1, h2.mv mv⟩
  · obtain ⟨a, h1, h2, h3, c⟩ := r.own i t h
    exact ⟨a, h1, h2, h3, c.mv mv (by rw [upd_ne (fun z => h2 (by rw [z]; exact hD))])⟩
theorem wipe_get : ∀ {vs : List Nat} {i : Nat}, i ∈ vs → i < σ.length → (wipe σ vs)[i]? = some none
  | [], _, h, _ => by simp at h
  | v :: vs, i, h, hl => by
    unfold wipe
    by_cases e : v = i
    · subst e
      rw [List.getElem?_set_self (by rw [wipe_length]; exact hl)]
    · rw [List.getElem?_set_ne e]
      exact wipe_get ((List.mem_cons.mp h).resolve_left fun z => e z.symm) hl
theorem wipe_wipe (vs : List Nat) : wipe (wipe σ vs) vs = wipe σ vs := by
  apply List.ext_getElem?
  intro i
  by_cases h : i ∈ vs
  · by_cases hl : i < σ.length
    · rw [wipe_get h (by rw [wipe_length]; exact hl), wipe_get h hl]
    · rw [List.getElem?_eq_none (by rw [wipe_length, wipe_length]; omega), List.getElem?_eq_none (by rw [wipe_length]; omega)]
  · rw [wipe_out h]
end
section
variable {X : Cx} {e a b tg iter elt : Expr} {ifs : List Expr} {scope : Scope} {S0 : Addr → Prop} {H0 : Hp} {W : WX} {de : Lo → R T} {pos spos py : Pos} {m : Md} {k i : Nat} {y : Str} {d1 : Lo → Fl} {g : T → Lo → Option Lo} {di : Lo → R (List T)} {c : Lo → R Bool} {own : List (Str × Nat)}
theorem Cn.blk (cn : Cn X W k) {s : Shared} {H : Hp} {scope : Scope} {cenv : PySem.Env} {fp : List Addr} : Cn (X.blk s H scope cenv fp) W0 k := ⟨takes0, cn.room, cn.gu, cn.calm, cn.nd, PassesOwn.never⟩
/-- a test of a comprehension: yes -/
theorem ts_nil : PTs X [] (tB X.K S0 H0 W dYes) := ⟨fun pins s σ H Q I ⟨ev, ps, r, z⟩ => pts_nil.run pins s σ H Q I (z H (Same.refl _))⟩
theorem ts_one (h : PT X e (tB X.K S0 H0 W c)) : PTs X [e] (tB X.K S0 H0 W c) := pts_one h
/-- S0, H0 of a block hang on the entry's values: all of them -/
theorem imComp {vs : List Nat} {tt : TT} {te : TE} {gg : TG} {K : PySem.W.Frag} (hk : ∀ t ev e, g t ev = some e → ∀ i, i ∉ vs → e[i]? = ev[i]?) (hg : ∀ S v σ H Q, tTg vs K S H0 g v σ H Q → gg v σ H Q) (ht : ∀ S σ H Q, tB K S H0 W0 c σ H Q → tt σ H Q) (he : ∀ S σ H Q, tG .s K S H0 W0 de σ H Q → te σ H Q) :
    ∀ σ H Q, tG .f K S0 H0 W (dComp vs di g c de) σ H Q → tLc (tI .w K S0 H0 W di) gg tt te vs σ H Q := fun σ H Q ⟨ev, ps, r, z⟩ => by
  refine ⟨ev, ps, r, R.on_mono (R.on_bind z) (fun ts q J H1 pn s1 hp it D hD => ?_) fun _ _ q => q⟩
  cases ec : compL g c de (wipeL vs ev) ts with
  | bad => rw [ec] at q; exact q.elim
  | ex _ _ => rw [ec] at q; exact q.elim
  | ok us =>
    rw [ec] at q
    have q : (if us.length ≤ sizeLine then R.ok (T.lst us) else R.bad).on _ _ := q
    by_cases hz : us.length ≤ sizeLine
    · rw [if_pos hz] at q
      have q : ∀ v H', Same H H' → Pm K .f (Sx S0 σ ev) H H' v (.lst us) → Q v H' := q
      have r1 := r.up s1
      have pD : ∀ {H2 : Hp}, Same H1 H2 → ∀ p ∈ pn, Pm K .w (Sx (Sb S0 σ ev vs D) (wipe σ vs) (wipeL vs ev)) H2 H2 p.1 p.2 := fun {H2} s2 p hq => by
        rcases hp p hq with y | ⟨a, e, c⟩
        · exact .inl (y.mv fun a u e n => ⟨s2 a u e, fun z => (sb_iff.mp z).elim n (ne_of_none e hD)⟩)
        · obtain ⟨o, e2⟩ := c.some
          exact .inr ⟨a, e, c.mv (fun a u e n => ⟨s2 a u e, fun z => (sb_iff.mp z).elim n (ne_of_none e hD)⟩) (by rw [e2]; exact s2 _ _ e2)⟩
      refine ⟨fun i n H2 => n = ts.length - i ∧ i ≤ ts.length ∧ ∃ accV accT us2, compL g c de (wipeL vs ev) (ts.drop i) = .ok us2 ∧ accT ++ us2 = us ∧ H2 D = some (.lst accV) ∧ IsTs K (Sx (Sb S0 σ ev vs D) (wipe σ vs) (wipeL vs ev)) H2 accV accT ∧
        Rp K (Sb S0 σ ev vs D) H0 ps (wipe σ vs) H2 (wipeL vs ev) ∧ Same H1 H2, ⟨ts.length, by simp, Nat.zero_le _, [], [], us, by rw [List.drop_zero]; exact ec, rfl, upd_same, .nil, r1.block hD, same_upd hD⟩, ?_⟩
      rintro i n H2 ⟨rfl, hi, accV, accT, us2, e2, ea, hH, rs, r2, s2⟩
      by_cases hlt : i < ts.length
      · refine .inr ⟨it.go _ H2 i (pD s2) hlt, fun H3 => ∃ accV accT us2, compL g c de (wipeL vs ev) (ts.drop (i + 1)) = .ok us2 ∧ accT ++ us2 = us ∧ H3 D = some (.lst accV) ∧ IsTs K (Sx (Sb S0 σ ev vs D) (wipe σ vs) (wipeL vs ev)) H3 accV accT ∧
          Rp K (Sb S0 σ ev vs D) H0 ps (wipe σ vs) H3 (wipeL vs ev) ∧ Same H1 H3, fun H3 h => ⟨ts.length - (i + 1), by omega, rfl, hlt, h⟩, fun x H3 y => ?_⟩
        obtain ⟨t, ht2, s3, pt⟩ := it.yld _ H2 i x H3 (pD s2) r2.sx hlt y
        have et : ts.drop i = t :: ts.drop (i + 1) := by
          rw [List.drop_eq_getElem_cons hlt]
          rw [List.getElem?_eq_getElem hlt] at ht2
          rw [Option.some.inj ht2]
        rw [et] at e2
        unfold compL at e2
        cases eg : g t (wipeL vs ev) with
        | none => simp only [eg] at e2; cases e2
        | some e3 =>
          simp only [eg] at e2
          refine hg (Sb S0 σ ev vs D) x _ H3 _ ⟨wipeL vs ev, ps, t, r2.up s3, pt, e3, eg, fun σ4 hw r4 => ⟨hw.trans (wipe_wipe vs), ht _ σ4 H3 _ ⟨e3, ps, r4, ?_⟩⟩⟩
          cases e5 : c e3 with
          | bad => simp only [e5] at e2; cases e2
          | ex _ _ => simp only [e5] at e2; cases e2
          | ok bo =>
            intro H4 s4
            have r24 := r2.up (s3.trans s4)
            cases bo with
            | false =>
              simp only [e5] at e2
              exact iteF ⟨accV, accT, us2, e2, ea, (s3.trans s4) _ _ hH, rs.mv (mv_same (s3.trans s4)), r24, (s2.trans s3).trans s4⟩
            | true =>
              simp only [e5] at e2
              refine iteT (he (Sb S0 σ ev vs D) σ4 H4 _ ⟨e3, ps, r4.up s4, ?_⟩)
              cases e6 : de e3 with
              | bad => simp only [e6] at e2; cases e2
              | ex _ _ => simp only [e6] at e2; cases e2
              | ok u =>
                intro v H5 s5 p5
                simp only [e6] at e2
                cases e7 : compL g c de (wipeL vs ev) (ts.drop (i + 1)) with
                | bad => simp only [e7] at e2; cases e2
                | ex _ _ => simp only [e7] at e2; cases e2
                | ok us3 =>
                  simp only [e7] at e2
                  cases e2
                  have s25 := (s3.trans s4).trans s5
                  have hD5 : H5 D = some (.lst accV) := s25 _ _ hH
                  have lacc : accV.length < sizeLine := by
                    rw [rs.len]
                    have : us.length = accT.length + (us3.length + 1) := by rw [← ea]; simp
                    omega
                  have h0D : H0 D = none := by
                    cases q0 : H0 D with
                    | none => rfl
                    | some o => have := r1.same D o q0; rw [hD] at this; cases this
                  have r5 := r2.up s25
                  have gr := r5.grow (o := .lst (accV ++ [v])) (.inr (.inl rfl)) h0D
                  have mv5 : Mv (Sx (Sb S0 σ ev vs D) (wipe σ vs) (wipeL vs ev)) (Sx (Sb S0 σ ev vs D) (wipe σ vs) (wipeL vs ev)) H5 (upd H5 D (.lst (accV ++ [v]))) := fun a w e n =>
                    ⟨by rw [upd_ne (fun z => n (sb_iff.mpr (.inr z)))]; exact e, n⟩
                  -- the element: the same tree with the names forgotten
                  have pv : IsT K (Sx (Sb S0 σ ev vs D) (wipe σ vs) (wipeL vs ev)) H5 v u := by
                    refine IsT.mv (fun a w e n => ⟨e, fun z => n ?_⟩) p5
                    rcases z with z | ⟨j, t2, g1, g2⟩
                    · exact .inl z
                    · obtain ⟨f1, f2⟩ := wipeL_some g1
                      refine .inr ⟨j, t2, by rw [hk t _ e3 eg j f2]; exact g1, ?_⟩
                      have w1 : (wipe σ4 vs)[j]? = σ4[j]? := wipe_out f2
                      rw [← w1, hw, wipe_out f2]
                      exact g2
                  refine ⟨accV, hD5, lacc, accV ++ [v], accT ++ [u], us3, rfl, by rw [← ea]; simp, upd_same, (rs.mv (fun a w e n => ?_)).app (.cons (pv.mv mv5) .nil), gr, ?_⟩
                  · exact mv5 a w (s25 a w e) n
                  · exact fun a w e => by
                      rw [upd_ne (ne_of_none e hD)]
                      exact s25 a w (s2 a w e)
      · have ei : i = ts.length := by omega
        subst ei
        rw [List.drop_length] at e2
        cases e2
        rw [List.append_nil] at ea
        subst ea
        refine .inl ⟨it.stop _ H2 _ (pD s2) (Nat.le_refl _), q _ H2 (s1.trans s2) (.inr ⟨D, rfl, s1.free hD, .lst hH (rs.mv (mv_less fun a z => ?_))⟩)⟩
        exact sb_iff.mpr z
    · rw [if_neg hz] at q; exact q.elim
theorem gk_nm {i : Nat} {vs : List Nat} (hv : i ∈ vs) : ∀ t ev e, gNm i t ev = some e → ∀ j, j ∉ vs → e[j]? = ev[j]? := fun t ev e h j hj => by
  cases h
  rw [List.getElem?_set_ne (fun z => hj (by rw [← z]; exact hv))]
theorem gk_nil {vs : List Nat} : ∀ t ev e, gNil t ev = some e → ∀ j, j ∉ vs → e[j]? = ev[j]? := fun t ev e h j hj => by
  unfold gNil at h
  split at h
  · cases h; rfl
  · cases h
theorem gk_cons {vs : List Nat} {gs : List T → Lo → Option Lo} (h1 : ∀ t ev e, g t ev = some e → ∀ j, j ∉ vs → e[j]? = ev[j]?) (h2 : ∀ t ev e, gs t ev = some e → ∀ j, j ∉ vs → e[j]? = ev[j]?) : ∀ t ev e, gCons g gs t ev = some e → ∀ j, j ∉ vs → e[j]? = ev[j]? := fun t ev e h j hj => by
  unfold gCons at h
  split at h
  · obtain ⟨e1, a, b⟩ := Option.bind_eq_some_iff.mp h
    exact (h2 _ _ _ b j hj).trans (h1 _ _ _ a j hj)
  · cases h
theorem gk_tp {vs : List Nat} {n : Nat} {gs : List T → Lo → Option Lo} (h1 : ∀ t ev e, gs t ev = some e → ∀ j, j ∉ vs → e[j]? = ev[j]?) : ∀ t ev e, gTp n gs t ev = some e → ∀ j, j ∉ vs → e[j]? = ev[j]? := fun t ev e h j hj => by
  unfold gTp at h
  split at h
  · split at h
    · exact h1 _ _ _ h j hj
    · cases h
  · split at h
    · exact h1 _ _ _ h j hj
    · cases h
  · cases h
theorem e_comp (cn : Cn X W k) (hi : PI X tg iter (tI .w X.K S0 H0 W di)) (hb : blkC X.N X.env.scope scope own = true)
    (hg : ∀ S (s : Shared) (H : Hp) (C : Addr) (cl : List (Str × Addr)) (fp : List Addr), (X.blk s H scope (compEnvC scope cl C X.env) fp).N.Nodup → (X.blk s H scope (compEnvC scope cl C X.env) fp).calm = true → PG (X.blk s H scope (compEnvC scope cl C X.env) fp) tg (tTg (own.map (·.2)) X.K S H0 g))
    (hk : ∀ t ev e, g t ev = some e → ∀ i, i ∉ own.map (·.2) → e[i]? = ev[i]?)
    (ht : ∀ S (s : Shared) (H : Hp) (C : Addr) (cl : List (Str × Addr)) (fp : List Addr), Cn (X.blk s H scope (compEnvC scope cl C X.env) fp) W0 k → PTs (X.blk s H scope (compEnvC scope cl C X.env) fp) ifs (tB X.K S H0 W0 c))
    (he : ∀ S (s : Shared) (H : Hp) (C : Addr) (cl : List (Str × Addr)) (fp : List Addr), Cn (X.blk s H scope (compEnvC scope cl C X.env) fp) W0 k → PE (X.blk s H scope (compEnvC scope cl C X.env) fp) elt (tG .s X.K S H0 W0 de))
    (hs : ∀ x, foldedSetIterable iter X.env x = pure x := by intro _; rfl) : PE X (.ListComp elt [⟨tg, iter, ifs, 0⟩] scope pos) (tG .f X.K S0 H0 W (dComp (own.map (·.2)) di g c de)) :=
  pe_imp (pe_lc (g := fun v σ H Q => ∃ S, tTg (own.map (·.2)) X.K S H0 g v σ H Q) (tt := fun σ H Q => ∃ S, tB X.K S H0 W0 c σ H Q) (te := fun σ H Q => ∃ S, tG .s X.K S H0 W0 de σ H Q) cn.calm cn.nd hi (blkOk_by hb)
    (fun s H C cl fp => ⟨fun pins s1 σ1 H1 v u Q I r ⟨S, z⟩ => (hg S s H C cl fp cn.blk.nd cn.blk.calm).run pins s1 σ1 H1 v u Q I r z⟩) (fun s H C cl fp => ⟨fun pins s1 σ1 H1 Q I ⟨S, z⟩ => (ht S s H C cl fp cn.blk).run pins s1 σ1 H1 Q I z⟩)
    (fun s H C cl fp => ⟨fun pins s1 σ1 H1 Q I ⟨S, z⟩ => (he S s H C cl fp cn.blk).run pins s1 σ1 H1 Q I z⟩) hs) (imComp hk (fun S v σ H Q z => ⟨S, z⟩) (fun S σ H Q z => ⟨S, z⟩) fun S σ H Q z => ⟨S, z⟩)
/-- name = [..] on one line -/
theorem s_setC (cn : Cn X W k) (i : Nat) (hi : PI X tg iter (tI .w X.K S0 H0 W di)) (hb : blkC X.N X.env.scope scope own = true)
    (hg : ∀ S (s : Shared) (H : Hp) (C : Addr) (cl : List (Str × Addr)) (fp : List Addr), (X.blk s H scope (compEnvC scope cl C X.env) fp).N.Nodup → (X.blk s H scope (compEnvC scope cl C X.env) fp).calm = true → PG (X.blk s H scope (compEnvC scope cl C X.env) fp) tg (tTg (own.map (·.2)) X.K S H0 g))
    (hk : ∀ t ev e, g t ev = some e → ∀ i, i ∉ own.map (·.2) → e[i]? = ev[i]?)
    (ht : ∀ S (s : Shared) (H : Hp) (C : Addr) (cl : List (Str × Addr)) (fp : List Addr), Cn (X.blk s H scope (compEnvC scope cl C X.env) fp) W0 k → PTs (X.blk s H scope (compEnvC scope cl C X.env) fp) ifs (tB X.K S H0 W0 c))
    (he : ∀ S (s : Shared) (H : Hp) (C : Addr) (cl : List (Str × Addr)) (fp : List Addr), Cn (X.blk s H scope (compEnvC scope cl C X.env) fp) W0 k → PE (X.blk s H scope (compEnvC scope cl C X.env) fp) elt (tG .s X.K S H0 W0 de))
    (hy : X.N[i]? = some y := by rfl) (hyl : X.env.scope.names.lookup y = some .local := by rfl) (hsw : swapsWith (.ListComp elt [⟨tg, iter, ifs, 0⟩] scope pos) (some (.Name y py)) spos.line X.env = pure true := by exact sw_true rfl rfl rfl (by decide +kernel))
    (hs : ∀ x, foldedSetIterable iter X.env x = pure x := by intro _; rfl) : PS X (.Assign [.Name y py] (.ListComp elt [⟨tg, iter, ifs, 0⟩] scope pos) spos) (tS m X.K S0 H0 W (sSetF i (dComp (own.map (·.2)) di g c de))) :=
  ps_imp (ps_setLc (i := i) (g := fun v σ H Q => ∃ S, tTg (own.map (·.2)) X.K S H0 g v σ H Q) (tt := fun σ H Q => ∃ S, tB X.K S H0 W0 c σ H Q) (te := fun σ H Q => ∃ S, tG .s X.K S H0 W0 de σ H Q) cn.calm cn.nd hy hyl hsw hi (blkOk_by hb)
    (fun s H C cl fp => ⟨fun pins s1 σ1 H1 v u Q I r ⟨S, z⟩ => (hg S s H C cl fp cn.blk.nd cn.blk.calm).run pins s1 σ1 H1 v u Q I r z⟩) (fun s H C cl fp => ⟨fun pins s1 σ1 H1 Q I ⟨S, z⟩ => (ht S s H C cl fp cn.blk).run pins s1 σ1 H1 Q I z⟩)
    (fun s H C cl fp => ⟨fun pins s1 σ1 H1 Q I ⟨S, z⟩ => (he S s H C cl fp cn.blk).run pins s1 σ1 H1 Q I z⟩) hs) fun D σ H z => imComp hk (fun S v σ H Q z => ⟨S, z⟩) (fun S σ H Q z => ⟨S, z⟩) (fun S σ H Q z => ⟨S, z⟩) σ H _ (by
      have q := imSetF (X := X) (m := m) (S0 := S0) (H0 := H0) (W := W) (i := i) D σ H z
      exact q)
end

/-! ### a def is entered -/
section
variable {P : Program} {w : World} {K : PySem.W.Frag} {mg : Str → Option Value} {base : Heap} {k : Nat} {f : Addr} {x qual : Str} {params : Arguments} {body : List Stmt} {scope : Scope} {N prs : List Str} {m : Md} {d : Lo → Fl}
theorem start_get {n i : Nat} {ts : List T} {t : T} {o : Bool} (h : (start' n ts)[i]? = some (some (t, o))) : o = false ∧ ts[i]? = some t := by
  unfold start' at h
  by_cases hi : i < ts.length
  · rw [List.getElem?_append_left (by simpa using hi), List.getElem?_map] at h
    cases e : ts[i]? with
    | none => rw [e] at h; cases h
    | some a => rw [e] at h; cases h; exact ⟨rfl, rfl⟩
  · rw [List.getElem?_append_right (by simpa using hi), List.getElem?_replicate] at h
    split at h <;> cases h
theorem rp_start {H : Hp} {S : Addr → Prop} {vs : List V} {ts : List T} (hs : ∀ a, S a → H a ≠ none) (r : IsTs K S H vs ts) (hl : vs.length ≤ N.length) : Rp K S H [] (start N vs) H (start' N.length ts) := by
  have no : ∀ a, ¬ Own (start N vs) (start' N.length ts) a := fun a ⟨i, t, h1, _⟩ => by
    have := (start_get h1).1
    cases this
  refine ⟨Same.refl _, hs, fun i t h => ?_, fun i t h => ?_, fun i j t u a h _ _ _ => ?_, (fun p hp => by cases hp), ?_⟩
  · obtain ⟨v, h1, h2⟩ := r.get (start_get h).2
    refine ⟨v, ?_, h2.mv (mv_less fun a z => z.elim id fun y => (no a y).elim)⟩
    unfold L2.start
    have hi : i < vs.length := (List.getElem?_eq_some_iff.mp h1).1
    rw [List.getElem?_append_left (by simpa using hi), List.getElem?_map, h1]; rfl
  · have := (start_get h).1
    cases this
  · have := (start_get h).1
    cases this
  · unfold L2.start start'
    have := r.len
    simp
    omega
/-- THE RULE: a def by its body's function -/
theorem fn_G {fd : FuncData} {dvs : List V} {kws : List (Str × V)} (F : FunD K x qual params body scope dvs kws f fd) (Sc : FnScope N prs scope) (hm : m ≠ .w)
    (hb : ∀ (cdv : Value) (A : Around) (outer : List PySem.Env) (s : Shared) (H : Hp) (E : XK) (S0 : Addr → Prop), Cn (cxOf (L2.CX P w) P w K mg base N qual scope f cdv A outer s H E) (fun cls dd _ H' => E cls dd H') k →
      PSs (cxOf (L2.CX P w) P w K mg base N qual scope f cdv A outer s H E) body (tS m K S0 H (fun cls dd _ H' => E cls dd H') d)) :
    FnG P w K mg base (k + 1) f fd prs (spD K prs.length m (dFn N.length d)) := by
  obtain ⟨c0, d0, dv0, kv0, doc0, pm0, an0, cd0, ct0, sl0, rfl, look, code, _, _⟩ := F.ex
  refine ⟨fun vs H Q E ⟨_, _, h1, _⟩ => h1, fun A outer s H args us vs Q E room gu env0 bind rv h => ?_⟩
  obtain ⟨ts, S, hl, hs, rs, z⟩ := h
  have inK : K.In s.heap := env0.mod.kin.keeps fun b o q => (env0.bs b o q).1
  have noL : s.heap.NoLimit := env0.mod.nolimit.keeps fun b o q => (env0.bs b o q).1
  have kinds : ∀ y ∈ prs.zip us, scope.names.lookup y.1 = some .local ∨ (scope.names.lookup y.1 = some .cell ∧ ((cellsFrom (s.heap.objs.size + 1) scope.names []).lookup y.1).isSome = true) := fun y hy => by
    obtain ⟨y1, y2⟩ := y
    rcases Sc.par y1 (List.of_mem_zip hy).1 with q | q
    · exact .inl q
    · exact .inr ⟨q, PySem.W.cellsFrom_some _ _ _ (.inl q)⟩
  have hN : vs.length ≤ N.length := by
    have := congrArg List.length Sc.pre
    rw [List.length_take] at this
    omega
  refine codeAny_call_function room.depth (inK _ _ look) rfl Sc.co Sc.gen rfl (PySem.W.codeRec_of inK code) (bind _ _ _ _ ?_)
  refine wpAny_newFunctionEnv_cells Sc.kind kinds fun env he s1 ic => ?_
  subst he
  refine ⟨noL.keeps ic.toInCall.keep, codeAny_func ?_⟩
  have cn : Cn (cxOf (L2.CX P w) P w K mg base N qual scope f cd0 A outer s H E) (fun cls dd _ H' => E cls dd H') k :=
    ⟨takes_of rfl rfl rfl rfl, room.deeper _, gu, rfl, Sc.nd, passes_of rfl⟩
  have I : Inv (cxOf (L2.CX P w) P w K mg base N qual scope f cd0 A outer s H E) [] (start N vs) H s1 := inv_start Sc room.hd env0 hl rv ic
  have ce : ∀ {s' : Shared} {σ' : L2.St} {H' : Hp} {v : V} {u : Value}, Inv (cxOf (L2.CX P w) P w K mg base N qual scope f cd0 A outer s H E) [] σ' H' s' → RelV v u → Q v H' → CE outer P w H s Q u s' :=
    fun J q1 q2 => ⟨_, _, J.os, J.bare, J.base, J.hok, q1, q2⟩
  refine wpAny_mono ((hb cd0 A outer s H E S cn).run [] s1 (start N vs) H { nx := fun _ H' => Q .non H', rt := Q } I ⟨_, [], rp_start hs rs hN, ?_⟩) (fun fl s' q => ?_) fun _ _ q => q
  · have z : (fin (d (start' N.length ts))).on _ _ := z
    cases e : d (start' N.length ts) with
    | nx ev => rw [e] at z; exact fun σ' H' r => z _ _ r.same (by
        cases m with
        | w => exact absurd rfl hm
        | s => exact IsT.non
        | f => exact one_non)
    | bk ev => rw [e] at z; exact z.elim
    | ct ev => rw [e] at z; exact z.elim
    | rt t => rw [e] at z; exact z
    | ex c fs ev =>
      rw [e] at z
      intro cls dd σ' H' r x
      refine z cls dd H' r.same ?_
      obtain ⟨x1, x2 | ⟨d, xs, y1, y2, y3, y4⟩⟩ := x
      · exact ⟨x1, .inl x2⟩
      · exact ⟨x1, .inr ⟨d, xs, y1, fun q => y2 (.inl q), y3, y4.mv (mv_less fun a q => .inl q)⟩⟩
    | bad => rw [e] at z; exact z.elim
  · match fl, q with
    | .ret u, ⟨_, _, _, J, q1, q2⟩ => exact ce J q1 q2
    | .next, ⟨_, _, J, q2⟩ => exact ce (v := V.non) (u := Value.none) J rfl q2
    | .brk, ⟨_, _, _, q2⟩ => exact q2.elim
    | .cont, ⟨_, _, _, q2⟩ => exact q2.elim
end
end DL

set_option maxHeartbeats 1000000
namespace DL
open PySem PySem.Spec PyProof.Rows L2

/-! ### a law's end -/
section
variable {P : Program} {w : World} {K : PySem.W.Frag} {mg mb : Str → Option Value} {k : Nat} {fa a : Addr} {fd : FuncData} {x : Str} {m : Md} {dl : List T → R T} {s1 : Shared} {vs : List Value} {ns : List Int}
theorem lawG (inK : K.In s1.heap) (gl : s1.heap.Ns mainGlobals mg) (bl : s1.heap.Ns builtinsNs mb) (bb : ∀ x : Str, x ≠ "__name__" → mb x = bootBuiltins x) (noL : s1.heap.NoLimit) (ge : s1.gens = #[])
    (at_ : s1.heap.get? a = some { cls := .type "list", data := .seq vs.toArray }) (are : IntsAre vs ns) (sz : ns.length ≤ sizeLine) (room : Room k callerA)
    (F : ∀ base : Heap, K.In base → base.Ns mainGlobals mg → FnG P w K mg base k fa fd [x] (spD K 1 m dl)) (bi : ∀ (s : Shared) (u : Value), BindsTo s fd ⟨[u], []⟩ [(x, u)]) (true_ : dl [.scr ns] = .ok (.bl true)) :
    codeAny (model P w) callerA (.call (.ref fa) ⟨[.ref a], []⟩) (fun r s' => r = .ok (.ret (.bool true)) ∧ OldK s1.heap s'.heap ∧ s'.os = s1.os ∧ AllBare s'.gens) s1 := by
  have rv := vals_ints are
  have lv := are.length
  -- the abstract heap: the script alone, where it isn't the module's own
  obtain ⟨H, h1, h2, h3, h4⟩ : ∃ H : Hp, (∀ b o, H b = some o → b = a ∧ K.lookup a = none ∧ o = .frz { cls := .type "list", data := .seq vs.toArray } (.lst (ns.map V.int))) ∧ NdL K (fun _ => False) H a (ns.map V.int) ∧ HOk P w H s1.heap ∧ (∀ b, H b = none ∨ b = a) := by
    rcases Option.eq_none_or_eq_some (K.lookup a) with e | ⟨o, e⟩
    · refine ⟨fun b => if b = a then some (.frz { cls := .type "list", data := .seq vs.toArray } (.lst (ns.map V.int))) else none, fun b o z => ?_, .inl ⟨id, .inr ⟨_, if_pos rfl⟩⟩, fun b o z => ?_, fun b => ?_⟩
      · have z : (if b = a then some (HO.frz { cls := .type "list", data := .seq vs.toArray } (.lst (ns.map V.int))) else none) = some o := z
        by_cases hb : b = a
        · rw [if_pos hb] at z; cases z; exact ⟨hb, e, rfl⟩
        · rw [if_neg hb] at z; cases z
      · have z : (if b = a then some (HO.frz { cls := .type "list", data := .seq vs.toArray } (.lst (ns.map V.int))) else none) = some o := z
        by_cases hb : b = a
        · subst hb; rw [if_pos rfl] at z; cases z
          exact ⟨at_, by rw [List.length_map]; exact sz, vs, _, rv, at_⟩
        · rw [if_neg hb] at z; cases z
      · by_cases hb : b = a
        · exact .inr hb
        · exact .inl (if_neg hb)
    · have q := inK a o e
      rw [at_] at q
      cases q
      refine ⟨fun _ => none, fun b o z => ?_, .inr ⟨_, vs.toArray, _, e, rfl, rfl, rfl, by rw [List.size_toArray, lv]; exact sz, by simpa using rv⟩, fun b o z => ?_, fun _ => .inl rfl⟩
      · cases z
      · cases z
  have free : ∀ {b : Addr} {o : Obj}, K.lookup b = some o → H b = none := fun {b o} e => by
    cases q : H b with
    | none => rfl
    | some u => obtain ⟨z1, z2, _⟩ := h1 b u q; rw [z1, z2] at e; cases e
  have dic : ∀ {b : Addr} {o : Obj} {es : Array DictEntry} {ep : Nat}, s1.heap.get? b = some o → o.data = .dict es ep → H b = none := fun {b o es ep} e q => by
    rcases h4 b with z | z
    · exact z
    · subst z; rw [at_] at e; cases e; cases q
  have nsG : ∀ {b : Addr} {mm : Str → Option Value}, s1.heap.Ns b mm → (hidT s1.heap H).Ns b mm := fun ⟨o, es, ep, e, q, z⟩ => ⟨o, es, ep, hidT_get e (dic e q), q, z⟩
  have inB : K.In (hidT s1.heap H) := fun b o e => hidT_get (inK b o e) (free e)
  have M : Mod K mg (hidT s1.heap H) := ⟨inB, nsG gl, ⟨mb, nsG bl, bb⟩, by obtain ⟨mc, q1, q2⟩ := noL; exact ⟨mc, nsG q1, q2⟩⟩
  have e0 : Env0 P w K mg (hidT s1.heap H) callerA [] s1 H := ⟨rfl, M, fun b o q => of_hidT q, Nat.le_of_eq (hidT_size _ _), True.intro, fun b q => (List.not_mem_nil q).elim, h3, .of_eq ge⟩
  refine codeAny_mono ((F _ inB (nsG gl)).go callerA [] s1 H ⟨[.ref a], []⟩ [.ref a] [.ref a] (fun v _ => v = .bl true) (fun _ _ _ => False) room rfl e0 (bi s1 (.ref a)) (.cons rfl .nil)
    ⟨[.scr ns], fun _ => False, rfl, fun b z => z.elim, .cons (.scr h2) .nil, by rw [true_]; exact fun v H' _ p => p.bl⟩) fun r s' q => ?_
  match r, q with
  | .error e, ⟨_, _, _, _, _, _, _, _, _, _, _, _, z⟩ => exact z.elim
  | .ok (.ret u), ⟨v, H', os, bare, un, ok', r', q⟩ =>
    have q : v = .bl true := q
    subst q
    have e2 : u = Value.bool true := r'
    subst e2
    refine ⟨rfl, OldK.of_keep fun b o e => ?_, os, bare⟩
    cases qb : H b with
    | none => exact un.keep b o e qb (fun z => (List.not_mem_nil z).elim) (List.not_mem_nil)
    | some u =>
      obtain ⟨z1, _, z3⟩ := h1 b u qb
      subst z3
      have y := un.frzs b _ _ qb
      obtain ⟨e1, _⟩ := h3 b _ qb
      obtain ⟨e3, _⟩ := ok' b _ y
      rw [e] at e1
      cases e1
      exact e3
end
theorem walk_G {l : PySem.W.OpenLaw} {n k : Nat} {q : Program} {loose : List Str} {XP : (Str → Option Value) → Heap → Prop} {YP : World → Heap → Prop} {d : DefRec} {x : Str} (hn : l.most = some n) (hn2 : n ≤ sizeLine) (hdf : d.params.defaults = []) (hr : Room k callerA)
    (F : ∀ (w : World) (mg : Str → Option Value) (fa : Addr) (h : Heap), YP w h → h.Ns mainGlobals mg → mg d.name = some (.ref fa) →
      ∃ (K : PySem.W.Frag) (fd : FuncData) (m : Md) (dl : List T → R T), K.In h ∧ (∀ (s : Shared) (u : Value), BindsTo s fd ⟨[u], []⟩ [(x, u)]) ∧ (∀ ns : List Int, ns.length ≤ n → dl [.scr ns] = .ok (.bl true)) ∧
        ∀ base : Heap, K.In base → base.Ns mainGlobals mg → FnG l.prog w K mg base k fa fd [x] (spD K 1 m dl)) :
    PySem.W.WalkO q loose XP YP l.row.toRowW d [] (fun f vs => PySem.call f vs) := by
  refine Att.attach_call hn hdf fun w s0 s1 mg mb fa o pm cd doc a vs ns G Y ho hd hcd hmg hobj hints hlen hg => ?_
  obtain ⟨K, fd, m, dl, inK, bi, tr, FF⟩ := F w mg fa _ Y G.T.g hmg
  exact lawG inK G.T.g G.T.b G.T.builtins G.T.nolimit hg hobj hints (Nat.le_trans hlen hn2) hr FF bi (tr ns hlen)
end DL

set_option maxHeartbeats 1000000
namespace DL
open PySem PySem.Spec PyProof.Rows L2

/-- the built-in words that are not bound by the module -/
structure Bi (mg : Str → Option Value) : Prop where
  len : mg "len" = none
  isinstance : mg "isinstance" = none
  range : mg "range" = none
  zip : mg "zip" = none
  enumerate : mg "enumerate" = none
  int_ : mg "int" = none
  bool_ : mg "bool" = none
  str_ : mg "str" = none
  list_ : mg "list" = none
  tuple_ : mg "tuple" = none
  dict_ : mg "dict" = none
  max_ : mg "max" = none
  min_ : mg "min" = none
  all_ : mg "all" = none
  any_ : mg "any" = none
  sum_ : mg "sum" = none
  abs_ : mg "abs" = none
  repr_ : mg "repr" = none
  sorted_ : mg "sorted" = none
  set_ : mg "set" = none

section
variable {P : Program} {w : World} {K : PySem.W.Frag} {mg : Str → Option Value} {base : Heap} {k : Nat} {x qual : Str} {params : Arguments} {body : List Stmt} {scope : Scope} {N prs : List Str} {m : Md} {d : Lo → Fl}
/-- a def of the module, no defaults: by its body's function -/
theorem gf_of (F : ∃ fd, FunD K x qual params body scope [] [] (He.ga K x) fd) (hx : mg x = some (.ref (He.ga K x))) (Sc : FnScope N prs scope) (hm : m ≠ .w)
    (hbi : ∀ (kV doc pm : Value) (an : Option Addr) (cdv ct : Value) (us : List Value), us.length = prs.length → bindArgs (PySem.W.fnOf x qual params body scope .none kV doc pm an cdv ct) ⟨us, []⟩ = pure (prs.zip us))
    (hb : ∀ (cdv : Value) (A : Around) (outer : List PySem.Env) (s : Shared) (H : Hp) (E : XK) (S0 : Addr → Prop), Cn (cxOf (L2.CX P w) P w K mg base N qual scope (He.ga K x) cdv A outer s H E) (fun cls dd _ H' => E cls dd H') k →
      PSs (cxOf (L2.CX P w) P w K mg base N qual scope (He.ga K x) cdv A outer s H E) body (tS m K S0 H (fun cls dd _ H' => E cls dd H') d)) :
    GF P w K mg base (k + 1) x prs.length m (dFn N.length d) := by
  obtain ⟨fd, F⟩ := F
  exact ⟨_, fd, prs, rfl, hx, F.kp, F.bindsN hbi, fn_G F Sc hm hb⟩
end

section
variable {X : Cx} {e a b : Expr} {S S0 : Addr → Prop} {H0 : Hp} {W : WX} {d da db : Lo → R T} {c : Lo → R Bool} {pos : Pos} {m ma mb : Md} {k : Nat}
theorem e_one {op : BoolOp} (h : PE X a (tG m X.K S0 H0 W d)) : PE X (.BoolOp op [a] pos) (tG m X.K S0 H0 W d) := pe_one h
/-- {} -/
theorem e_dict0 : PE X (.Dict [] [] pos) (tG .f X.K S0 H0 W (dC (.dic []))) := pe_imp pe_dnewK fun σ H Q ⟨ev, ps, r, z⟩ p hp =>
  z _ _ (same_upd hp) (.inr ⟨p, rfl, hp, .dic upd_same .nil⟩)
end
end DL

set_option maxHeartbeats 1000000
/-! defs that call themselves -/
namespace DL
open PySem PySem.Spec PyProof.Rows L2
section
variable {P : Program} {w : World} {K : PySem.W.Frag} {mg : Str → Option Value} {base : Heap} {k : Nat} {x qual : Str} {params : Arguments} {body : List Stmt} {scope : Scope} {prs : List Str} {m : Md}
theorem gf_bad (F : ∃ fd, FunD K x qual params body scope [] [] (He.ga K x) fd) (hx : mg x = some (.ref (He.ga K x)))
    (hbi : ∀ (kV doc pm : Value) (an : Option Addr) (cdv ct : Value) (us : List Value), us.length = prs.length → bindArgs (PySem.W.fnOf x qual params body scope .none kV doc pm an cdv ct) ⟨us, []⟩ = pure (prs.zip us)) :
    GF P w K mg base k x prs.length m (fun _ => .bad) := by
  obtain ⟨fd, F⟩ := F
  exact ⟨_, fd, prs, rfl, hx, F.kp, F.bindsN hbi, ⟨fun vs H Q E ⟨ts, S, h, _⟩ => h, fun A outer s H args us vs Q E _ _ _ _ _ ⟨ts, S, _, _, _, z⟩ => z.elim⟩⟩
end
end DL

set_option maxHeartbeats 1000000
/-! more rules: what is not reached, names forgotten, in, slices backwards, repr -/
namespace DL
open PySem PySem.Spec PyProof.Rows L2

def fuel : Nat := 100000
def dBad : Lo → R T := fun _ => .bad
def dBadB : Lo → R Bool := fun _ => .bad
def sBad : Lo → Fl := fun _ => .bad
def sWp (w : List Nat) (d : Lo → Fl) : Lo → Fl := fun ev => d (wipeL w ev)
def Fl.wp (w : List Nat) : Fl → Fl
  | .nx ev => .nx (wipeL w ev)
  | .bk ev => .bk (wipeL w ev)
  | .ct ev => .ct (wipeL w ev)
  | r => r
def sWe (w : List Nat) (d : Lo → Fl) : Lo → Fl := fun ev => (d ev).wp w
def dFl (d : Lo → R T) : Lo → R T := fun ev => (d ev).bind fun t => if isMut t = true then .bad else .ok t

section
variable {X : Cx} {e a b : Expr} {stm : Stmt} {rest : List Stmt} {S S0 : Addr → Prop} {H0 : Hp} {W : WX} {d da db : Lo → R T} {c : Lo → R Bool} {d1 : Lo → Fl} {pos : Pos} {m ma mb : Md} {k : Nat}
theorem e_bad : PE X e (tG m X.K S0 H0 W dBad) := ⟨fun pins s σ H Q I ⟨ev, ps, r, z⟩ => z.elim⟩
theorem t_bad : PT X e (tB X.K S0 H0 W dBadB) := ⟨fun pins s σ H Q I ⟨ev, ps, r, z⟩ => z.elim⟩
theorem s_bad : PS X stm (tS m X.K S0 H0 W sBad) := ⟨fun pins s σ H D I ⟨ev, ps, r, z⟩ => z.elim⟩
theorem e_fl (h : PE X e (tG .s X.K S0 H0 W d)) : PE X e (tG .f X.K S0 H0 W (dFl d)) := pe_imp h fun σ H Q ⟨ev, ps, r, z⟩ =>
  ⟨ev, ps, r, R.on_mono (R.on_bind z) (fun t q v H' s p => by
    cases e : isMut t with
    | true => rw [e] at q; exact q.elim
    | false => rw [e] at q; exact q v H' s (.inl ⟨e, p⟩)) fun _ _ q => q⟩
end
section
variable {K : PySem.W.Frag} {S0 : Addr → Prop} {H0 H : Hp} {ps : List (V × T)} {σ : L2.St} {ev : Lo}
theorem Rp.forget (w : List Nat) (r : Rp K S0 H0 ps σ H ev) : Rp K S0 H0 ps σ H (wipeL w ev) := by
  have own : ∀ {a : Addr}, Own σ (wipeL w ev) a → Own σ ev a := fun {a} ⟨i, t, h1, h2⟩ => ⟨i, t, (wipeL_some h1).1, h2⟩
  have mv : Mv (Sx S0 σ ev) (Sx S0 σ (wipeL w ev)) H H := mv_less fun a z => z.elim .inl fun y => .inr (own y)
  refine ⟨r.same, r.s0, fun i t h => ?_, fun i t h => ?_, fun i j t u a h1 h2 h3 h4 => ?_, fun p hp => (r.pin p hp).mv mv, by rw [wipeL_len]; exact r.len⟩
  · obtain ⟨v, h1, h2⟩ := r.frz i t (wipeL_some h).1
    exact ⟨v, h1, h2.mv mv⟩
  · obtain ⟨a, h1, h2, h3, c⟩ := r.own i t (wipeL_some h).1
    exact ⟨a, h1, h2, h3, c.mv mv rfl⟩
  · exact r.inj i j t u a (wipeL_some h1).1 (wipeL_some h2).1 h3 h4
end
section
variable {X : Cx} {e a b : Expr} {stm : Stmt} {rest : List Stmt} {S S0 : Addr → Prop} {H0 : Hp} {W : WX} {d da db : Lo → R T} {c : Lo → R Bool} {d1 : Lo → Fl} {pos : Pos} {m ma mb : Md} {k : Nat}
theorem wp0 (w : List Nat) (h : PS X stm (tS m X.K S0 H0 W d1)) : PS X stm (tS m X.K S0 H0 W (sWp w d1)) := ps_imp h fun D σ H ⟨ev, ps, r, z⟩ => ⟨wipeL w ev, ps, r.forget w, z⟩
theorem wpe (w : List Nat) (h : PSs X rest (tS m X.K S0 H0 W d1)) : PSs X rest (tS m X.K S0 H0 W (sWe w d1)) := pss_imp h fun D σ H ⟨ev, ps, r, z⟩ => by
  refine ⟨ev, ps, r, ?_⟩
  unfold sWe at z
  cases e : d1 ev with
  | nx ev' => rw [e] at z; exact fun σ' H' r' => z σ' H' (r'.forget w)
  | bk ev' => rw [e] at z; exact fun σ' H' r' => z σ' H' (r'.forget w)
  | ct ev' => rw [e] at z; exact fun σ' H' r' => z σ' H' (r'.forget w)
  | rt t => rw [e] at z; exact z
  | ex c fs ev' => rw [e] at z; exact z
  | bad => rw [e] at z; exact z
/-- a slot is data from now on -/
def relI (i : Nat) (ev : Lo) : Lo := match ev[i]? with
  | some (some (t, true)) => ev.set i (some (t, false))
  | _ => ev
def sFz (i : Nat) (d : Lo → Fl) : Lo → Fl := fun ev => match d ev with
  | .nx e => .nx (relI i e)
  | r => r
theorem Rp.relI {K : PySem.W.Frag} {H : Hp} {ps : List (V × T)} {σ : L2.St} {ev : Lo} {H0 : Hp} (i : Nat) (r : Rp K S0 H0 ps σ H ev) : Rp K S0 H0 ps σ H (DL.relI i ev) := by
  unfold DL.relI
  split
  · rename_i t e; exact r.release e
  · exact r
theorem fz (i : Nat) (h : PS X stm (tS m X.K S0 H0 W d1)) : PS X stm (tS m X.K S0 H0 W (sFz i d1)) := ps_imp h fun D σ H ⟨ev, ps, r, z⟩ => by
  refine ⟨ev, ps, r, ?_⟩
  unfold sFz at z
  cases e : d1 ev with
  | nx ev' => rw [e] at z; exact fun σ' H' r' => z σ' H' (r'.relI i)
  | _ => rw [e] at z; exact z
/-! ### what a def alone has is lent: to a test, to what is asked for nothing -/
def dBorB (i : Nat) (c : Lo → R Bool) : Lo → R Bool := fun ev => match c (relI i ev) with
  | .ok b => .ok b
  | _ => .bad
def sExB (i : Nat) (d : Lo → R T) : Lo → Fl := fun ev => match d (relI i ev) with
  | .ok _ => .nx ev
  | _ => .bad
theorem t_bor (i : Nat) (h : PT X e (tB X.K S0 H0 W c)) : PT X e (tB X.K S0 H0 W (dBorB i c)) := pt_imp h fun σ H Q ⟨ev, ps, r, z⟩ => by
  refine ⟨DL.relI i ev, ps, r.relI i, ?_⟩
  unfold dBorB at z
  cases e1 : c (DL.relI i ev) with
  | bad => rw [e1] at z; exact z.elim
  | ok b => rw [e1] at z; exact z
  | ex x fs => rw [e1] at z; exact z.elim
theorem s_exprB (i : Nat) (he : PE X e (tG ma X.K S0 H0 W d)) (hs : swapsWith e none pos.line X.env = pure false := by rfl) : PS X (.Expr e pos) (tS m X.K S0 H0 W (sExB i d)) := ps_imp (ps_expr he hs) fun D σ H ⟨ev, ps, r, z⟩ => by
  refine ⟨DL.relI i ev, ps, r.relI i, ?_⟩
  unfold sExB at z
  cases e1 : d (DL.relI i ev) with
  | bad => rw [e1] at z; exact z.elim
  | ok b => rw [e1] at z; exact fun v H' s p => z σ H' (r.up s)
  | ex x fs => rw [e1] at z; exact z.elim
/-! ### sorted -/
def insI (x : Int) : List Int → List Int
  | [] => [x]
  | y :: ys => if x ≤ y then x :: y :: ys else y :: insI x ys
def sortI (xs : List Int) : List Int := xs.foldr insI []
def lexLe : List Int → List Int → Bool
  | [], _ => true
  | _ :: _, [] => false
  | x :: xs, y :: ys => if x = y then lexLe xs ys else decide (x < y)
def insL (x : List Int) : List (List Int) → List (List Int)
  | [] => [x]
  | y :: ys => if lexLe x y = true then x :: y :: ys else y :: insL x ys
def sortL (xs : List (List Int)) : List (List Int) := xs.foldr insL []
def tups : List T → Option (List (List Int))
  | [] => some []
  | .tup us :: ts => match nums us, tups ts with
    | some ks, some kss => some (ks :: kss)
    | _, _ => none
  | _ => none
/-- tuples of so many numbers, none below 0 -/
def okTups (kss : List (List Int)) : Bool := match kss with
  | [] => true
  | k :: _ => decide (1 ≤ k.length) && kss.all fun ks => ks.length == k.length && ks.all fun i => decide (0 ≤ i) && decide (i < 1000000000000000000000000000000)
def sorted1L : List T → Option T
  | [.lst ts] => match nums ts with
    | some ns => some (.lst ((sortI ns).map .int))
    | none => (tups ts).bind fun kss => if kss.length < 64 ∧ okTups kss = true then some (.lst ((sortL kss).map fun ks => .tup (ks.map .int))) else none
  | _ => none
/-- sorted(set(xs)) -/
def dedI : List Int → List Int
  | [] => []
  | x :: xs => if x ∈ xs then dedI xs else x :: dedI xs
def ssetL : List T → Option T
  | [.lst ts] => (nums ts).bind fun ns => if ns.length ≤ 4000 ∧ (dedI ns).length < 64 then some (.lst ((sortI (dedI ns)).map .int)) else none
  | _ => none
/-! ### in -/
def flT : T → Bool
  | .non => true
  | .bl _ => true
  | .int _ => true
  | .str _ => true
  | _ => false
def eqF : T → T → Bool
  | .non, .non => true
  | .bl a, .bl b => a == b
  | .bl a, .int b => (if a then 1 else 0) == b
  | .int a, .bl b => a == (if b then 1 else 0)
  | .int a, .int b => a == b
  | .str a, .str b => a == b
  | _, _ => false
def inG (n : Bool → Bool) (x : T) : T → Option T
  | .lst xs => if flT x = true ∧ xs.all flT = true then some (.bl (n (xs.any fun y => eqF y x))) else none
  | .tup xs => if flT x = true ∧ xs.all flT = true then some (.bl (n (xs.any fun y => eqF y x))) else none
  | .str z => match x with
    | .str y => if y.cps.size = 1 then some (.bl (n (decide (y.cps.getD 0 0 ∈ z.cps.toList)))) else none
    | _ => none
  | _ => none
def inT : T → T → Option T := inG id
def ninT : T → T → Option T := inG not
theorem fl_v {K : PySem.W.Frag} {H : Hp} {v : V} {t : T} (p : IsT K S H v t) (h : flT t = true) : flatV v = true := by
  cases p with
  | non => rfl
  | bl b => rfl
  | int i => rfl
  | str x => rfl
  | _ => cases h
theorem fl_vs {K : PySem.W.Frag} {H : Hp} : ∀ {vs : List V} {ts : List T}, IsTs K S H vs ts → ts.all flT = true → vs.all flatV = true
  | _, _, .nil, _ => rfl
  | _, _, .cons p r, h => by
    rw [List.all_cons, Bool.and_eq_true] at h ⊢
    exact ⟨fl_v p h.1, fl_vs r h.2⟩
theorem eq_v {K : PySem.W.Frag} {H : Hp} {v w : V} {t u : T} (p : IsT K S H v t) (q : IsT K S H w u) (h : flT t = true) (g : flT u = true) : eqV v w = eqF t u := by
  cases p <;> first | (cases h; done) | (cases q <;> first | (cases g; done) | rfl)
theorem any_v {K : PySem.W.Frag} {H : Hp} {w : V} {u : T} (q : IsT K S H w u) (g : flT u = true) : ∀ {vs : List V} {ts : List T}, IsTs K S H vs ts → ts.all flT = true → (vs.any fun y => eqV y w) = ts.any fun y => eqF y u
  | _, _, .nil, _ => rfl
  | _, _, .cons p r, h => by
    rw [List.all_cons, Bool.and_eq_true] at h
    rw [List.any_cons, List.any_cons, eq_v p q h.1 g, any_v q g r h.2]
theorem Pm.flat {K : PySem.W.Frag} {H H' : Hp} {v : V} {t : T} (p : Pm K .w S H H' v t) (h : flT t = true) : IsT K S H' v t := by
  rcases p with p | ⟨a, _, c⟩
  · exact p
  · cases c <;> cases h
theorem in_imp {neg : Bool} {n : Bool → Bool} (hn : ∀ b, n b = if neg then !b else b) :
    ∀ (S : Addr → Prop) (H : Hp) (x y : V) (t u w : T) (Q : VK), (∀ a, S a → H a ≠ none) → Pm X.K .w S H H x t → Pm X.K .w S H H y u → inG n t u = some w → (∀ v H', Same H H' → Pm X.K .f S H H' v w → Q v H') →
      (fun x y H Q => rIn X.K neg x y H Q ∨ ∃ (c : Nat) (z : Str), x = .str ⟨#[c]⟩ ∧ y = .str z ∧ Q (.bl (if neg then !decide (c ∈ z.cps.toList) else decide (c ∈ z.cps.toList))) H : R2) x y H Q := fun S H x y t u w Q hs p q e z => by
  have key : ∀ {a : Addr} {vs : List V} {ts : List T}, y = .ref a → (SqL X.K H a vs ∨ SqT X.K H a vs) → IsTs X.K S H vs ts → (if flT t = true ∧ ts.all flT = true then some (T.bl (n (ts.any fun y => eqF y t))) else none) = some w → rIn X.K neg x y H Q := fun {a vs ts} ey hq r e => by
    obtain ⟨⟨h1, h2⟩, rfl⟩ := some_if e
    have px := p.flat h1
    refine ⟨a, vs, ey, hq, fl_v px h1, fl_vs r h2, ?_⟩
    unfold inV
    rw [any_v px h1 r h2, ← hn]
    exact z _ _ (Same.refl _) (one_bl _)
  cases u with
  | lst ts =>
    obtain ⟨a, vs, ey, h, r⟩ := q.lst
    exact .inl (key ey (.inl (SqL.of h)) r e)
  | tup ts =>
    obtain ⟨a, vs, ey, h, r⟩ := q.tup
    exact .inl (key ey (.inr h.sq) r e)
  | str g =>
    cases t with
    | str y' =>
      have e' : (if y'.cps.size = 1 then some (T.bl (n (decide (y'.cps.getD 0 0 ∈ g.cps.toList)))) else none) = some w := e
      obtain ⟨h1, rfl⟩ := some_if e'
      have hx := p.str
      have hy := q.str
      obtain ⟨cps⟩ := y'
      obtain ⟨c, rfl⟩ : ∃ c, cps = #[c] := by
        obtain ⟨l⟩ := cps
        match l, h1 with
        | [c], _ => exact ⟨c, rfl⟩
        | [], h1 => simp at h1
        | _ :: _ :: _, h1 => simp at h1
      refine .inr ⟨c, g, hx, hy, ?_⟩
      rw [← hn]
      exact z _ _ (Same.refl _) (one_bl _)
    | _ => cases e
  | _ => cases e
theorem op_inG : OpR X (compareOp .In) (fun x y H Q => rIn X.K false x y H Q ∨ ∃ (c : Nat) (z : Str), x = .str ⟨#[c]⟩ ∧ y = .str z ∧ Q (.bl (if false = true then !decide (c ∈ z.cps.toList) else decide (c ∈ z.cps.toList))) H) := op_in_seq.or op_in_sign
theorem op_ninG : OpR X (compareOp .NotIn) (fun x y H Q => rIn X.K true x y H Q ∨ ∃ (c : Nat) (z : Str), x = .str ⟨#[c]⟩ ∧ y = .str z ∧ Q (.bl (if true = true then !decide (c ∈ z.cps.toList) else decide (c ∈ z.cps.toList))) H) := op_notIn_seq.or op_notIn_sign
theorem t_in (cn : Cn X W k) (ha : PE X a (tG .w X.K S0 H0 W da)) (hb : PE X b (tG .w X.K S0 H0 W db)) (hm : behindInMarks .In b = false := by rfl) : PT X (.Compare a [.In] [b] pos) (tB X.K S0 H0 W (dTest (d2 inT da db))) := t_cmp op_inG (in_imp fun _ => rfl) ha hb hm
theorem t_nin (cn : Cn X W k) (ha : PE X a (tG .w X.K S0 H0 W da)) (hb : PE X b (tG .w X.K S0 H0 W db)) (hm : behindInMarks .NotIn b = false := by rfl) : PT X (.Compare a [.NotIn] [b] pos) (tB X.K S0 H0 W (dTest (d2 ninT da db))) := t_cmp op_ninG (in_imp fun _ => rfl) ha hb hm
theorem e_in (cn : Cn X W k) (ha : PE X a (tG .w X.K S0 H0 W da)) (hb : PE X b (tG .w X.K S0 H0 W db)) (hm : behindInMarks .In b = false := by rfl) : PE X (.Compare a [.In] [b] pos) (tG .f X.K S0 H0 W (d2 inT da db)) := e_cmp op_inG (in_imp fun _ => rfl) ha hb hm
theorem e_nin (cn : Cn X W k) (ha : PE X a (tG .w X.K S0 H0 W da)) (hb : PE X b (tG .w X.K S0 H0 W db)) (hm : behindInMarks .NotIn b = false := by rfl) : PE X (.Compare a [.NotIn] [b] pos) (tG .f X.K S0 H0 W (d2 ninT da db)) := e_cmp op_ninG (in_imp fun _ => rfl) ha hb hm
end
/-! ### slices backwards -/
theorem krv1_bounds (n : Nat) : sliceBounds none (some 0) (some (-1)) n = ((n : Int) - 1, min 0 ((n : Int) - 1), -1) := by
  unfold sliceBounds
  simp only [Option.getD_some, show ¬ ((-1 : Int) > 0) by decide, if_false, show ¬ ((0 : Int) < 0) by decide]
  have : max (-1) (min 0 ((n : Int) - 1)) = min 0 ((n : Int) - 1) := by omega
  rw [this]
theorem krv1_pick (items : Array Value) : slicePick items none (some 0) (some (-1)) = (items.toList.drop 1).reverse.toArray := by
  unfold slicePick
  rw [krv1_bounds]
  show ((sliceRange ((items.size : Int) - 1) (min 0 ((items.size : Int) - 1)) (-1)).filterMap (items[·]?)).toArray = _
  by_cases h0 : items.size = 0
  · obtain ⟨l⟩ := items
    have : l = [] := by simpa using h0
    subst this
    rfl
  · have e : sliceRange ((items.size : Int) - 1) (min 0 ((items.size : Int) - 1)) (-1) = ((List.range (items.size - 1)).map (· + 1)).reverse := by
      unfold sliceRange
      have h1 : ¬ ((-1 : Int) > 0) := by decide
      have hm : min 0 ((items.size : Int) - 1) = 0 := by omega
      rw [hm]
      have e2 : (((items.size : Int) - 1 - 0 - -1 - 1) / (- -1)) = ((items.size - 1 : Nat) : Int) := by
        rw [show (- -1 : Int) = 1 by decide, Int.ediv_one]; omega
      by_cases h2 : (items.size : Int) - 1 > 0
      · simp only [h1, if_false, h2, if_true, e2, Int.toNat_natCast]
        apply List.ext_getElem
        · simp
        · intro i a b
          simp at a b ⊢
          omega
      · have : items.size = 1 := by omega
        simp only [h1, if_false, h2, this]
        rfl
    rw [e, List.filterMap_reverse]
    congr 2
    rw [List.filterMap_map]
    apply List.ext_getElem?
    intro i
    have key : ∀ n, n ≤ items.size - 1 → (List.range n).filterMap ((items[·]?) ∘ (· + 1)) = (items.toList.drop 1).take n := fun n => by
      induction n with
      | zero => intro _; rfl
      | succ n ih =>
        intro hn
        have hlt : n + 1 < items.toList.length := by simp; omega
        rw [List.range_succ, List.filterMap_append, ih (by omega), List.take_add_one, List.getElem?_drop]
        congr 1
        have : items[n + 1]? = some items.toList[n + 1] := by
          rw [Array.getElem?_eq_getElem (by simpa using hlt)]; simp
        simp [this, Nat.add_comm 1 n]
    rw [key _ (Nat.le_refl _), List.take_of_length_le (by simp)]
def revT : T → Option T
  | .lst xs => some (.lst xs.reverse)
  | .scr ns => some (.lst (ns.reverse.map .int))
  | _ => none
def rev1T : T → Option T
  | .lst xs => some (.lst (xs.drop 1).reverse)
  | .scr ns => some (.lst ((ns.drop 1).reverse.map .int))
  | _ => none
/-! ### data that repr tells: empty dicts too -/
/-- sys.modules stands in the known part, a dict -/
def SysK (K : PySem.W.Frag) : Prop := ∃ o, K.lookup sysModules = some o ∧ o.cls = .type "dict"
def sysB (K : PySem.W.Frag) : Bool := match K.lookup sysModules with
  | some o => decide (o.cls = .type "dict")
  | none => false
theorem sysB_ok {K : PySem.W.Frag} (h : sysB K = true) : SysK K := by
  unfold sysB at h
  cases e : K.lookup sysModules with
  | none => rw [e] at h; cases h
  | some o => rw [e] at h; exact ⟨o, e, of_decide_eq_true h⟩
mutual
inductive Dq (K : PySem.W.Frag) (H : Hp) : V → PyData → Prop
  | non : Dq K H .non .none
  | bl (b : Bool) : Dq K H (.bl b) (.bool b)
  | int (i : Int) : Dq K H (.int i) (.int i)
  | str (x : Str) : Dq K H (.str x) (.str x)
  | lst {a : Addr} {vs : List V} {es : List PyData} (h : SqL K H a vs) (r : DqAll K H vs es) : Dq K H (.ref a) (.list es)
  | tup {a : Addr} {vs : List V} {es : List PyData} (h : SqT K H a vs) (r : DqAll K H vs es) : Dq K H (.ref a) (.tuple es)
  | dic {a : Addr} (h : H a = some (.dK [])) : Dq K H (.ref a) (.dict [])
inductive DqAll (K : PySem.W.Frag) (H : Hp) : List V → List PyData → Prop
  | nil : DqAll K H [] []
  | cons {v : V} {vs : List V} {e : PyData} {es : List PyData} (h : Dq K H v e) (r : DqAll K H vs es) : DqAll K H (v :: vs) (e :: es)
end
section
variable {X : Cx} {pins : List (Addr × Obj)} {σ : L2.St} {H : Hp} {s : Shared}
mutual
theorem Dq.reads (I : Inv X pins σ H s) (sk : SysK X.K) : ∀ (e : PyData) (v : V) (u : Value), Dq X.K H v e → RelV v u → ∃ as, Reads s.heap u e as ∧ sysModules ∉ as
  | .none, _, _, .non, r => by cases r; exact ⟨_, .none, by simp⟩
  | .bool b, _, _, .bl _, r => by cases r; exact ⟨_, .bool b, by simp⟩
  | .int i, _, _, .int _, r => by obtain ⟨t, rfl⟩ := r; exact ⟨_, .int i t, by simp⟩
  | .str x, _, _, .str _, r => by obtain ⟨t, rfl⟩ := r; exact ⟨_, .str x t, by simp⟩
  | .list es, _, _, .lst h q, r => by
    cases r
    obtain ⟨its, rv, ⟨o, n, ho, hc, _, hd⟩, _⟩ := I.list h
    obtain ⟨as, hr, ns⟩ := Dq.readsAll I sk es _ its q rv
    refine ⟨_, .list ho hc hd hr, fun z => ?_⟩
    rcases List.mem_cons.mp z with z | z
    · obtain ⟨o', h1, h2⟩ := sk
      have h3 := I.kIn _ _ h1
      rw [z, ho] at h3
      cases h3
      exact absurd (Value.type.inj (hc.symm.trans h2)) (by decide)
    · exact ns z
  | .tuple es, _, _, .tup h q, r => by
    cases r
    obtain ⟨its, rv, ⟨o, ho, hc, n, hd⟩, _⟩ := I.tuple h
    obtain ⟨as, hr, ns⟩ := Dq.readsAll I sk es _ its q rv
    exact ⟨_, .tuple ho hc hd hr, ns⟩
  | .dict _, _, _, .dic h, r => by
    cases r
    obtain ⟨_, nsys, vs, kv, o, es, ep, ho, hx, hd, _, hp, _⟩ := (show ObjOk X.prog X.w H s.heap _ (.dK []) from I.hok _ _ h)
    cases kv
    have e0 : es.toList = [] := by
      generalize es.toList = l at hp
      cases hp
      rfl
    refine ⟨_, .dict (as := []) (bs := []) ho hx.1 hd ?_ ?_, fun z => ?_⟩
    · rw [e0]; exact .nil
    · rw [e0]; exact .nil
    · rw [List.append_nil, List.mem_singleton] at z
      rw [z] at nsys
      simp at nsys
theorem Dq.readsAll (I : Inv X pins σ H s) (sk : SysK X.K) : ∀ (es : List PyData) (vs : List V) (us : List Value), DqAll X.K H vs es → Vals vs us → ∃ as, ReadsAll s.heap us es as ∧ sysModules ∉ as
  | [], _, _, .nil, r => by cases r; exact ⟨_, .nil, by simp⟩
  | e :: es, _, _, .cons h q, r => by
    cases r with
    | cons r1 r2 =>
      obtain ⟨as, a1, n1⟩ := Dq.reads I sk e _ _ h r1
      obtain ⟨bs, a2, n2⟩ := Dq.readsAll I sk es _ _ q r2
      exact ⟨_, .cons a1 a2, fun z => (List.mem_append.mp z).elim n1 n2⟩
end
end
mutual
def plR : T → Bool
  | .non => true
  | .bl _ => true
  | .int _ => true
  | .str _ => true
  | .lst xs => plRs xs
  | .tup xs => plRs xs
  | .scr _ => true
  | .dic kv => kv.isEmpty
  | _ => false
def plRs : List T → Bool
  | [] => true
  | t :: ts => plR t && plRs ts
end
section
variable {K : PySem.W.Frag} {S : Addr → Prop} {H H' : Hp}
theorem dqInts : ∀ ns : List Int, DqAll K H (ns.map V.int) (ns.map PyData.int)
  | [] => .nil
  | n :: ns => .cons (.int n) (dqInts ns)
theorem dq_dic {a : Addr} {xs : List (Key × V)} {ts : List (Key × T)} (h : H a = some (.dK xs)) (r : IsKs K S H xs ts) (p : plR (.dic ts) = true) : Dq K H (.ref a) (py (.dic ts)) := by
  unfold plR at p
  cases r with
  | nil => unfold py; exact .dic h
  | cons _ _ => cases p
mutual
theorem IsT.dq : ∀ {v : V} {t : T}, IsT K S H v t → plR t = true → Dq K H v (py t)
  | _, _, .non, _ => by unfold py; exact .non
  | _, _, .bl b, _ => by unfold py; exact .bl b
  | _, _, .int i, _ => by unfold py; exact .int i
  | _, _, .str x, _ => by unfold py; exact .str x
  | _, _, .lst n h r, p => by unfold py; unfold plR at p; exact .lst (SqL.of h) (IsTs.dq r p)
  | _, _, .tup h r, p => by unfold py; unfold plR at p; exact .tup h.sq (IsTs.dq r p)
  | _, _, .dic _ h r, p => dq_dic h r p
  | _, _, .dit _ _ _, p => by simp [plR] at p
  | _, _, .exc0 _ _, p => by simp [plR] at p
  | _, _, .exc _ _ _ _ _, p => by simp [plR] at p
  | _, _, .scr h, _ => by unfold py; exact .lst h.sq (dqInts _)
  | _, _, .ob _, p => by simp [plR] at p
theorem IsTs.dq : ∀ {vs : List V} {ts : List T}, IsTs K S H vs ts → plRs ts = true → DqAll K H vs (pys ts)
  | _, _, .nil, _ => by unfold pys; exact .nil
  | _, _, .cons h r, p => by
    unfold plRs at p
    unfold pys
    have q := Bool.and_eq_true_iff.mp p
    exact .cons (IsT.dq h q.1) (IsTs.dq r q.2)
end
theorem Pm.dq {v : V} {t : T} (p : Pm K .w S H H' v t) (h : plR t = true) : Dq K H' v (py t) := by
  rcases p with p | ⟨a, rfl, c⟩
  · exact p.dq h
  · cases c with
    | lst g r => unfold py; unfold plR at h; exact .lst (SqL.of g) (r.dq h)
    | dic g r => exact dq_dic g r h
    | dit g r => simp [plR] at h
end
section
variable {X : Cx} {e a b : Expr} {S S0 : Addr → Prop} {H0 : Hp} {W : WX} {d da db : Lo → R T} {pos : Pos} {m ma mb : Md} {k : Nat}
def tRevL1 (K : PySem.W.Frag) (te : TE) : TE := fun σ H Q => te σ H fun x H1 => ∃ a xs, x = .ref a ∧ SqL K H1 a xs ∧ ∀ p, H1 p = none → Q (.ref p) (upd H1 p (.lst (xs.drop 1).reverse))
theorem pe_revL1 {te : TE} {j j2 : Nat} {p1 p2 p3 p4 : Pos} (he : PE X e te) : PE X (.Subscript e (.Slice none (some (.Constant (.int 0) j2 p4)) (some (.UnaryOp .USub (.Constant (.int 1) j p1) p2)) p3) pos) (tRevL1 X.K te) := by
  refine ⟨fun pins s σ H Q I h => ?_⟩
  refine Subscript_ (thn (he.run pins s σ H _ I h) fun v s1 ⟨x, H1, I1, r1, q1⟩ => ?_)
  obtain ⟨a, xs, ex, hx, q⟩ := q1
  subst ex
  cases r1
  have hst : PO X (some (.UnaryOp .USub (.Constant (.int 1) j p1) p2)) (tPart (tUn (rU fun i => .int (-i)) (tC (.int 1)))) := po_some (pe_un un_neg pe_int)
  have hup : PO X (some (.Constant (.int 0) j2 p4)) (tPart (tC (.int 0))) := po_some pe_int
  refine wpAny_Slice (thn (po_none.run pins s1 σ H1 (fun o H2 => o = none ∧ H2 = H1) I1 ⟨rfl, rfl⟩) fun vl s2 ⟨l, H2, I2, pl, el, e2⟩ => ?_)
  subst el e2
  refine thn (hup.run pins s2 σ H2 (fun o H3 => o = some 0 ∧ H3 = H2) I2 ⟨0, rfl, rfl, rfl⟩) fun vu s3 ⟨u, H3, I3, pu, eu, e3⟩ => ?_
  subst eu e3
  refine thn (hst.run pins s3 σ H3 (fun o H4 => o = some (-1) ∧ H4 = H3) I3 ⟨1, rfl, -1, rfl, rfl, rfl⟩) fun vs s4 ⟨o, H4, I4, ps, eo, e4⟩ => ?_
  subst eo e4
  have I5 : Inv X pins σ H4 { s4 with heap := s4.heap.push { cls := .type "slice", data := .fields #[vl, vu, vs] } } := I4.kept (t' := s4.toks) fun b ob q => Heap.get?_push_of_some _ q
  obtain ⟨its, r, ht, hz⟩ := I5.list hx
  have hlen := r.length
  show wpAny (model X.prog X.w) X.A (subscriptTail e (.Slice none (some (.Constant (.int 0) j2 p4)) (some (.UnaryOp .USub (.Constant (.int 1) j p1) p2)) p3) (.ref a) (.ref s4.heap.objs.size)) (EP X pins σ Q) X.xe { s4 with heap := s4.heap.push { cls := .type "slice", data := .fields #[vl, vu, vs] } }
  refine tail_any (ops := [.ref a, .ref s4.heap.objs.size]) ht.isList.typeIs (PySem.slot_list_getitem.lookup) ?_ (by with_unfolding_all rfl)
  refine wpAny_getItem_list_slice ht.isList (Heap.IsSliceOf.new _ vl vu vs) pl pu ps (by decide) ?_ (by rw [List.size_toArray]; omega)
  rw [krv1_pick]
  refine ⟨.ref _, _, I5.laid (t' := s4.toks) (o := .lst (xs.drop 1).reverse) (fun b ob q => Heap.get?_push_of_some _ q) (Nat.le_refl _) ?_, rfl, q _ (I5.hok.fresh (Nat.le_refl _))⟩
  exact ⟨by rw [List.length_reverse, List.length_drop]; omega, _, 0, (r.drop 1).reverse, Heap.get?_push_size _ rfl⟩
theorem IsTs.rev {K : PySem.W.Frag} {H : Hp} : ∀ {vs : List V} {ts : List T}, IsTs K S H vs ts → IsTs K S H vs.reverse ts.reverse
  | _, _, .nil => .nil
  | _, _, .cons h r => by rw [List.reverse_cons, List.reverse_cons]; exact (IsTs.rev r).app (.cons h .nil)
theorem e_rev {j : Nat} {p1 p2 p3 : Pos} (ha : PE X e (tG .w X.K S0 H0 W d)) : PE X (.Subscript e (.Slice none none (some (.UnaryOp .USub (.Constant (.int 1) j p1) p2)) p3) pos) (tG .f X.K S0 H0 W (d1 revT d)) :=
  pe_imp (pe_revL ha) fun σ H Q h => im1 (r := fun x H1 Q => ∃ a xs, x = .ref a ∧ SqL X.K H1 a xs ∧ ∀ p, H1 p = none → Q (.ref p) (upd H1 p (.lst xs.reverse))) (fun S H x t w Q hs p e z => by
    cases t with
    | lst ts =>
      cases e
      obtain ⟨a, xs, rfl, h, r⟩ := p.lst
      exact ⟨a, xs, rfl, SqL.of h, fun n hn => z _ _ (same_upd hn) (new_lst hn r.rev)⟩
    | scr ns =>
      cases e
      obtain ⟨a, rfl, h⟩ := p.scr
      exact ⟨a, _, rfl, h.sq, fun n hn => z _ _ (same_upd hn) (by rw [← List.map_reverse]; exact new_lst hn (scr_ts _))⟩
    | _ => cases e) σ H Q h
theorem e_rev1 {j j2 : Nat} {p1 p2 p3 p4 : Pos} (ha : PE X e (tG .w X.K S0 H0 W d)) : PE X (.Subscript e (.Slice none (some (.Constant (.int 0) j2 p4)) (some (.UnaryOp .USub (.Constant (.int 1) j p1) p2)) p3) pos) (tG .f X.K S0 H0 W (d1 rev1T d)) :=
  pe_imp (pe_revL1 ha) fun σ H Q h => im1 (r := fun x H1 Q => ∃ a xs, x = .ref a ∧ SqL X.K H1 a xs ∧ ∀ p, H1 p = none → Q (.ref p) (upd H1 p (.lst (xs.drop 1).reverse))) (fun S H x t w Q hs p e z => by
    cases t with
    | lst ts =>
      cases e
      obtain ⟨a, xs, rfl, h, r⟩ := p.lst
      exact ⟨a, xs, rfl, SqL.of h, fun n hn => z _ _ (same_upd hn) (new_lst hn (r.drop 1).rev)⟩
    | scr ns =>
      cases e
      obtain ⟨a, rfl, h⟩ := p.scr
      exact ⟨a, _, rfl, h.sq, fun n hn => z _ _ (same_upd hn) (by rw [← List.map_drop, ← List.map_reverse]; exact new_lst hn (scr_ts _))⟩
    | _ => cases e) σ H Q h
/-! ### repr, str, abs, sorted, max and min of a list -/
def rRepr (K : PySem.W.Frag) : List V → Hp → VK → Prop := fun xs H Q => ∃ v d, xs = [v] ∧ Dq K H v d ∧ d.showable = true ∧ d.depth ≤ 60 ∧ d.shown.length ≤ sizeLine ∧ Q (.str d.shown) H
theorem cr_repr (sk : SysK X.K) (hg : X.A.guards = some []) (hu : X.A.units + 64 < cLine) : CallR X (.builtin "repr") (rRepr X.K) := by
  intro pins s σ H xs us Q I r h
  obtain ⟨v, d, rfl, hd, hs, hdp, hz, q⟩ := h
  obtain ⟨u, rfl, ru⟩ := vals1 r
  obtain ⟨as, rd, ns⟩ := hd.reads I sk d v u ru
  cases hd with
  | non => cases ru; exact PySem.P.repr_of_none ⟨.str _, H, I.tok _, ⟨_, rfl⟩, q⟩
  | bl b => cases ru; exact PySem.P.repr_of_bool ⟨.str _, H, I.tok _, ⟨_, rfl⟩, q⟩
  | int i =>
    obtain ⟨t, rfl⟩ := ru
    exact PySem.P.repr_of_int (of_decide_eq_true hs) ⟨.str _, H, I.tok _, ⟨_, rfl⟩, q⟩
  | str x =>
    obtain ⟨t, rfl⟩ := ru
    exact PySem.P.repr_of_str ⟨.str _, H, I.tok _, ⟨_, rfl⟩, q⟩ hz
  | lst g1 g2 =>
    cases ru
    exact repr_of_reads' rd hs (fun _ => ns) hg (by omega) (fun _ _ e => e) (fun h' u tk hk => ⟨.str _, H, I.kept hk, ⟨_, rfl⟩, q⟩) hz
  | tup g1 g2 =>
    cases ru
    exact repr_of_reads' rd hs (fun _ => ns) hg (by omega) (fun _ _ e => e) (fun h' u tk hk => ⟨.str _, H, I.kept hk, ⟨_, rfl⟩, q⟩) hz
  | dic g1 =>
    cases ru
    exact repr_of_reads' rd hs (fun _ => ns) hg (by omega) (fun _ _ e => e) (fun h' u tk hk => ⟨.str _, H, I.kept hk, ⟨_, rfl⟩, q⟩) hz
def okR (t : T) : Bool := plR t && ((py t).showable && (decide ((py t).depth ≤ 60) && decide ((py t).shown.length ≤ sizeLine)))
def reprL : List T → Option T
  | [t] => if okR t = true then some (.str (py t).shown) else none
  | _ => none
theorem b_repr : BOk X.K .f (rRepr X.K) reprL := fun S H vs ts w Q hs p e z => by
  unfold reprL at e
  split at e
  · rename_i t
    obtain ⟨hc, rfl⟩ := some_if e
    obtain ⟨v, rfl, q⟩ := one_w p
    unfold okR at hc
    simp only [Bool.and_eq_true, decide_eq_true_eq] at hc
    obtain ⟨h1, h2, h4, h5⟩ := hc
    exact ⟨v, _, rfl, q.dq h1, h2, h4, h5, z _ _ (Same.refl _) (one_str _)⟩
  · cases e
theorem e_repr {p : Pos} (cn : Cn X W k) (sk : SysK X.K) (hm : X.mg "repr" = none) (ha : PE X e (tG .w X.K S0 H0 W d)) (hg : Gl X "repr" := by rfl) (hs : starEach [e] X.env = (false, eval e X.env) :: starEach [] X.env := by rfl) :
    PE X (.Call (.Name "repr" p) [e] [] pos) (tG .f X.K S0 H0 W (dBlt reprL (dCons d dNil))) := e_blt (cr_repr sk cn.gu cn.room.units) b_repr hm (by decide +kernel) (w_cons ha w_nil hs) hg (he := hs)
def strL : List T → Option T
  | [.int i] => if i.natAbs.log2 < 1920 then some (.str (toString i)) else none
  | _ => none
theorem b_strI : BOk X.K .f (fun xs H Q => ∃ i, xs = [.int i] ∧ i.natAbs.log2 < 1920 ∧ Q (.str (toString i)) H) strL := fun S H vs ts w Q hs p e z => by
  unfold strL at e
  split at e
  · obtain ⟨hc, rfl⟩ := some_if e
    obtain ⟨v, rfl, q⟩ := one_w p
    rw [q.int]
    exact ⟨_, rfl, hc, z _ _ (Same.refl _) (one_str _)⟩
  · cases e
theorem e_str1 {p : Pos} (cn : Cn X W k) (hm : X.mg "str" = none) (ha : PE X e (tG .w X.K S0 H0 W d)) (hg : Gl X "str" := by rfl) (hs : starEach [e] X.env = (false, eval e X.env) :: starEach [] X.env := by rfl) :
    PE X (.Call (.Name "str" p) [e] [] pos) (tG .f X.K S0 H0 W (dBlt strL (dCons d dNil))) := e_bty call_str_int b_strI hm (by decide +kernel) (w_cons ha w_nil hs) hg (he := hs)
def maxI : List Int → Option Int
  | [] => none
  | x :: xs => some (xs.foldl (fun a b => if b > a then b else a) x)
def minI : List Int → Option Int
  | [] => none
  | x :: xs => some (xs.foldl (fun a b => if b < a then b else a) x)
theorem foldMax (xs : List Int) : ∀ x : Int, x ≤ xs.foldl (fun a b => if b > a then b else a) x ∧ (∀ y ∈ xs, y ≤ xs.foldl (fun a b => if b > a then b else a) x) ∧ (xs.foldl (fun a b => if b > a then b else a) x = x ∨ xs.foldl (fun a b => if b > a then b else a) x ∈ xs) := by
  induction xs with
  | nil => intro x; exact ⟨Int.le_refl _, by simp, .inl rfl⟩
  | cons y ys ih =>
    intro x
    simp only [List.foldl_cons]
    by_cases hc : y > x
    · rw [if_pos hc]
      obtain ⟨h1, h2, h3⟩ := ih y
      refine ⟨by omega, fun z hz => (List.mem_cons.mp hz).elim (fun e => by omega) (h2 z), .inr ?_⟩
      exact h3.elim (fun e => by rw [e]; simp) (List.mem_cons_of_mem _)
    · rw [if_neg hc]
      obtain ⟨h1, h2, h3⟩ := ih x
      exact ⟨h1, fun z hz => (List.mem_cons.mp hz).elim (fun e => by omega) (h2 z), h3.imp id (List.mem_cons_of_mem _)⟩
theorem foldMin (xs : List Int) : ∀ x : Int, xs.foldl (fun a b => if b < a then b else a) x ≤ x ∧ (∀ y ∈ xs, xs.foldl (fun a b => if b < a then b else a) x ≤ y) ∧ (xs.foldl (fun a b => if b < a then b else a) x = x ∨ xs.foldl (fun a b => if b < a then b else a) x ∈ xs) := by
  induction xs with
  | nil => intro x; exact ⟨Int.le_refl _, by simp, .inl rfl⟩
  | cons y ys ih =>
    intro x
    simp only [List.foldl_cons]
    by_cases hc : y < x
    · rw [if_pos hc]
      obtain ⟨h1, h2, h3⟩ := ih y
      refine ⟨by omega, fun z hz => (List.mem_cons.mp hz).elim (fun e => by omega) (h2 z), .inr ?_⟩
      exact h3.elim (fun e => by rw [e]; simp) (List.mem_cons_of_mem _)
    · rw [if_neg hc]
      obtain ⟨h1, h2, h3⟩ := ih x
      exact ⟨h1, fun z hz => (List.mem_cons.mp hz).elim (fun e => by omega) (h2 z), h3.imp id (List.mem_cons_of_mem _)⟩
theorem maxI_is {ns : List Int} {m m' : Int} (h : maxI ns = some m) (h1 : m' ∈ ns) (h2 : ∀ y ∈ ns, y ≤ m') : m' = m := by
  cases ns with
  | nil => cases h
  | cons x xs =>
    cases h
    obtain ⟨g1, g2, g3⟩ := foldMax xs x
    have a : m' ≤ _ := (List.mem_cons.mp h1).elim (fun e => by rw [e]; exact g1) (g2 m')
    have b : _ ≤ m' := g3.elim (fun e => by rw [e]; exact h2 x (by simp)) fun e => h2 _ (List.mem_cons_of_mem _ e)
    omega
theorem minI_is {ns : List Int} {m m' : Int} (h : minI ns = some m) (h1 : m' ∈ ns) (h2 : ∀ y ∈ ns, m' ≤ y) : m' = m := by
  cases ns with
  | nil => cases h
  | cons x xs =>
    cases h
    obtain ⟨g1, g2, g3⟩ := foldMin xs x
    have a : _ ≤ m' := (List.mem_cons.mp h1).elim (fun e => by rw [e]; exact g1) (g2 m')
    have b : m' ≤ _ := g3.elim (fun e => by rw [e]; exact h2 x (by simp)) fun e => h2 _ (List.mem_cons_of_mem _ e)
    omega
def max1L : List T → Option T
  | [.lst xs] => (nums xs).bind fun ns => (maxI ns).map .int
  | _ => none
def min1L : List T → Option T
  | [.lst xs] => (nums xs).bind fun ns => (minI ns).map .int
  | _ => none
theorem b_max1 : BOk X.K .f (rMax X.K) max1L := fun S H vs ts w Q hs p e z => by
  unfold max1L at e
  split at e
  · obtain ⟨ns, e1, e2⟩ := Option.bind_eq_some_iff.mp e
    obtain ⟨m, e3, rfl⟩ := Option.map_eq_some_iff.mp e2
    obtain ⟨v, rfl, q⟩ := one_w p
    obtain ⟨a, xs, rfl, h, r⟩ := q.lst
    have l0 : 0 < ns.length := by cases ns with | nil => cases e3 | cons _ _ => simp
    exact ⟨a, ns, rfl, by rw [← nums_v r e1]; exact SqL.of h, l0, fun m' h1 h2 => by rw [maxI_is e3 h1 h2]; exact z _ _ (Same.refl _) (one_int _)⟩
  · cases e
theorem b_min1 : BOk X.K .f (rMin X.K) min1L := fun S H vs ts w Q hs p e z => by
  unfold min1L at e
  split at e
  · obtain ⟨ns, e1, e2⟩ := Option.bind_eq_some_iff.mp e
    obtain ⟨m, e3, rfl⟩ := Option.map_eq_some_iff.mp e2
    obtain ⟨v, rfl, q⟩ := one_w p
    obtain ⟨a, xs, rfl, h, r⟩ := q.lst
    have l0 : 0 < ns.length := by cases ns with | nil => cases e3 | cons _ _ => simp
    exact ⟨a, ns, rfl, by rw [← nums_v r e1]; exact SqL.of h, l0, fun m' h1 h2 => by rw [minI_is e3 h1 h2]; exact z _ _ (Same.refl _) (one_int _)⟩
  · cases e
theorem e_max1 {p : Pos} (cn : Cn X W k) (hm : X.mg "max" = none) (ha : PE X e (tG .w X.K S0 H0 W d)) (hg : Gl X "max" := by rfl) (hs : starEach [e] X.env = (false, eval e X.env) :: starEach [] X.env := by rfl) :
    PE X (.Call (.Name "max" p) [e] [] pos) (tG .f X.K S0 H0 W (dBlt max1L (dCons d dNil))) := e_blt (cr_max cn.calm) b_max1 hm (by decide +kernel) (w_cons ha w_nil hs) hg (he := hs)
theorem e_min1 {p : Pos} (cn : Cn X W k) (hm : X.mg "min" = none) (ha : PE X e (tG .w X.K S0 H0 W d)) (hg : Gl X "min" := by rfl) (hs : starEach [e] X.env = (false, eval e X.env) :: starEach [] X.env := by rfl) :
    PE X (.Call (.Name "min" p) [e] [] pos) (tG .f X.K S0 H0 W (dBlt min1L (dCons d dNil))) := e_blt (cr_min cn.calm) b_min1 hm (by decide +kernel) (w_cons ha w_nil hs) hg (he := hs)
end
end DL

set_option maxHeartbeats 4000000
/-! sorted, sets of numbers that a list holds -/
namespace DL
open PySem PySem.Spec PyProof.Rows L2
/-- the empty set as it is made, and the heap behind its making -/
abbrev eSet (w : World) : Obj := { cls := .type "set", dict := none, data := .set #[] 0 (.fresh 0 0 (!w.params.followText "set-order")) }
abbrev hSet (w : World) (h : Heap) : Heap := h.push (eSet w)
section
variable {P : Program} {w : World} {A : Around} {E : Value → Shared → Prop} {s : Shared}
/-- what set(xs) leaves: the members, and all that was -/
def SetGot (w : World) (s : Shared) (ns : List Int) (h : Heap) : Prop := (∃ c, c ≤ ns.length ∧ SetR w h s.heap.objs.size (fun j => decide (j ∈ ns)) c) ∧ ∀ b o, s.heap.get? b = some o → h.get? b = some o
theorem set_list_ints {l : Addr} {vs : Array Value} (ns : List Int) {Q : Value → Shared → Prop} (calm : A.handled = none) (isl : s.heap.IsList l vs) (iv : IntsAre vs.toList ns) (few : ns.length + 1 < scanBound)
    (fin : ∀ (h : Heap) (tk : Nat), SetGot w s ns h → Q (.ref s.heap.objs.size) { s with heap := h, toks := tk }) :
    wpAny (model P w) A (call (.type "set") [.ref l]) Q E s := by
  have sz : vs.size = ns.length := by rw [← Array.length_toList]; exact IntsAre.length iv
  obtain ⟨c1, tl1, mro1⟩ := F.called_set.mro
  have k1 := F.called_set.made
  have k2 := F.called_set.sub
  have k3 := F.called_set.notType
  have k4 := F.called_set.canCreate
  have k5 := F.typeCall_set_1 (.ref l)
  refine wpAny_call (codeAny_of_tree ?_)
  show wpAny _ _ (callAny (.type "set") _) _ _ _
  refine wpAny_pure ⟨Code.quiet_builtin _ (by decide +kernel), codeAny_builtin F.entry_type_call ?_⟩
  rw [Around.under_plain (weight_type_call_type "set" [.ref l] []) rfl]
  repeat any_goals first | assumption | wp_step
  have mk := code_set_led1 (P := P) (w := w) (A := A.in1) (s := s) (.ref l) (E := E) (Q₁ := fun v t => v = .ref s.heap.objs.size ∧ t = { s with heap := hSet w s.heap }) ⟨rfl, rfl⟩
  refine codeAny_mono mk fun r t hr => ?_
  cases r with
  | error e => exact hr
  | ok fl =>
    cases fl with
    | ret obj =>
      obtain ⟨e1, e2⟩ := hr
      subst e1 e2
      have at0 : (hSet w s.heap).get? s.heap.objs.size = some (eSet w) := Heap.get?_push_size _ rfl
      have ty0 : Shared.TypeIs { s with heap := hSet w s.heap } (.ref s.heap.objs.size) "set" := ⟨_, at0, rfl⟩
      have i1 := F.called_set.init.lookup
      have i2 := F.called_set.init.bind (.ref s.heap.objs.size)
      repeat any_goals first | assumption | wp_step
      refine codeAny_mono (codeAny_call_builtin (R := wants (fun v t => v = .none ∧ ∃ h tk, t = { s with heap := h, toks := tk } ∧ SetGot w s ns h) E) F.called_set.init.plain F.entry_set_init (check_set_init_1 ty0 ?body)) fun r2 t2 h2 => ?_
      case body =>
        obtain ⟨⟨cl, di, da, sl⟩, lo, lc, ln, ld⟩ := isl
        have lc : cl = .type "list" := lc
        have ld : da = .seq vs ln := ld
        subst lc ld
        have lt : l < s.heap.objs.size := Heap.lt_size lo
        have lo1 : (hSet w s.heap).get? l = some { cls := .type "list", dict := di, data := .seq vs ln, slots := sl } := Heap.get?_push_of_some _ lo
        have s1 := F.sub_list_set
        have s2 := F.sub_list_frozenset
        have nd : (Value.type "list" == Value.type "dict") = false := by decide
        have isl1 : (hSet w s.heap).IsList l vs := ⟨_, lo1, rfl, ln, rfl⟩
        have sz1 : (hSet w s.heap).objs.size = s.heap.objs.size + 1 := Heap.size_push ..
        unfold Builtin.«set.__init__» noKeywords Builtin.Frozenset.updateFrom
        generalize hit : pyIter = it
        wp_walk
        subst hit
        refine wpAny_pyIter_list isl1 (wpAny_bind (wpAny_runValue ?_))
        have calm3 : A.in1.in1.in1.handled = none := by simp [calm]
        have vals : ∀ (i : Nat) (v : Value), vs[i]? = some v → ∃ k t, ns[i]? = some k ∧ v = .int k t := fun i v hv => by
          have hi : i < ns.length := by rw [← sz]; exact (Array.getElem?_eq_some_iff.mp hv).1
          obtain ⟨t, e⟩ := IntsAre.int_at iv i v (by rw [Array.getElem?_toList, hv])
          have en : ns[i]? = some ns[i] := List.getElem?_eq_getElem hi
          exact ⟨ns[i], t, en, by rw [e, List.getD_eq_getElem?_getD, en]; rfl⟩
        have n1 : l ≠ (hSet w s.heap).objs.size := fun z => Nat.lt_irrefl l (Nat.lt_of_lt_of_le lt (by rw [z, sz1]; exact Nat.le_succ _))
        have n2 : s.heap.objs.size ∉ [(hSet w s.heap).objs.size, l] := fun z => by
          rcases List.mem_cons.mp z with z | z
          · rw [sz1] at z; exact Nat.succ_ne_self _ z.symm
          · rw [List.mem_singleton.mp z] at lt; exact Nat.lt_irrefl _ lt
        refine set_update_ints ((Walks.list calm3 _ l n1 vs).toS) s.heap.objs.size n2 ns sz few vals (vs.size - 0) 0 _ (by omega) (Nat.zero_le _) ⟨⟨_, Heap.get?_push_size _ rfl, rfl, rfl⟩, isl1.push _⟩ ?first ?last
        case first =>
          exact ⟨0, Nat.le_refl 0, setR_new_at (Heap.get?_push_of_some _ at0)⟩
        case last =>
          intro t c mv hc got
          obtain ⟨h3, g3, d3, k3', o3⟩ := t
          have eg : g3 = s.gens := mv.gens
          have ed : d3 = s.drawn := mv.drawn
          have eo : o3 = s.os := mv.os
          subst eg ed eo
          show wpAny _ _ _ _ _ _
          refine wpAny_pure ?_
          show wpAny _ _ (ret Value.none) _ _ _
          refine wpAny_pure ⟨rfl, h3, k3', rfl, ⟨c, by omega, got⟩, fun b o e => ?_⟩
          have lb : b < s.heap.objs.size := Heap.lt_size e
          refine mv.heap b o ?_ (Heap.get?_push_of_some _ (Heap.get?_push_of_some _ e))
          intro z
          rcases List.mem_cons.mp z with z | z
          · exact Nat.lt_irrefl _ (z ▸ lb)
          · have z := List.mem_singleton.mp z
            rw [sz1] at z
            rw [z] at lb
            exact Nat.lt_irrefl _ (Nat.lt_of_succ_lt lb)
      cases r2 with
      | error e => exact h2
      | ok fl2 =>
        cases fl2 with
        | ret v =>
          obtain ⟨e1, h3, k3', e2, got⟩ := h2
          subst e1 e2
          repeat any_goals first | assumption | wp_step
          exact fin _ _ got
        | _ => exact h2.elim
    | _ => exact hr.elim
end
end DL

set_option maxHeartbeats 2000000
/-! sorted(xs), sorted(set(xs)): rules -/
namespace DL
open PySem PySem.Spec PyProof.Rows L2
/-! ### what is sorted -/
theorem insI_perm (x : Int) : ∀ xs : List Int, (insI x xs).Perm (x :: xs)
  | [] => List.Perm.refl _
  | y :: ys => by
    show (if x ≤ y then x :: y :: ys else y :: insI x ys).Perm _
    split
    · exact List.Perm.refl _
    · exact ((insI_perm x ys).cons y).trans (List.Perm.swap x y ys)
theorem sortI_perm : ∀ xs : List Int, (sortI xs).Perm xs
  | [] => List.Perm.refl _
  | x :: xs => (insI_perm x (sortI xs)).trans ((sortI_perm xs).cons x)
theorem insI_le {x : Int} : ∀ {xs : List Int}, xs.Pairwise (· ≤ ·) → (insI x xs).Pairwise (· ≤ ·)
  | [], _ => by simp [insI]
  | y :: ys, h => by
    obtain ⟨h1, h2⟩ := List.pairwise_cons.mp h
    show (if x ≤ y then x :: y :: ys else y :: insI x ys).Pairwise _
    split
    · rename_i hx
      refine List.pairwise_cons.mpr ⟨fun z hz => ?_, h⟩
      rcases List.mem_cons.mp hz with e | e
      · rw [e]; exact hx
      · exact Int.le_trans hx (h1 z e)
    · rename_i hx
      refine List.pairwise_cons.mpr ⟨fun z hz => ?_, insI_le h2⟩
      rcases List.mem_cons.mp ((insI_perm x ys).mem_iff.mp hz) with e | e
      · rw [e]; omega
      · exact h1 z e
theorem sortI_le : ∀ xs : List Int, (sortI xs).Pairwise (· ≤ ·)
  | [] => List.Pairwise.nil
  | x :: xs => insI_le (sortI_le xs)
theorem sortI_is {xs ys : List Int} (p : ys.Perm xs) (h : ys.Pairwise (· ≤ ·)) : ys = sortI xs :=
  List.Perm.eq_of_pairwise (le := (· ≤ ·)) (fun a b _ _ h1 h2 => Int.le_antisymm h1 h2) h (sortI_le xs) (p.trans (sortI_perm xs).symm)
theorem dedI_mem (x : Int) : ∀ xs : List Int, x ∈ dedI xs ↔ x ∈ xs
  | [] => Iff.rfl
  | y :: ys => by
    show x ∈ (if y ∈ ys then dedI ys else y :: dedI ys) ↔ _
    split
    · rename_i h
      rw [dedI_mem x ys, List.mem_cons]
      exact ⟨.inr, fun z => z.elim (fun e => by rw [e]; exact h) id⟩
    · rw [List.mem_cons, List.mem_cons, dedI_mem x ys]
theorem dedI_nodup : ∀ xs : List Int, (dedI xs).Nodup
  | [] => List.Pairwise.nil
  | y :: ys => by
    show (if y ∈ ys then dedI ys else y :: dedI ys).Nodup
    split
    · exact dedI_nodup ys
    · rename_i h
      exact List.nodup_cons.mpr ⟨fun z => h ((dedI_mem y ys).mp z), dedI_nodup ys⟩
theorem sset_is {xs ys : List Int} (h : ys.Pairwise (· < ·)) (m : ∀ k, k ∈ ys ↔ k ∈ xs) : ys = sortI (dedI xs) := by
  have nd : ys.Nodup := List.Pairwise.imp (fun {a b} (z : a < b) e => by omega) h
  refine sortI_is ((List.perm_ext_iff_of_nodup nd (dedI_nodup xs)).mpr fun k => ?_) (List.Pairwise.imp (fun {a b} z => Int.le_of_lt z) h)
  rw [dedI_mem, m]
/-! ### tuples -/
def bigB : Int := 1000000000000000000000000000000
theorem insL_perm (x : List Int) : ∀ xs : List (List Int), (insL x xs).Perm (x :: xs)
  | [] => List.Perm.refl _
  | y :: ys => by
    show (if lexLe x y = true then x :: y :: ys else y :: insL x ys).Perm _
    split
    · exact List.Perm.refl _
    · exact ((insL_perm x ys).cons y).trans (List.Perm.swap x y ys)
theorem sortL_perm : ∀ xs : List (List Int), (sortL xs).Perm xs
  | [] => List.Perm.refl _
  | x :: xs => (insL_perm x (sortL xs)).trans ((sortL_perm xs).cons x)
theorem lex_code {d : Nat} : ∀ {x y : List Int}, x.length = d → y.length = d → TS.Bd bigB x → TS.Bd bigB y → (lexLe x y = true ↔ TS.code bigB x ≤ TS.code bigB y) := by
  induction d with
  | zero =>
    intro x y h1 h2 _ _
    have e1 := List.length_eq_zero_iff.mp h1
    have e2 := List.length_eq_zero_iff.mp h2
    subst e1 e2
    exact ⟨fun _ => Int.le_refl _, fun _ => rfl⟩
  | succ d ih =>
    intro x y h1 h2 b1 b2
    match x, y, h1, h2 with
    | a :: r, b :: q, h1, h2 =>
      have l1 : r.length = d := by simpa using h1
      have l2 : q.length = d := by simpa using h2
      have c1 : TS.Bd bigB r := fun m hm => b1 m (by simp [hm])
      have c2 : TS.Bd bigB q := fun m hm => b2 m (by simp [hm])
      show (if a = b then lexLe r q else decide (a < b)) = true ↔ _
      by_cases e : a = b
      · subst e
        rw [if_pos rfl, ih l1 l2 c1 c2]
        have := TS.code_same (B := bigB) (d := a) (r := q) (q := r) (by omega)
        constructor
        · intro h; exact Int.not_lt.mp fun z => absurd (this.mp z) (by omega)
        · intro h; exact Int.not_lt.mp fun z => absurd (this.mpr z) (by omega)
      · rw [if_neg e, decide_eq_true_iff]
        constructor
        · intro h; exact Int.le_of_lt (TS.code_lt (by omega) c1 c2 h)
        · intro h
          rcases Int.lt_trichotomy a b with c | c | c
          · exact c
          · exact absurd c e
          · have := TS.code_lt (B := bigB) (show q.length = r.length by omega) c2 c1 c
            omega
theorem code_eq {d : Nat} {x y : List Int} (h1 : x.length = d) (h2 : y.length = d) (b1 : TS.Bd bigB x) (b2 : TS.Bd bigB y) (h : TS.code bigB x = TS.code bigB y) : x = y := by
  induction d generalizing x y with
  | zero => rw [List.length_eq_zero_iff.mp h1, List.length_eq_zero_iff.mp h2]
  | succ d ih =>
    match x, y, h1, h2 with
    | a :: r, b :: q, h1, h2 =>
      have l1 : r.length = d := by simpa using h1
      have l2 : q.length = d := by simpa using h2
      have c1 : TS.Bd bigB r := fun m hm => b1 m (by simp [hm])
      have c2 : TS.Bd bigB q := fun m hm => b2 m (by simp [hm])
      rcases Int.lt_trichotomy a b with c | c | c
      · have := TS.code_lt (B := bigB) (show r.length = q.length by omega) c1 c2 c; omega
      · subst c
        have s1 := TS.code_same (B := bigB) (d := a) (r := r) (q := q) (by omega)
        have s2 := TS.code_same (B := bigB) (d := a) (r := q) (q := r) (by omega)
        have : TS.code bigB r = TS.code bigB q := by
          rcases Int.lt_trichotomy (TS.code bigB r) (TS.code bigB q) with k | k | k
          · have := s1.mpr k; omega
          · exact k
          · have := s2.mpr k; omega
        rw [ih l1 l2 c1 c2 this]
      · have := TS.code_lt (B := bigB) (show q.length = r.length by omega) c2 c1 c; omega
def FitL (d : Nat) (kss : List (List Int)) : Prop := ∀ ks ∈ kss, ks.length = d ∧ TS.Bd bigB ks
theorem insL_code {d : Nat} {x : List Int} (hx : x.length = d ∧ TS.Bd bigB x) : ∀ {xs : List (List Int)}, FitL d xs → xs.Pairwise (fun a b => TS.code bigB a ≤ TS.code bigB b) → (insL x xs).Pairwise fun a b => TS.code bigB a ≤ TS.code bigB b
  | [], _, _ => by simp [insL]
  | y :: ys, f, h => by
    obtain ⟨h1, h2⟩ := List.pairwise_cons.mp h
    have fy := f y (by simp)
    have lc := lex_code hx.1 fy.1 hx.2 fy.2
    show (if lexLe x y = true then x :: y :: ys else y :: insL x ys).Pairwise _
    split
    · rename_i hl
      refine List.pairwise_cons.mpr ⟨fun z hz => ?_, h⟩
      rcases List.mem_cons.mp hz with e | e
      · rw [e]; exact lc.mp hl
      · exact Int.le_trans (lc.mp hl) (h1 z e)
    · rename_i hl
      refine List.pairwise_cons.mpr ⟨fun z hz => ?_, insL_code hx (fun k hk => f k (by simp [hk])) h2⟩
      rcases List.mem_cons.mp ((insL_perm x ys).mem_iff.mp hz) with e | e
      · rw [e]
        exact Int.not_lt.mp fun z => hl (lc.mpr (Int.le_of_lt z))
      · exact h1 z e
theorem sortL_code {d : Nat} : ∀ {xs : List (List Int)}, FitL d xs → (sortL xs).Pairwise fun a b => TS.code bigB a ≤ TS.code bigB b
  | [], _ => List.Pairwise.nil
  | x :: xs, f => insL_code (f x (by simp)) (fun k hk => f k (by simp [(sortL_perm xs).mem_iff.mp hk])) (sortL_code fun k hk => f k (by simp [hk]))
theorem sortL_is {d : Nat} {xs ys : List (List Int)} (f : FitL d xs) (p : ys.Perm xs) (h : ys.Pairwise fun a b => TS.code bigB a ≤ TS.code bigB b) : ys = sortL xs :=
  List.Perm.eq_of_pairwise (le := fun a b => TS.code bigB a ≤ TS.code bigB b) (fun a b ha hb h1 h2 => by
    have fa := f a (p.mem_iff.mp ha)
    have fb := f b ((sortL_perm xs).mem_iff.mp hb)
    exact code_eq fa.1 fb.1 fa.2 fb.2 (Int.le_antisymm h1 h2)) h (sortL_code f) (p.trans (sortL_perm xs).symm)
theorem nums_cons' {i : Int} {ts : List T} : nums (.int i :: ts) = (nums ts).map (i :: ·) := Eq.trans rfl rfl
theorem nums_of : ∀ ks : List Int, nums (ks.map T.int) = some ks
  | [] => rfl
  | k :: ks => by rw [List.map_cons, nums_cons', nums_of ks]; rfl
def encTup (ks : List Int) : T := .tup (ks.map .int)
theorem tups_is : ∀ {ts : List T} {kss : List (List Int)}, tups ts = some kss → ts = kss.map encTup
  | [], kss, h => by unfold tups at h; cases h; rfl
  | .tup us :: ts, kss, h => by
    unfold tups at h
    cases e1 : nums us with
    | none => rw [e1] at h; cases h
    | some ks =>
      cases e2 : tups ts with
      | none => rw [e1, e2] at h; cases h
      | some k2 =>
        rw [e1, e2] at h
        cases h
        rw [List.map_cons, tups_is e2]
        have : us = ks.map .int := by
          clear e2
          induction us generalizing ks with
          | nil => unfold nums at e1; cases e1; rfl
          | cons u us ih =>
            cases u with
            | int i =>
              rw [nums_cons'] at e1
              cases e3 : nums us with
              | none => rw [e3] at e1; cases e1
              | some z => rw [e3] at e1; cases e1; rw [List.map_cons, ih _ e3]
            | _ => unfold nums at e1; cases e1
        rw [this]; rfl
  | .non :: _, _, h => by unfold tups at h; cases h
  | .bl _ :: _, _, h => by unfold tups at h; cases h
  | .int _ :: _, _, h => by unfold tups at h; cases h
  | .str _ :: _, _, h => by unfold tups at h; cases h
  | .lst _ :: _, _, h => by unfold tups at h; cases h
  | .dic _ :: _, _, h => by unfold tups at h; cases h
  | .dit _ :: _, _, h => by unfold tups at h; cases h
  | .exc _ _ :: _, _, h => by unfold tups at h; cases h
  | .scr _ :: _, _, h => by unfold tups at h; cases h
  | .ob _ :: _, _, h => by unfold tups at h; cases h
section
variable {K : PySem.W.Frag} {S : Addr → Prop} {H : Hp}
theorem perm_ts {xs ys : List V} (p : ys.Perm xs) : ∀ {kss : List (List Int)}, IsTs K S H xs (kss.map encTup) → ∃ kss' : List (List Int), kss'.Perm kss ∧ IsTs K S H ys (kss'.map encTup) := by
  induction p with
  | nil => exact fun {kss} h => ⟨kss, List.Perm.refl _, h⟩
  | cons x p ih =>
    intro kss h
    match kss, h with
    | k :: ks, .cons h r =>
      obtain ⟨k', p', r'⟩ := ih r
      exact ⟨k :: k', p'.cons k, .cons h r'⟩
  | swap x y l =>
    intro kss h
    match kss, h with
    | k :: k2 :: ks, .cons h (.cons h2 r) => exact ⟨k2 :: k :: ks, List.Perm.swap k k2 ks, .cons h2 (.cons h r)⟩
  | trans p q ih1 ih2 =>
    intro kss h
    obtain ⟨k1, p1, r1⟩ := ih2 h
    obtain ⟨k2, p2, r2⟩ := ih1 r1
    exact ⟨k2, p2.trans p1, r2⟩
theorem tup_of {x : V} {ks : List Int} (h : IsT K S H x (encTup ks)) : TupI K H x ks := by
  unfold encTup at h
  cases h with
  | @tup a xs ts n r =>
    have : xs = ks.map V.int := nums_v r (nums_of ks)
    subst this
    exact ⟨a, rfl, n.sq⟩
theorem pw_of {R : List Int → List Int → Prop} : ∀ {ys : List V} {kss : List (List Int)}, IsTs K S H ys (kss.map encTup) → ys.Pairwise (fun x y => ∀ n m, TupI K H x n → TupI K H y m → R n m) → kss.Pairwise R
  | _, [], _, _ => List.Pairwise.nil
  | _, k :: ks, .cons h r, pw => by
    obtain ⟨h1, h2⟩ := List.pairwise_cons.mp pw
    refine List.pairwise_cons.mpr ⟨fun q hq => ?_, pw_of r h2⟩
    obtain ⟨i, hi⟩ := List.getElem?_of_mem (List.mem_map.mpr ⟨q, hq, rfl⟩ : encTup q ∈ ks.map encTup)
    obtain ⟨v, e, t⟩ := r.get hi
    exact h1 v (List.mem_of_getElem? e) k q (tup_of h) (tup_of t)
end
section
variable {X : Cx} {e : Expr} {S0 : Addr → Prop} {H0 : Hp} {W : WX} {d : Lo → R T} {pos : Pos} {k : Nat}
/-- sorted of numbers, or of tuples of numbers -/
def rSrt (K : PySem.W.Frag) : List V → Hp → VK → Prop := fun vs H Q => rSortedI K vs H Q ∨ ∃ d, 1 ≤ d ∧ rSortU K d bigB vs H Q
theorem cr_srt : CallR X (.builtin "sorted") (rSrt X.K) := fun pins s σ H xs us Q I r h => by
  rcases h with h | ⟨d, hd, h⟩
  · exact cr_sortedI pins s σ H xs us Q I r h
  · exact cr_sortT hd pins s σ H xs us Q I r h
theorem b_sorted1 : BOk X.K .f (rSrt X.K) sorted1L := fun S H vs ts w Q hs p e z => by
  unfold sorted1L at e
  split at e
  · rename_i ts
    obtain ⟨v, rfl, q⟩ := one_w p
    obtain ⟨a, xs, rfl, g, r⟩ := q.lst
    split at e
    · rename_i ns en
      cases e
      have := nums_v r en
      subst this
      refine .inl ⟨a, ns, rfl, .inl (.inl g), fun ns' p' pm pw hn => ?_⟩
      rw [sortI_is pm pw]
      exact z _ _ (same_upd hn) (new_lst hn (scr_ts _))
    · rename_i en
      cases et : tups ts with
      | none => rw [et] at e; cases e
      | some kss =>
        rw [et] at e
        obtain ⟨⟨hl, ho⟩, rfl⟩ := some_if (show (if kss.length < 64 ∧ okTups kss = true then some (T.lst ((sortL kss).map fun ks => .tup (ks.map .int))) else none) = some w from e)
        have := tups_is et
        subst this
        have fit : ∃ d, 1 ≤ d ∧ FitL d kss := by
          cases kss with
          | nil => exact ⟨1, Nat.le_refl _, fun ks h => by cases h⟩
          | cons k0 kr =>
            unfold okTups at ho
            simp only [Bool.and_eq_true, decide_eq_true_eq, List.all_eq_true, beq_iff_eq] at ho
            exact ⟨k0.length, ho.1, fun ks hk => ⟨(ho.2 ks hk).1, fun m hm => (ho.2 ks hk).2 m hm⟩⟩
        obtain ⟨d, hd, fit⟩ := fit
        refine .inr ⟨d, hd, a, xs, rfl, .inl (.inl g), by rw [r.len, List.length_map]; exact hl, fun x hx => ?_, fun ys p' pm pw hn => ?_⟩
        · obtain ⟨i, hi⟩ := List.getElem?_of_mem hx
          obtain ⟨t, et, ht⟩ := r.getv hi
          obtain ⟨ks, hk, rfl⟩ := List.mem_map.mp (List.mem_of_getElem? et)
          exact ⟨ks, tup_of ht, fit ks hk⟩
        · obtain ⟨kss', p2, r2⟩ := perm_ts pm r
          have := sortL_is fit p2 (pw_of (R := fun n m => TS.code bigB n ≤ TS.code bigB m) r2 pw)
          subst this
          exact z _ _ (same_upd hn) (new_lst hn r2)
  · cases e
theorem e_sorted1 {p : Pos} (cn : Cn X W k) (hm : X.mg "sorted" = none) (ha : PE X e (tG .w X.K S0 H0 W d)) (hg : Gl X "sorted" := by rfl) (hs : starEach [e] X.env = (false, eval e X.env) :: starEach [] X.env := by rfl) :
    PE X (.Call (.Name "sorted" p) [e] [] pos) (tG .f X.K S0 H0 W (dBlt sorted1L (dCons d dNil))) := e_blt cr_srt b_sorted1 hm (by decide +kernel) (w_cons ha w_nil hs) hg (he := hs)
/-- set(xs) -/
def rSetL (K : PySem.W.Frag) (w : World) : List V → Hp → VK → Prop := fun xs H Q => ∃ (l : Addr) (ns : List Int), xs = [.ref l] ∧ SqL K H l (ns.map V.int) ∧ ns.length ≤ 4000 ∧
  ∀ a c, c = (dedI ns).length → H a = none → Q (.ref a) (upd H a (SetO w a (fun j => decide (j ∈ ns)) c))
theorem setR_len {w : World} {h : Heap} {a : Addr} {ns : List Int} {c : Nat} (R : SetR w h a (fun j => decide (j ∈ ns)) c) : c = (dedI ns).length := by
  obtain ⟨o, es, ep, t, ho, hx, hd, hg, nd, hm, hb, hf, hn, _⟩ := R
  have pm : (es.toList.map keyOf).Perm (dedI ns) := (List.perm_ext_iff_of_nodup nd (dedI_nodup ns)).mpr fun k => by
    rw [dedI_mem, ← hm k, decide_eq_true_iff]
  rw [← pm.length_eq, List.length_map, Array.length_toList, hn]
theorem cr_setL (hc : X.calm = true) : CallR X (.type "set") (rSetL X.K X.w) := by
  intro pins s σ H xs us Q I r h
  obtain ⟨l, ns, rfl, hl, few, q⟩ := h
  rw [Vals.ref1 r]
  obtain ⟨its, rv, pl, hz⟩ := I.list hl
  refine set_list_ints (P := X.prog) (w := X.w) ns (I.ok.hd hc) pl.isList (ints_of_vals rv) (by unfold scanBound; omega) fun h tk got => ?_
  obtain ⟨⟨c, hcn, R⟩, keep⟩ := got
  exact ⟨.ref s.heap.objs.size, _, I.laid (t' := tk) keep (Nat.le_refl _) (setO_new R), rfl, q _ c (setR_len R) (I.hok.fresh (Nat.le_refl _))⟩
theorem e_sset {p p2 q : Pos} (cn : Cn X W k) (hm : X.mg "sorted" = none) (hm2 : X.mg "set" = none) (ha : PE X e (tG .w X.K S0 H0 W d)) (hg : Gl X "sorted" := by rfl) (hg2 : Gl X "set" := by rfl)
    (hs : starEach [e] X.env = (false, eval e X.env) :: starEach [] X.env := by rfl)
    (hs2 : starEach [Expr.Call (.Name "set" p2) [e] [] q] X.env = (false, eval (Expr.Call (.Name "set" p2) [e] [] q) X.env) :: starEach [] X.env := by rfl) :
    PE X (.Call (.Name "sorted" p) [.Call (.Name "set" p2) [e] [] q] [] pos) (tG .f X.K S0 H0 W (dBlt ssetL (dCons d dNil))) := by
  refine pe_imp (pe_callB (cr_sortedSet cn.calm) hg hm (by decide +kernel) (pa_cons (pe_callTy (cr_setL cn.calm) hg2 hm2 (by decide +kernel) (w_cons ha w_nil hs) (he := hs)) pa_nil hs2) (he := hs2)) ?_
  intro σ H Q ⟨ev, ps, r, z⟩
  refine ⟨ev, ps, r, R.on_mono (R.on_bind z) (fun ts q0 vs H1 s1 p1 => ?_) fun _ _ q => q⟩
  cases ew : ssetL ts with
  | none => rw [ew] at q0; exact q0.elim
  | some w =>
    rw [ew] at q0
    unfold ssetL at ew
    split at ew
    · rename_i ts
      obtain ⟨v, rfl, qv⟩ := one_w p1
      obtain ⟨a, xs, rfl, g, rr⟩ := qv.lst
      cases en : nums ts with
      | none => rw [en] at ew; cases ew
      | some ns =>
        rw [en] at ew
        obtain ⟨⟨hl, hd⟩, rfl⟩ := some_if (show (if ns.length ≤ 4000 ∧ (dedI ns).length < 64 then some (T.lst ((sortI (dedI ns)).map .int)) else none) = some w from ew)
        have := nums_v rr en
        subst this
        refine ⟨a, ns, rfl, .inl (.inl g), hl, fun b c hcl hn => ?_⟩
        refine ⟨b, _, c, rfl, upd_same, by omega, fun ys p' pw hmem hlen hn' => ?_⟩
        have ey : ys = sortI (dedI ns) := sset_is pw fun k => by rw [hmem k, decide_eq_true_iff]
        rw [ey]
        refine q0 _ _ (s1.trans ((same_upd hn).trans (same_upd hn'))) ?_
        exact Pm.back (s1.trans (same_upd hn)) (new_lst hn' (scr_ts _))
    · cases ew
end
end DL

set_option maxHeartbeats 2000000
/-! x in range(n), list(range(..)), xs.reverse(), xs.clear(): rules -/
namespace DL
open PySem PySem.Spec PyProof.Rows L2
def inRng (g : Bool → Bool) : T → T → Option T
  | .int i, .int n => some (.bl (g (decide (0 ≤ i ∧ i < n))))
  | _, _ => none
def lstRng : List T → Option T
  | [.int i, .int j] => if -(2 ^ 62) ≤ i ∧ i < 2 ^ 62 ∧ -(2 ^ 62) ≤ j ∧ j < 2 ^ 62 ∧ (j - i).toNat ≤ 2 ^ 24 then some (.lst ((List.range (j - i).toNat).map fun (k : Nat) => .int (i + (k : Int)))) else none
  | _ => none
section
variable {X : Cx} {a b e : Expr} {es : List Expr} {S0 : Addr → Prop} {H0 : Hp} {W : WX} {d da db : Lo → R T} {ds : Lo → R (List T)} {pos : Pos} {k : Nat} {m : Md}
theorem cr_rng1 : CallR X (.type "range") (fun vs H Q => ∃ n, vs = [V.int n] ∧ ∀ p, H p = none → Q (.ref p) (upd H p (.rng 0 n))) := by
  intro pins s σ H vs us Q I r h
  obtain ⟨n, rfl, q⟩ := h
  obtain ⟨u, rfl, ru⟩ := vals1 r
  obtain ⟨t, rfl⟩ := ru
  refine call_range_1 ⟨.ref s.heap.objs.size, upd H s.heap.objs.size (.rng 0 n), I.laid (t' := s.toks + 1 + 1) (fun b o e => Heap.get?_push_of_some _ e) (Nat.le_refl _) ?_, rfl, q _ (I.hok.fresh (Nat.le_refl _))⟩
  exact ⟨s.toks, t, s.toks + 1, Heap.get?_push_size _ rfl⟩
theorem op_ninRng : OpR X (compareOp .NotIn) (fun x y H Q => ∃ i a lo hi, x = V.int i ∧ y = V.ref a ∧ H a = some (.rng lo hi) ∧ Q (.bl (!decide (lo ≤ i ∧ i < hi))) H) := by
  intro pins s σ H x y v u Q I rx ry ⟨i, a, lo, hi, e1, e2, ha, q⟩
  subst e1 e2
  obtain ⟨k, rfl⟩ := rx
  obtain rfl : u = Value.ref a := ry
  obtain ⟨t1, t2, t3, ho⟩ := I.hok a _ ha
  have ty : Shared.TypeIs s (.ref a) "range" := ⟨_, ho, rfl⟩
  show wpAny _ _ (do return Value.bool (!(← contains (Value.ref a) (Value.int i k)))) _ _ s
  refine wpAny_bind (wpAny_contains_slot ty F.slot_range_contains (call_meets F.slot_range_contains ty F.entry_range_contains (F.args_range_contains_2 _ _) (q_contains a lo hi i t1 t2 t3 k) ⟨ho, ?_⟩))
  exact wpAny_truthy_bool (wpAny_pure ⟨.bl _, H, I, rfl, by rw [place1]; exact q⟩)
theorem im_rng {g : Bool → Bool} {r : R2} (hr : ∀ i a n H Q, H a = some (.rng 0 n) → Q (V.bl (g (decide (0 ≤ i ∧ i < n)))) H → r (V.int i) (.ref a) H Q) :
    ∀ σ H Q, tG .f X.K S0 H0 W (d2 (inRng g) da db) σ H Q → tOp r (tG .w X.K S0 H0 W da) (tCB (fun vs H Q => ∃ n, vs = [V.int n] ∧ ∀ p, H p = none → Q (.ref p) (upd H p (.rng 0 n))) (tAw X.K S0 H0 W (dCons db dNil))) σ H Q := fun σ H Q ⟨ev, ps, r0, z⟩ => by
  refine ⟨ev, ps, r0, R.on_mono (R.on_bind z) (fun t q x H1 s1 p1 => ?_) fun _ _ q => q⟩
  refine ⟨ev, ps, r0.up s1, ?_⟩
  have q := R.on_bind q
  unfold dCons dNil
  cases eb : db ev with
  | bad => rw [eb] at q; exact q.elim
  | ex c fs => rw [eb] at q; exact fun cls dd H' s x => q cls dd H' (s1.trans s) x
  | ok u =>
    rw [eb] at q
    show ∀ vs H', Same H1 H' → IsWs X.K (Sx S0 σ ev) H' vs [u] → _
    intro vs H2 s2 p2
    obtain ⟨v, rfl, pv⟩ := one_w p2
    cases t with
    | int i =>
      cases u with
      | int n =>
        have q : ∀ v H', Same H H' → Pm X.K .f (Sx S0 σ ev) H H' v (.bl (g (decide (0 ≤ i ∧ i < n)))) → Q v H' := q
        have ex := p1.int
        have ev2 := pv.int
        subst ex ev2
        exact ⟨n, rfl, fun p hp => hr i p n _ _ upd_same (q _ _ (s1.trans (s2.trans (same_upd hp))) (one_bl _))⟩
      | _ => exact q.elim
    | _ => exact q.elim
theorem e_inRng {p : Pos} (ha : PE X a (tG .w X.K S0 H0 W da)) (hm : X.mg "range" = none) (hb : PE X b (tG .w X.K S0 H0 W db)) (hg : Gl X "range" := by rfl) (hs : starEach [b] X.env = (false, eval b X.env) :: starEach [] X.env := by rfl) {q : Pos} (hk : behindInMarks .In (Expr.Call (.Name "range" p) [b] [] q) = false := by rfl) :
    PE X (.Compare a [.In] [.Call (.Name "range" p) [b] [] q] pos) (tG .f X.K S0 H0 W (d2 (inRng id) da db)) :=
  pe_imp (pe_cmpR op_in_rng ha (pe_callTy cr_rng1 hg hm (by decide +kernel) (w_cons hb w_nil hs) (he := hs)) hk) (im_rng fun i a n H Q h q => ⟨i, a, 0, n, rfl, rfl, h, q⟩)
theorem e_ninRng {p : Pos} (ha : PE X a (tG .w X.K S0 H0 W da)) (hm : X.mg "range" = none) (hb : PE X b (tG .w X.K S0 H0 W db)) (hg : Gl X "range" := by rfl) (hs : starEach [b] X.env = (false, eval b X.env) :: starEach [] X.env := by rfl) {q : Pos} (hk : behindInMarks .NotIn (Expr.Call (.Name "range" p) [b] [] q) = false := by rfl) :
    PE X (.Compare a [.NotIn] [.Call (.Name "range" p) [b] [] q] pos) (tG .f X.K S0 H0 W (d2 (inRng not) da db)) :=
  pe_imp (pe_cmpR op_ninRng ha (pe_callTy cr_rng1 hg hm (by decide +kernel) (w_cons hb w_nil hs) (he := hs)) hk) (im_rng fun i a n H Q h q => ⟨i, a, 0, n, rfl, rfl, h, q⟩)
theorem t_inRng {p : Pos} (ha : PE X a (tG .w X.K S0 H0 W da)) (hm : X.mg "range" = none) (hb : PE X b (tG .w X.K S0 H0 W db)) (hg : Gl X "range" := by rfl) (hs : starEach [b] X.env = (false, eval b X.env) :: starEach [] X.env := by rfl) {q : Pos} (hk : behindInMarks .In (Expr.Call (.Name "range" p) [b] [] q) = false := by rfl) :
    PT X (.Compare a [.In] [.Call (.Name "range" p) [b] [] q] pos) (tB X.K S0 H0 W (dTest (d2 (inRng id) da db))) :=
  pt_imp (pt_cmpR op_in_rng ha (pe_callTy cr_rng1 hg hm (by decide +kernel) (w_cons hb w_nil hs) (he := hs)) hk) fun σ H Q ⟨ev, ps, r0, z⟩ => im_rng (fun i a n H Q h q => ⟨i, a, 0, n, rfl, rfl, h, q⟩) σ H _ ⟨ev, ps, r0, R.on_mono (R.on_bind z) (fun t q v H' s p => by
    cases t with
    | bl b => exact ⟨b, p.bl, q H' s⟩
    | _ => exact q.elim) fun _ _ q => q⟩
theorem t_ninRng {p : Pos} (ha : PE X a (tG .w X.K S0 H0 W da)) (hm : X.mg "range" = none) (hb : PE X b (tG .w X.K S0 H0 W db)) (hg : Gl X "range" := by rfl) (hs : starEach [b] X.env = (false, eval b X.env) :: starEach [] X.env := by rfl) {q : Pos} (hk : behindInMarks .NotIn (Expr.Call (.Name "range" p) [b] [] q) = false := by rfl) :
    PT X (.Compare a [.NotIn] [.Call (.Name "range" p) [b] [] q] pos) (tB X.K S0 H0 W (dTest (d2 (inRng not) da db))) :=
  pt_imp (pt_cmpR op_ninRng ha (pe_callTy cr_rng1 hg hm (by decide +kernel) (w_cons hb w_nil hs) (he := hs)) hk) fun σ H Q ⟨ev, ps, r0, z⟩ => im_rng (fun i a n H Q h q => ⟨i, a, 0, n, rfl, rfl, h, q⟩) σ H _ ⟨ev, ps, r0, R.on_mono (R.on_bind z) (fun t q v H' s p => by
    cases t with
    | bl b => exact ⟨b, p.bl, q H' s⟩
    | _ => exact q.elim) fun _ _ q => q⟩
def inRng2 (g : Bool → Bool) : List T → Option T
  | [.int i, .int lo, .int hi] => some (.bl (g (decide (lo ≤ i ∧ i < hi))))
  | _ => none
theorem im_rng2 {dl dh : Lo → R T} {g : Bool → Bool} {r : R2} (hr : ∀ i a lo hi H Q, H a = some (.rng lo hi) → Q (V.bl (g (decide (lo ≤ i ∧ i < hi)))) H → r (V.int i) (.ref a) H Q) :
    ∀ σ H Q, tG .f X.K S0 H0 W (dBlt (inRng2 g) (dCons da (dCons dl (dCons dh dNil)))) σ H Q → tOp r (tG .w X.K S0 H0 W da) (tCB (fun vs H Q => ∃ i j, vs = [V.int i, V.int j] ∧ ∀ p, H p = none → Q (.ref p) (upd H p (.rng i j))) (tAw X.K S0 H0 W (dCons dl (dCons dh dNil)))) σ H Q := fun σ H Q ⟨ev, ps, r0, z⟩ => by
  have z := R.on_bind z
  unfold dCons dNil at z
  refine ⟨ev, ps, r0, R.on_mono (R.on_bind z) (fun t q x H1 s1 p1 => ?_) fun _ _ q => q⟩
  refine ⟨ev, ps, r0.up s1, ?_⟩
  unfold dCons dNil
  cases el : dl ev with
  | bad => rw [el] at q; exact q.elim
  | ex c fs => rw [el] at q; exact fun cls dd H' s x => q cls dd H' (s1.trans s) x
  | ok u =>
    cases eh : dh ev with
    | bad => rw [el, eh] at q; exact q.elim
    | ex c fs => rw [el, eh] at q; exact fun cls dd H' s x => q cls dd H' (s1.trans s) x
    | ok v =>
      rw [el, eh] at q
      show ∀ vs H', Same H1 H' → IsWs X.K (Sx S0 σ ev) H' vs [u, v] → _
      intro vs H2 s2 p2
      obtain ⟨y1, y2, rfl, pu, pv⟩ := two_w p2
      have q : (ofO (inRng2 g [t, u, v])).on _ _ := q
      cases t with
      | int i =>
        cases u with
        | int lo =>
          cases v with
          | int hi =>
            have q : ∀ v H', Same H H' → Pm X.K .f (Sx S0 σ ev) H H' v (.bl (g (decide (lo ≤ i ∧ i < hi)))) → Q v H' := q
            have ex := p1.int
            have e1 := pu.int
            have e2 := pv.int
            subst ex e1 e2
            exact ⟨lo, hi, rfl, fun p hp => hr i p lo hi _ _ upd_same (q _ _ (s1.trans (s2.trans (same_upd hp))) (one_bl _))⟩
          | _ => exact q.elim
        | _ => exact q.elim
      | _ => exact q.elim
section
variable {lo hi : Expr} {dl dh : Lo → R T}
theorem e_ninRng2 {p : Pos} (ha : PE X a (tG .w X.K S0 H0 W da)) (hm : X.mg "range" = none) (hl : PE X lo (tG .w X.K S0 H0 W dl)) (hh : PE X hi (tG .w X.K S0 H0 W dh)) (hg : Gl X "range" := by rfl)
    (hs : starEach [lo, hi] X.env = (false, eval lo X.env) :: starEach [hi] X.env := by rfl) (hs2 : starEach [hi] X.env = (false, eval hi X.env) :: starEach [] X.env := by rfl) {q : Pos} (hk : behindInMarks .NotIn (Expr.Call (.Name "range" p) [lo, hi] [] q) = false := by rfl)
    (hpl : (backTo q (starEach [hi] X.env)).any (·.1) = false := by rfl) :
    PE X (.Compare a [.NotIn] [.Call (.Name "range" p) [lo, hi] [] q] pos) (tG .f X.K S0 H0 W (dBlt (inRng2 not) (dCons da (dCons dl (dCons dh dNil))))) :=
  pe_imp (pe_cmpR op_ninRng ha (pe_callTy cr_range2 hg hm (by decide +kernel) (w_cons hl (w_cons hh w_nil hs2) hs) (he := hs) (hpl := hpl)) hk) (im_rng2 fun i a lo hi H Q h q => ⟨i, a, lo, hi, rfl, rfl, h, q⟩)
theorem t_ninRng2 {p : Pos} (ha : PE X a (tG .w X.K S0 H0 W da)) (hm : X.mg "range" = none) (hl : PE X lo (tG .w X.K S0 H0 W dl)) (hh : PE X hi (tG .w X.K S0 H0 W dh)) (hg : Gl X "range" := by rfl)
    (hs : starEach [lo, hi] X.env = (false, eval lo X.env) :: starEach [hi] X.env := by rfl) (hs2 : starEach [hi] X.env = (false, eval hi X.env) :: starEach [] X.env := by rfl) {q : Pos} (hk : behindInMarks .NotIn (Expr.Call (.Name "range" p) [lo, hi] [] q) = false := by rfl)
    (hpl : (backTo q (starEach [hi] X.env)).any (·.1) = false := by rfl) :
    PT X (.Compare a [.NotIn] [.Call (.Name "range" p) [lo, hi] [] q] pos) (tB X.K S0 H0 W (dTest (dBlt (inRng2 not) (dCons da (dCons dl (dCons dh dNil)))))) :=
  pt_imp (pt_cmpR op_ninRng ha (pe_callTy cr_range2 hg hm (by decide +kernel) (w_cons hl (w_cons hh w_nil hs2) hs) (he := hs) (hpl := hpl)) hk) fun σ H Q ⟨ev, ps, r0, z⟩ => im_rng2 (fun i a lo hi H Q h q => ⟨i, a, lo, hi, rfl, rfl, h, q⟩) σ H _ ⟨ev, ps, r0, R.on_mono (R.on_bind z) (fun t q v H' s p => by
    cases t with
    | bl b => exact ⟨b, p.bl, q H' s⟩
    | _ => exact q.elim) fun _ _ q => q⟩
end
/-- list(range(a, b)) -/
theorem e_lstRng {p p2 q : Pos} (cn : Cn X W k) (hm : X.mg "list" = none) (hm2 : X.mg "range" = none) (ha : PE X a (tG .w X.K S0 H0 W da)) (hb : PE X b (tG .w X.K S0 H0 W db)) (hg : Gl X "list" := by rfl) (hg2 : Gl X "range" := by rfl)
    (hs : starEach [Expr.Call (.Name "range" p2) [a, b] [] q] X.env = (false, eval (Expr.Call (.Name "range" p2) [a, b] [] q) X.env) :: starEach [] X.env := by rfl) (na : starEach [a, b] X.env = (false, eval a X.env) :: starEach [b] X.env := by rfl)
    (nb : starEach [b] X.env = (false, eval b X.env) :: starEach [] X.env := by rfl) (hp : (backTo q (starEach [b] X.env)).any (·.1) = false := by rfl) :
    PE X (.Call (.Name "list" p) [.Call (.Name "range" p2) [a, b] [] q] [] pos) (tG .f X.K S0 H0 W (dBlt lstRng (dCons da (dCons db dNil)))) :=
  pe_imp (pe_listRg cn.calm hg hm (prg_2 hg2 hm2 ha hb na nb hp) hs) fun σ H Q ⟨ev, ps, r0, z⟩ => by
    have z := R.on_bind z
    unfold dCons dNil at z
    refine ⟨ev, ps, r0, R.on_mono (R.on_bind z) (fun t q1 x H1 s1 p1 => ?_) fun _ _ q => q⟩
    refine ⟨ev, ps, r0.up s1, R.on_mono (R.on_bind (R.on_bind q1)) (fun u q2 y H2 s2 p2 => ?_) fun c fs q1 cls dd H' s x => q1 cls dd H' (s1.trans s) x⟩
    cases t with
    | int i =>
      cases u with
      | int j =>
        have q2 : (ofO (lstRng [.int i, .int j])).on _ _ := q2
        have el : lstRng [.int i, .int j] = if -(2 ^ 62) ≤ i ∧ i < 2 ^ 62 ∧ -(2 ^ 62) ≤ j ∧ j < 2 ^ 62 ∧ (j - i).toNat ≤ 2 ^ 24 then some (.lst ((List.range (j - i).toNat).map fun (k : Nat) => .int (i + (k : Int)))) else none := rfl
        rw [el] at q2
        by_cases hc : -(2 ^ 62) ≤ i ∧ i < 2 ^ 62 ∧ -(2 ^ 62) ≤ j ∧ j < 2 ^ 62 ∧ (j - i).toNat ≤ 2 ^ 24
        · rw [if_pos hc] at q2
          have ex := p1.int
          have ey := p2.int
          subst ex ey
          refine ⟨i, j, rfl, rfl, hc, fun l hl => ?_⟩
          refine q2 _ _ (s1.trans (s2.trans (same_upd hl))) (Pm.back (s1.trans s2) (new_lst hl ?_))
          unfold rgV
          have : (List.range (j - i).toNat).map (fun k => V.int (i + (k : Nat))) = ((List.range (j - i).toNat).map fun (k : Nat) => i + (k : Int)).map V.int := by rw [List.map_map]; rfl
          rw [this]
          have e2 : (List.range (j - i).toNat).map (fun (k : Nat) => T.int (i + (k : Int))) = ((List.range (j - i).toNat).map fun (k : Nat) => i + (k : Int)).map T.int := by rw [List.map_map]; rfl
          rw [e2]
          exact scr_ts _
        · rw [if_neg hc] at q2; exact q2.elim
      | _ => exact q2.elim
    | _ => exact q2.elim
end
end DL
namespace DL
open PySem PySem.Spec PyProof.Rows L2
def sRev (i : Nat) : Lo → Fl := fun ev => match ev[i]? with
  | some (some (.lst ts, true)) => .nx (ev.set i (some (.lst ts.reverse, true)))
  | _ => .bad
def sClr (i : Nat) : Lo → Fl := fun ev => match ev[i]? with
  | some (some (.lst _, true)) => .nx (ev.set i (some (.lst [], true)))
  | _ => .bad
section
variable {X : Cx} {S0 : Addr → Prop} {H0 : Hp} {W : WX} {pos : Pos} {m : Md}
theorem s_rev (i : Nat) {x : Str} {p1 p2 p3 : Pos} (hN : X.N[i]? = some x := by rfl) (hv : Vis X.env.scope x := by first | exact Or.inl rfl | exact Or.inr (Or.inl rfl) | exact Or.inr (Or.inr rfl)) (hd : (x == ("__debug__" : Str)) = false := by decide)
    (hcd : (x == ("__classdict__" : Str)) = false := by decide)
    (hs : swapsWith (.Call (.Attribute (.Name x p1) "reverse" p2) [] [] p3) none pos.line X.env = pure false := by rfl)
    (hpe : ∀ {tv : TE}, PE X (.Name x p1) tv → PE X (.Call (.Attribute (.Name x p1) "reverse" p2) [] [] p3) (tBM0 X.K "list" rReverse tv) := by
      intro _ h1; exact pe_bm0 PySem.F.plainAttrs_list PySem.F.slot_list_reverse PySem.F.type_list_reverse mt_reverse h1) :
    PS X (.Expr (.Call (.Attribute (.Name x p1) "reverse" p2) [] [] p3) pos) (tS m X.K S0 H0 W (sRev i)) := ps_imp (ps_expr (hpe (pe_var hN hv hd hcd)) hs) fun D σ H ⟨ev, ps, r, z⟩ => by
  unfold sRev at z
  split at z
  · rename_i ts e0
    obtain ⟨a, h1, h2, h3, c⟩ := r.own i _ e0
    cases c with
    | @lst xs _ h rs =>
      refine ⟨.ref a, h1, .inl ⟨rfl, _, SqL.of h⟩, a, xs, rfl, rfl, h, z _ _ (r.write e0 h1 ?_)⟩
      have n : Sx S0 σ ev a := .inr ⟨i, _, e0, h1⟩
      have mv : Mv (Sx S0 σ ev) (Sx S0 σ ev) H (upd H a (.lst xs.reverse)) := fun b w g nb => ⟨by rw [upd_ne (fun y => nb (by rw [y]; exact n))]; exact g, nb⟩
      exact .lst upd_same (rs.rev.mv mv)
  · exact z.elim
theorem s_clr (i : Nat) {x : Str} {p1 p2 p3 : Pos} (hN : X.N[i]? = some x := by rfl) (hv : Vis X.env.scope x := by first | exact Or.inl rfl | exact Or.inr (Or.inl rfl) | exact Or.inr (Or.inr rfl)) (hd : (x == ("__debug__" : Str)) = false := by decide)
    (hcd : (x == ("__classdict__" : Str)) = false := by decide)
    (hs : swapsWith (.Call (.Attribute (.Name x p1) "clear" p2) [] [] p3) none pos.line X.env = pure false := by rfl)
    (hpe : ∀ {tv : TE}, PE X (.Name x p1) tv → PE X (.Call (.Attribute (.Name x p1) "clear" p2) [] [] p3) (tBM0 X.K "list" rClear tv) := by
      intro _ h1; exact pe_bm0 PySem.F.plainAttrs_list PySem.F.slot_list_clear PySem.F.type_list_clear mt_clear h1) :
    PS X (.Expr (.Call (.Attribute (.Name x p1) "clear" p2) [] [] p3) pos) (tS m X.K S0 H0 W (sClr i)) := ps_imp (ps_expr (hpe (pe_var hN hv hd hcd)) hs) fun D σ H ⟨ev, ps, r, z⟩ => by
  unfold sClr at z
  split at z
  · rename_i ts e0
    obtain ⟨a, h1, h2, h3, c⟩ := r.own i _ e0
    cases c with
    | @lst xs _ h rs =>
      refine ⟨.ref a, h1, .inl ⟨rfl, _, SqL.of h⟩, a, xs, rfl, rfl, h, z _ _ (r.write e0 h1 ?_)⟩
      exact .lst upd_same .nil
  · exact z.elim
end
end DL

set_option maxHeartbeats 2000000
/-! a >= b of numbers, of tuples of numbers -/
namespace DL
open PySem PySem.Spec PyProof.Rows L2
def geX : T → T → Option T
  | .int i, .int j => some (.bl (decide (j ≤ i)))
  | .tup ts, .tup us => match nums ts, nums us with
    | some a, some b => some (.bl (lexLe b a))
    | _, _ => none
  | _, _ => none
theorem lexAt_is (ns ms : List Int) : ∀ k i, i + k = min ns.length ms.length →
    Ob.lexAt (fun j => decide (ns.getD j 0 = ms.getD j 0)) (fun j => decide (ms.getD j 0 ≤ ns.getD j 0)) (decide (ms.length ≤ ns.length)) i k = lexLe (ms.drop i) (ns.drop i)
  | 0, i, h => by
    rw [Ob.lexAt_zero]
    by_cases c : ms.length ≤ ns.length
    · have : ms.drop i = [] := List.drop_of_length_le (by omega)
      rw [this, decide_eq_true c]; rfl
    · have e1 : ns.drop i = [] := List.drop_of_length_le (by omega)
      have e2 : ms.drop i = ms[i]'(by omega) :: ms.drop (i + 1) := List.drop_eq_getElem_cons (by omega)
      rw [e1, e2, decide_eq_false c]; rfl
  | k + 1, i, h => by
    have h1 : i < ns.length := by omega
    have h2 : i < ms.length := by omega
    have g1 : ns.getD i 0 = ns[i] := by rw [List.getD_eq_getElem?_getD, List.getElem?_eq_getElem h1]; rfl
    have g2 : ms.getD i 0 = ms[i] := by rw [List.getD_eq_getElem?_getD, List.getElem?_eq_getElem h2]; rfl
    rw [Ob.lexAt_succ, lexAt_is ns ms k (i + 1) (by omega), List.drop_eq_getElem_cons h1, List.drop_eq_getElem_cons h2, g1, g2]
    show _ = if ms[i] = ns[i] then lexLe _ _ else decide (ms[i] < ns[i])
    by_cases e : ns[i] = ms[i]
    · rw [if_pos (decide_eq_true e), if_pos e.symm]
    · have : ¬ ms[i] = ns[i] := fun z => e z.symm
      rw [if_neg (by simp [e]), if_neg this]
      by_cases c : ms[i] < ns[i]
      · rw [decide_eq_true c, decide_eq_true (by omega)]
      · rw [decide_eq_false c, decide_eq_false (by omega)]
def rGeT (K : PySem.W.Frag) : R2 := fun x y H Q => ∃ (a b : Addr) (ns ms : List Int), x = .ref a ∧ y = .ref b ∧ SqT K H a (ns.map V.int) ∧ SqT K H b (ms.map V.int) ∧ Q (.bl (lexLe ms ns)) H
theorem op_geTup {X : Cx} (hu : X.A.units < cLine) : OpR X (compareOp .GtE) (rGeT X.K) := by
  intro pins s σ H x y v u Q I rx ry ⟨a, b, ns, ms, ex, ey, ha, hb, q⟩
  subst ex ey
  cases rx
  cases ry
  obtain ⟨va, ra, pa, _⟩ := I.tuple ha
  obtain ⟨vb, rb, pb, _⟩ := I.tuple hb
  have ia : IntsAre va ns := Vals.ints ra
  have ib : IntsAre vb ms := Vals.ints rb
  have sa : va.toArray.size = ns.length := List.size_toArray.trans ia.length
  have sb : vb.toArray.size = ms.length := List.size_toArray.trans ib.length
  have ta : ∀ j (h : j < va.toArray.size), ∃ t, va.toArray[j] = .int (ns.getD j 0) t := fun j h => IntsAre.int_at ia _ _ (by simp at h; simp [h])
  have tb : ∀ j (h : j < vb.toArray.size), ∃ t, vb.toArray[j] = .int (ms.getD j 0) t := fun j h => IntsAre.int_at ib _ _ (by simp at h; simp [h])
  have R := Ob.RcOp.tuples_ge (A := X.A) (s := s) (e := fun j => decide (ns.getD j 0 = ms.getD j 0)) (r := fun j => decide (ms.getD j 0 ≤ ns.getD j 0)) pa pb hu (fun j h1 h2 => by
      obtain ⟨t, e1⟩ := ta j h1
      obtain ⟨t', e2⟩ := tb j h2
      have eb : (ns.getD j 0 == ms.getD j 0) = decide (ns.getD j 0 = ms.getD j 0) := by
        rw [Bool.eq_iff_iff, beq_iff_eq, decide_eq_true_iff]
      rw [e1, e2, ← eb]
      exact SeqAt.EqAt.int_int _ _ _ _)
    (fun j h1 h2 _ => by
      obtain ⟨t, e1⟩ := ta j h1
      obtain ⟨t', e2⟩ := tb j h2
      rw [e1, e2]
      exact Ob.RcOp.ge_int _ _ _ _)
  rw [sa, sb] at R
  refine R X.prog X.w X.xe (EP X pins σ Q) ⟨.bl _, H, I, rfl, ?_⟩
  have := lexAt_is ns ms (min ns.length ms.length) 0 (by omega)
  rw [List.drop_zero, List.drop_zero] at this
  rw [this]
  exact q
section
variable {X : Cx} {a b : Expr} {S0 : Addr → Prop} {H0 : Hp} {W : WX} {da db : Lo → R T} {pos : Pos} {k : Nat}
def rGeX (K : PySem.W.Frag) : R2 := fun x y H Q => (∃ i j, x = .int i ∧ y = .int j ∧ Q (.bl (decide (j ≤ i))) H) ∨ rGeT K x y H Q
theorem op_geX (hu : X.A.units < cLine) : OpR X (compareOp .GtE) (rGeX X.K) := fun pins s σ H x y v u Q I rx ry h => by
  rcases h with h | h
  · exact op_ge pins s σ H x y v u Q I rx ry h
  · exact op_geTup hu pins s σ H x y v u Q I rx ry h
theorem geX_ok : ∀ (S : Addr → Prop) (H : Hp) (x y : V) (t u w : T) (Q : VK), (∀ a, S a → H a ≠ none) → Pm X.K .w S H H x t → Pm X.K .w S H H y u → geX t u = some w → (∀ v H', Same H H' → Pm X.K .f S H H' v w → Q v H') → rGeX X.K x y H Q := fun S H x y t u w Q hs p q e z => by
  unfold geX at e
  split at e
  · cases e
    exact .inl ⟨_, _, p.int, q.int, z _ _ (Same.refl _) (one_bl _)⟩
  · rename_i ts us
    obtain ⟨a, xs, rfl, na, ra⟩ := p.tup
    obtain ⟨b, ys, rfl, nb, rb⟩ := q.tup
    split at e
    · rename_i i j e1 e2
      cases e
      have := nums_v ra e1
      have := nums_v rb e2
      subst xs ys
      exact .inr ⟨a, b, i, j, rfl, rfl, na.sq, nb.sq, z _ _ (Same.refl _) (one_bl _)⟩
    · cases e
  · cases e
theorem t_geX (cn : Cn X W k) (ha : PE X a (tG .w X.K S0 H0 W da)) (hb : PE X b (tG .w X.K S0 H0 W db)) : PT X (.Compare a [.GtE] [b] pos) (tB X.K S0 H0 W (dTest (d2 geX da db))) := t_cmp (op_geX cn.room.units0) geX_ok ha hb (nomark _)
theorem e_geX (cn : Cn X W k) (ha : PE X a (tG .w X.K S0 H0 W da)) (hb : PE X b (tG .w X.K S0 H0 W db)) : PE X (.Compare a [.GtE] [b] pos) (tG .f X.K S0 H0 W (d2 geX da db)) := e_cmp (op_geX cn.room.units0) geX_ok ha hb (nomark _)
end
end DL

set_option maxHeartbeats 1000000
/-! refusals: what the classes are, raise -/
namespace DL
open PySem PySem.Spec PyProof.Rows L2

/-! ### the hook, with one Bool more -/
def frE (n : Nat) (g : Addr → Option Obj) : PySem.W.Frag := He.frG g (cStatics :: sysModules :: He.asD g n)
def obsE (n : Nat) (fa : List He.Fa) (fn : List He.DefD) (ex : PySem.W.Frag → Bool) (g : Addr → Option Obj) : He.AlD × Bool := (He.obsD fa fn (frE n g), ex (frE n g))
def hookE (n : Nat) (fa : List He.Fa) (fn : List He.DefD) (ex : PySem.W.Frag → Bool) : PySem.W.Hook where
  α := He.AlD × Bool
  obs := fun s => obsE n fa fn ex s.heap.get?
  val := fun _ => (He.valD fn, true)
  says := fun _ h => ∃ K : PySem.W.Frag, K.In h ∧ He.SaysD fa fn K ∧ ex K = true
  of := fun _ _ e => ⟨_, He.frG_in, congrArg (fun z : He.AlD × Bool => z.1) e, congrArg (fun z : He.AlD × Bool => z.2) e⟩
  keeps := fun _ _ _ ⟨K, hK, c⟩ k => ⟨K, PySem.W.Frag.In.keeps hK k, c⟩
theorem obsE_eq {n : Nat} {fa : List He.Fa} {fn : List He.DefD} {ex : PySem.W.Frag → Bool} {g : Addr → Option Obj} {s : Shared} (h : ∀ a, g a = s.heap.get? a) : obsE n fa fn ex g = (hookE n fa fn ex).obs s := by
  have e : g = s.heap.get? := funext h
  rw [e] <;> rfl

/-! ### the classes -/
/-- every class of the program is of one line: itself, BakeError, ValueError -/
def xsub (c C : Str) : Bool := c == C || C == ("BakeError" : Str) || C == ("ValueError" : Str)
def clV (K : PySem.W.Frag) (C : Str) : Value := if C = ("ValueError" : Str) then .type "ValueError" else .ref (He.ga K C)
structure Cl (K : PySem.W.Frag) (c : Str) : Prop where
  keep : PySem.W.keepIn K (.ref (He.ga K c)) = true
  sub : PySem.W.subIn K (.ref (He.ga K c)) (.type "BaseException") = some true
  ty : PySem.W.typeIn K (.ref (He.ga K c)) = some (.type "type")
  cl : (PySem.W.clsIn K (He.ga K c)).isSome = true
  ga : PySem.W.findIn K (.ref (He.ga K c)) "__getattribute__" = some (some (.builtin "BaseException.__getattribute__"))
  gg : PySem.W.findIn K (.ref (He.ga K c)) "__getattr__" = some none
  gc : PySem.W.findIn K (.ref (He.ga K c)) "__class__" = some (some (.builtin "object.__class__"))
  hd : PySem.W.hasDictIn K (He.ga K c) = true
  mo : PySem.W.mroIn K (He.ga K c) (.type "object") = some true
  oc : PySem.W.specialIn K (.builtin "object.__class__") "__get__" = some (some (.builtin "getset_descriptor.__get__"))
  ot : PySem.W.takesIn K (.builtin "object.__class__") = some true
def clB (K : PySem.W.Frag) (c : Str) : Bool :=
  PySem.W.keepIn K (.ref (He.ga K c)) && (decide (PySem.W.subIn K (.ref (He.ga K c)) (.type "BaseException") = some true) && (decide (PySem.W.typeIn K (.ref (He.ga K c)) = some (.type "type")) && ((PySem.W.clsIn K (He.ga K c)).isSome &&
  (He.eqO (PySem.W.findIn K (.ref (He.ga K c)) "__getattribute__") (some (some (.builtin "BaseException.__getattribute__"))) && (He.eqO (PySem.W.findIn K (.ref (He.ga K c)) "__getattr__") (some none) &&
  (He.eqO (PySem.W.findIn K (.ref (He.ga K c)) "__class__") (some (some (.builtin "object.__class__"))) && (PySem.W.hasDictIn K (He.ga K c) && (decide (PySem.W.mroIn K (He.ga K c) (.type "object") = some true) &&
  (He.eqO (PySem.W.specialIn K (.builtin "object.__class__") "__get__") (some (some (.builtin "getset_descriptor.__get__"))) && decide (PySem.W.takesIn K (.builtin "object.__class__") = some true))))))))))
theorem clB_ok {K : PySem.W.Frag} {c : Str} (h : clB K c = true) : Cl K c := by
  unfold clB at h
  simp only [Bool.and_eq_true, decide_eq_true_eq] at h
  obtain ⟨a1, a2, a3, a4, a5, a6, a7, a8, a9, a10, a11⟩ := h
  exact ⟨a1, a2, a3, a4, He.eqO_ok a5, He.eqO_ok a6, He.eqO_ok a7, a8, a9, He.eqO_ok a10, a11⟩
/-- a class beside a class -/
structure Pr (K : PySem.W.Frag) (c C : Str) : Prop where
  exm : PySem.W.exmOne K (.ref (He.ga K c)) (clV K C) = some (xsub c C)
  isi : PySem.W.kitOne K (.ref (He.ga K c)) (clV K C) = some (xsub c C)
def prB (K : PySem.W.Frag) (c C : Str) : Bool := decide (PySem.W.exmOne K (.ref (He.ga K c)) (clV K C) = some (xsub c C)) && decide (PySem.W.kitOne K (.ref (He.ga K c)) (clV K C) = some (xsub c C))
theorem prB_ok {K : PySem.W.Frag} {c C : Str} (h : prB K c C = true) : Pr K c C := by
  unfold prB at h
  simp only [Bool.and_eq_true, decide_eq_true_eq] at h
  exact ⟨h.1, h.2⟩
/-- a class without __init__ -/
def noB (K : PySem.W.Frag) (c : Str) : Bool := PySem.W.excIn K (He.ga K c) He.veBase "ValueError.__new__"
/-- a class with one -/
def oexB (K : PySem.W.Frag) (C : Addr) : Bool := (match K.lookup C with
  | some ⟨.type t, _, .cls cd, sl⟩ => t == "type" && (match cd.mro, sl.toList with
    | .ref C' :: bm, [_, _, _, _, some (.builtin n), _] => C' == C && (n == "ValueError.__new__" && (!cd.hasDel && (PySem.HandSPX.refsVE bm && cd.hasDict)))
    | _, _ => false)
  | _ => false) && (He.eqO (PySem.W.findIn K (.ref C) "__setattr__") (some (some (.builtin "object.__setattr__"))) && (decide (PySem.W.subIn K (.ref C) (.type "BaseException") = some true) && (decide (PySem.W.typeIn K (.ref C) = some (.type "type")) && PySem.W.keepIn K (.ref C))))
theorem oexB_ok {K : PySem.W.Frag} {C : Addr} (h : oexB K C = true) : OexC K C := by
  unfold oexB at h
  obtain ⟨h1, h⟩ := Bool.and_eq_true_iff.mp h
  obtain ⟨h2, h⟩ := Bool.and_eq_true_iff.mp h
  obtain ⟨h3, h⟩ := Bool.and_eq_true_iff.mp h
  obtain ⟨h4, h5⟩ := Bool.and_eq_true_iff.mp h
  refine ⟨?_, He.eqO_ok h2, of_decide_eq_true h3, of_decide_eq_true h4, h5⟩
  split at h1
  · rename_i t dd cd sl ho
    obtain ⟨ht, h1⟩ := Bool.and_eq_true_iff.mp h1
    split at h1
    · rename_i C' bm k0 k1 k2 k3 n k5 hm hs
      simp only [Bool.and_eq_true, beq_iff_eq, Bool.not_eq_true'] at h1 ht
      obtain ⟨rfl, rfl, hdel, hr, hdi⟩ := h1
      subst ht
      obtain ⟨nm, bs, mro, ns, qn, hd, sn, sub, ab, col, del⟩ := cd
      dsimp only at hm hdel hdi
      subst hm hdel hdi
      have hsl : sl = #[k0, k1, k2, k3, some (.builtin "ValueError.__new__"), k5] := by
        obtain ⟨l⟩ := sl
        simp only at hs
        rw [hs]
      subst hsl
      exact ⟨nm, qn, ns, bs, bm, sn, sub, ab, col, dd, k0, k1, k2, k3, k5, ho, hr⟩
    · cases h1
  · cases h1
/-- BakeError.__init__ is read as ValueError's -/
structure Be (K : PySem.W.Frag) : Prop where
  g : PySem.W.specialIn K (.ref (He.ga K "BakeError")) "__getattribute__" = some (some (.builtin "type.__getattribute__"))
  r : PySem.W.readsIn K (He.ga K "BakeError") (.type "type") = true
  f : PySem.W.findCls K (.ref (He.ga K "BakeError")) (.type "type") "__init__" = some (.val (.builtin "ValueError.__init__"))
def cfB (o : Option PySem.W.CFound) : Bool := match o with
  | some (.val v) => decide (v = .builtin "ValueError.__init__")
  | _ => false
def beB (K : PySem.W.Frag) : Bool := He.eqO (PySem.W.specialIn K (.ref (He.ga K "BakeError")) "__getattribute__") (some (some (.builtin "type.__getattribute__"))) && (PySem.W.readsIn K (He.ga K "BakeError") (.type "type") && cfB (PySem.W.findCls K (.ref (He.ga K "BakeError")) (.type "type") "__init__"))
theorem beB_ok {K : PySem.W.Frag} (h : beB K = true) : Be K := by
  unfold beB at h
  simp only [Bool.and_eq_true] at h
  refine ⟨He.eqO_ok h.1, h.2.1, ?_⟩
  have z := h.2.2
  unfold cfB at z
  split at z
  · rename_i v e
    rw [e, of_decide_eq_true z]
  · cases z
/-- a class's __init__, its fields' names are no attributes of the class -/
structure In (K : PySem.W.Frag) (c : Str) (fs : List Str) : Prop where
  oex : OexC K (He.ga K c)
  ini : PySem.W.findIn K (.ref (He.ga K c)) "__init__" = some (some (.ref (He.fAd K (c, some "__init__"))))
  ty : PySem.W.typeIn K (.ref (He.fAd K (c, some "__init__"))) = some (.type "function")
  no : ∀ f ∈ fs, PySem.W.findIn K (.ref (He.ga K c)) f = some none
def inB (K : PySem.W.Frag) (c : Str) (fs : List Str) : Bool := oexB K (He.ga K c) && (He.eqO (PySem.W.findIn K (.ref (He.ga K c)) "__init__") (some (some (.ref (He.fAd K (c, some "__init__"))))) && (decide (PySem.W.typeIn K (.ref (He.fAd K (c, some "__init__"))) = some (.type "function")) && fs.all fun f => He.eqO (PySem.W.findIn K (.ref (He.ga K c)) f) (some none)))
theorem inB_ok {K : PySem.W.Frag} {c : Str} {fs : List Str} (h : inB K c fs = true) : In K c fs := by
  unfold inB at h
  simp only [Bool.and_eq_true, decide_eq_true_eq, List.all_eq_true] at h
  exact ⟨oexB_ok h.1, He.eqO_ok h.2.1, h.2.2.1, fun f hf => He.eqO_ok (h.2.2.2 f hf)⟩

/-! ### BakeError.__init__(self, ..) -/
section
variable {X : Cx} {o e : Expr} {es : List Expr} {ta : TA} {p1 p2 pos : Pos}
/-- the call's form -/
def BeC (env : PySem.Env) (p1 p2 pos : Pos) (e : Expr) (es : List Expr) : Prop := ∃ pl : Sem Bool, eval (.Call (.Attribute (.Name "BakeError" p1) "__init__" p2) (e :: es) [] pos) env = (do
      let ov ← eval (.Name "BakeError" p1) env
      standAt p2.atName
      let (f, first) ← holding [ov] (getMethod ov "__init__" pl)
      callWith pos f first (backTo pos (starEach (e :: es) env)) (backToKw pos (keywordEach [] env)))
theorem pe_beinit (B : Be X.K) (hg : Gl X "BakeError") (hm : X.mg "BakeError" = some (.ref (He.ga X.K "BakeError"))) (ha : PA X (e :: es) ta)
    (hc : BeC X.env p1 p2 pos e es)
    (he : starEach (e :: es) X.env = (false, eval e X.env) :: starEach es X.env := by rfl) (hpl : (backTo pos (starEach es X.env)).any (·.1) = false := by rfl) :
    PE X (.Call (.Attribute (.Name "BakeError" p1) "__init__" p2) (e :: es) [] pos) (tVeI X.K ta) := by
  obtain ⟨pl, hc⟩ := hc
  refine ⟨fun pins s σ H Q I h => ?_⟩
  refine PySem.W.methodCall_KW (ld_glob I hg hm ?_ (by decide)) hc
  refine PySem.W.method_cls I.kIn B.g (PySem.W.cls_value I.kIn B.r B.f (by decide +kernel) ?_)
  show wpAny _ _ (callWith pos (Value.builtin "ValueError.__init__") [] (backTo pos (starEach (e :: es) X.env)) []) _ _ _
  refine PyProof.Rows.callWith_method1 (thn (ha.run pos pins _ σ H _ (I.tok _) h) fun us s1 ⟨vs, H1, I1, r1, a, C, ws, ev, hl, T, ea, q⟩ => ?_) he hpl
  subst ev
  cases r1 with
  | @cons _ u0 _ ur ra rw' =>
    obtain rfl : u0 = Value.ref a := ra
    have hlen : ur.length ≤ sizeLine := by
      rw [← Paired.length rw', sizeLine_eq]
      omega
    exact oinit_ok T I1 ea hlen fun s' J => ⟨.non, H1, J, rfl, q⟩
end

/-! ### a class's own __init__ -/
/-- what __init__ keeps: the fields, and nothing else -/
def spI (C : Addr) (fs : List Str) : Sp := fun vs H Q _ => ∃ (a : Addr) (xs : List V), vs = .ref a :: xs ∧ xs.length = fs.length ∧ H a = some (exo a C none) ∧
  ∀ (d : Addr) (H2 : Hp), H d = none → d ≠ a → H2 a = some (exo a C (some d)) → H2 d = some (exd d (fs.zip xs).reverse) → (∀ b, b ≠ a → b ≠ d → H2 b = H b) → Q .non H2
section
variable {P : Program} {w : World} {K : PySem.W.Frag} {mg : Str → Option Value} {base : Heap} {c qual m f1 f2 : Str} {params : Arguments} {scope : Scope} {fI : Addr} {fd : FuncData} {j : Nat} {p1 p2 p3 p4 p5 p6 q1 q2 q3 q4 r1 r2 r3 r4 : Pos}
theorem init2 (I : In K c [f1, f2]) (B : Be K) (hm : mg "BakeError" = some (.ref (He.ga K "BakeError")))
    (F : FunD K "__init__" qual params [.Expr (.Call (.Attribute (.Name "BakeError" p1) "__init__" p2) [.Name "self" p3, .Constant (.str m) j p4] [] p5) p6, .Assign [.Attribute (.Name "self" q1) f1 q2] (.Name f1 q3) q4, .Assign [.Attribute (.Name "self" r1) f2 r2] (.Name f2 r3) r4] scope [] [] fI fd)
    (S : FnScope ["self", f1, f2] ["self", f1, f2] scope) (hg : scope.names.lookup ("BakeError" : Str) = some .globalImplicit) (h0 : scope.names.lookup ("self" : Str) = some .local) (h1 : scope.names.lookup f1 = some .local) (h2 : scope.names.lookup f2 = some .local)
    (d1 : (f1 == ("__debug__" : Str)) = false) (d2 : (f2 == ("__debug__" : Str)) = false) (e1 : (f1 == ("__classdict__" : Str)) = false) (e2 : (f2 == ("__classdict__" : Str)) = false)
    (hc : ∀ (cdv : Value) (A : Around) (outer : List PySem.Env) (s : Shared) (H : Hp) (E : XK), BeC (cxOf (L2.CX P w) P w K mg base ["self", f1, f2] qual scope fI cdv A outer s H E).env p1 p2 p5 (.Name "self" p3) [.Constant (.str m) j p4]) :
    FnOk P w K mg base (L2.CX P w) 1 fI fd ["self", f1, f2] (spI (He.ga K c) [f1, f2]) := by
  refine F.ok S (fun vs H Q E ⟨a, xs, e, l, _⟩ => by rw [e]; simp [l]) fun cdv A outer s H vs Q E hr hsp => ?_
  obtain ⟨a, xs, rfl, l, ea, hQ⟩ := hsp
  match xs, l with
  | [x, y], _ =>
    have T := I.oex
    refine ⟨_, pss_cons (ps_expr (pe_beinit B hg hm (pa_cons (pe_var (i := 0) rfl (.inl h0)) (pa_cons pe_str pa_nil)) (hc _ _ _ _ _ _))) (pss_cons (ps_ost (pe_var (i := 0) rfl (.inl h0)) (pe_var (i := 1) rfl (.inl h1) d1 e1)) (pss_one (ps_ost (pe_var (i := 0) rfl (.inl h0)) (pe_var (i := 2) rfl (.inl h2) d2 e2)))), ?_⟩
    show ∃ v0 : V, some (some (V.ref a)) = some (some v0) ∧ ∃ (a' C' : Addr) (ws : List V), [v0, V.str m] = .ref a' :: ws ∧ ws.length ≤ 1000 ∧ OexC K C' ∧ H a' = some (exo a' C' none) ∧ _
    refine ⟨_, rfl, a, _, _, rfl, by simp, T, ea, ?_⟩
    refine ⟨x, rfl, .ref a, rfl, a, _, rfl, T, I.no f1 (by simp), .inl ⟨ea, fun d hd ne => ?_⟩⟩
    refine ⟨y, rfl, .ref a, rfl, a, _, rfl, T, I.no f2 (by simp), .inr ⟨d, [(f1, x)], upd_same, ?_, by simp, ?_⟩⟩
    · rw [upd_ne ne]; exact upd_same
    · refine hQ d _ hd ne ?_ upd_same fun b h1 h2 => ?_
      · rw [upd_ne (Ne.symm ne)]; exact upd_same
      · rw [upd_ne h2, upd_ne h1, upd_ne h2]
theorem init1 (I : In K c [f1]) (B : Be K) (hm : mg "BakeError" = some (.ref (He.ga K "BakeError")))
    (F : FunD K "__init__" qual params [.Expr (.Call (.Attribute (.Name "BakeError" p1) "__init__" p2) [.Name "self" p3, .Constant (.str m) j p4] [] p5) p6, .Assign [.Attribute (.Name "self" q1) f1 q2] (.Name f1 q3) q4] scope [] [] fI fd)
    (S : FnScope ["self", f1] ["self", f1] scope) (hg : scope.names.lookup ("BakeError" : Str) = some .globalImplicit) (h0 : scope.names.lookup ("self" : Str) = some .local) (h1 : scope.names.lookup f1 = some .local)
    (d1 : (f1 == ("__debug__" : Str)) = false) (e1 : (f1 == ("__classdict__" : Str)) = false)
    (hc : ∀ (cdv : Value) (A : Around) (outer : List PySem.Env) (s : Shared) (H : Hp) (E : XK), BeC (cxOf (L2.CX P w) P w K mg base ["self", f1] qual scope fI cdv A outer s H E).env p1 p2 p5 (.Name "self" p3) [.Constant (.str m) j p4]) :
    FnOk P w K mg base (L2.CX P w) 1 fI fd ["self", f1] (spI (He.ga K c) [f1]) := by
  refine F.ok S (fun vs H Q E ⟨a, xs, e, l, _⟩ => by rw [e]; simp [l]) fun cdv A outer s H vs Q E hr hsp => ?_
  obtain ⟨a, xs, rfl, l, ea, hQ⟩ := hsp
  match xs, l with
  | [x], _ =>
    have T := I.oex
    refine ⟨_, pss_cons (ps_expr (pe_beinit B hg hm (pa_cons (pe_var (i := 0) rfl (.inl h0)) (pa_cons pe_str pa_nil)) (hc _ _ _ _ _ _))) (pss_one (ps_ost (pe_var (i := 0) rfl (.inl h0)) (pe_var (i := 1) rfl (.inl h1) d1 e1))), ?_⟩
    show ∃ v0 : V, some (some (V.ref a)) = some (some v0) ∧ ∃ (a' C' : Addr) (ws : List V), [v0, V.str m] = .ref a' :: ws ∧ ws.length ≤ 1000 ∧ OexC K C' ∧ H a' = some (exo a' C' none) ∧ _
    refine ⟨_, rfl, a, _, _, rfl, by simp, T, ea, ?_⟩
    refine ⟨x, rfl, .ref a, rfl, a, _, rfl, T, I.no f1 (by simp), .inl ⟨ea, fun d hd ne => ?_⟩⟩
    refine hQ d _ hd ne upd_same ?_ fun b h1 h2 => ?_
    · rw [upd_ne ne]; exact upd_same
    · rw [upd_ne h1, upd_ne h2]
end

/-! ### raise -/
/-- a class of the module that is raised with a text -/
structure RX0 (K : PySem.W.Frag) (mg : Str → Option Value) (c : Str) : Prop where
  g : mg c = some (.ref (He.ga K c))
  ex : PySem.W.excIn K (He.ga K c) He.veBase "ValueError.__new__" = true
  cl : Cl K c
/-- .. with fields -/
structure RXF (P : Program) (w : World) (K : PySem.W.Frag) (mg : Str → Option Value) (base : Heap) (c : Str) (fs : List Str) : Prop where
  g : mg c = some (.ref (He.ga K c))
  inn : In K c fs
  fn : ∃ fd ps, Binds K fd ps [] ∧ FnOk P w K mg base (L2.CX P w) 1 (He.fAd K (c, some "__init__")) fd ps (spI (He.ga K c) fs)
def sRaise0 (c : Str) : Lo → Fl := fun ev => .ex c [] ev
def sRaiseF (c : Str) (fs : List Str) (ds : Lo → R (List T)) : Lo → Fl := fun ev => (ds ev).fl ev fun ts => if ts.length = fs.length then .ex c (fs.zip ts).reverse ev else .bad
section
variable {K : PySem.W.Frag} {S : Addr → Prop} {H : Hp}
theorem IsFs.app : ∀ {a c : List (Str × V)} {b d : List (Str × T)}, IsFs K S H a b → IsFs K S H c d → IsFs K S H (a ++ c) (b ++ d)
  | _, _, _, _, .nil, s => s
  | _, _, _, _, .cons h r, s => .cons h (IsFs.app r s)
theorem IsFs.rev : ∀ {a : List (Str × V)} {b : List (Str × T)}, IsFs K S H a b → IsFs K S H a.reverse b.reverse
  | _, _, .nil => .nil
  | _, _, .cons h r => by rw [List.reverse_cons, List.reverse_cons]; exact (IsFs.rev r).app (.cons h .nil)
theorem IsFs.zip : ∀ (fs : List Str) {vs : List V} {ts : List T}, IsTs K S H vs ts → IsFs K S H (fs.zip vs) (fs.zip ts)
  | [], _, _, _ => .nil
  | _ :: _, _, _, .nil => .nil
  | f :: fs, _, _, .cons h r => .cons h (IsFs.zip fs r)
end
section
variable {X : Cx} {e : Expr} {es : List Expr} {S S0 : Addr → Prop} {H0 : Hp} {W : WX} {ds : Lo → R (List T)} {p p2 pos pos' : Pos} {md : Md} {k j : Nat} {x m : Str}
theorem s_raise0 (cn : Cn X W k) (C : RX0 X.K X.mg x) (hg : Gl X x := by rfl) (hdb : (x == ("__debug__" : Str)) = false := by decide) :
    PS X (.Raise (some (.Call (.Name x p) [.Constant (.str m) j p2] [] pos)) none pos') (tS md X.K S0 H0 W (sRaise0 x)) :=
  ps_imp (ps_raise cn.calm cn.tk (pmk_own PySem.F.excBase_ValueError C.ex C.g C.cl.keep (raises_own C.cl.sub C.cl.ty) hg hdb)) fun D σ H ⟨ev, ps, r, z⟩ => by
    have z : ∀ cls dd σ' H', Rp X.K S0 H0 ps σ' H' ev → IsX X.K (Sx S0 σ' ev) H' cls dd x [] → W cls dd σ' H' := z
    exact z _ none σ H r ⟨rfl, .inl ⟨rfl, rfl⟩⟩
theorem s_raiseF (cn : Cn X W k) {fs : List Str} (C : RXF X.prog X.w X.K X.mg X.base x fs) (ha : PA X (e :: es) (tA X.K S0 H0 W ds)) (hk : 2 ≤ k := by decide) (hg : Gl X x := by rfl) (hdb : (x == ("__debug__" : Str)) = false := by decide) (he : starEach (e :: es) X.env = (false, eval e X.env) :: starEach es X.env := by rfl) (hpl : (backTo pos (starEach es X.env)).any (·.1) = false := by rfl) (hf : fs.length ≤ 1000 := by decide) :
    PS X (.Raise (some (.Call (.Name x p) (e :: es) [] pos)) none pos') (tS md X.K S0 H0 W (sRaiseF x fs ds)) := by
  obtain ⟨fd, prs, hb, F⟩ := C.fn
  refine ps_imp (ps_raise cn.calm cn.tk (pmk_oex C.inn.oex C.inn.ini C.inn.ty F (cn.room.mono hk) hb .nil passL hg C.g ha hdb he hpl)) fun D σ H ⟨ev, ps, r, z⟩ => ?_
  refine ⟨ev, ps, r, R.on_mono (R.fl_on z) (fun ts q vs H1 s1 p1 => ?_) fun c fs q cls dd H' s x => q cls dd σ H' (r.up s) x⟩
  by_cases hl : ts.length = fs.length
  · rw [if_pos hl] at q
    have q : ∀ cls dd σ' H', Rp X.K S0 H0 ps σ' H' ev → IsX X.K (Sx S0 σ' ev) H' cls dd x (fs.zip ts).reverse → W cls dd σ' H' := q
    have ln := p1.len
    refine ⟨by omega, fun a ha => ⟨a, vs ++ [], rfl, by rw [List.append_nil]; omega, upd_same, fun d H2 hd ne h1 h2 hb => ⟨rfl, d, _, h1, h2, ?_, ?_⟩⟩⟩
    · rw [upd_ne ne] at hd; exact hd
    · rw [upd_ne ne] at hd
      have s3 : Same H1 (upd (del H2 a) d (.xd (fs.zip (vs ++ [])).reverse)) := fun b o eb => by
        have n1 : b ≠ a := ne_of_none eb ha
        have n2 : b ≠ d := ne_of_none eb hd
        rw [upd_ne n2, del_ne n1, hb b n1 n2, upd_ne n1]
        exact eb
      refine q _ _ σ _ (r.up (s1.trans s3)) ⟨rfl, .inr ⟨d, _, rfl, fun y => (r.up s1).sx d y hd, upd_same, ?_⟩⟩
      rw [List.append_nil]
      exact (IsFs.zip fs (p1.mv (mv_same (by rw [List.append_nil] at s3; exact s3)))).rev
  · rw [if_neg hl] at q
    exact q.elim
end
end DL

set_option maxHeartbeats 2000000
/-! try .. except; the rule ps_try_trk is the kit's ps_try_as (HandS.Exc), turned: the caught exception is tracked in the abstract heap -/
namespace DL
open PySem PySem.Spec PyProof.Rows L2

section
variable {X : Cx} {pins : List (Addr × Obj)} {σ : L2.St} {H : Hp} {s : Shared}
/-- an exception that stands by itself is tracked from now on -/
theorem Inv.track {a : Addr} {oe : Obj} {vs : Array Value} {cls : Value} {d : Option Addr} (I : Inv X pins σ H s) (ha : s.heap.get? a = some oe) (hz : Zc cls d oe) (hd : oe.data = .fields vs) (na : H a = none) (nL : a ≠ X.env.locals)
    (np : ∀ p ∈ X.pn ++ pins, p.1 ≠ a) (n0 : ∀ o, X.s_0.heap.get? a = some o → a ∉ X.ex → False) : Inv X pins σ (upd H a (xO cls d a)) s := by
  have ne : ∀ {b : Addr} {o : HO}, H b = some o → b ≠ a := fun q => ne_of_none q na
  refine ⟨I.ok, I.os, I.bare, ⟨I.base.keep, I.base.slot, fun b o e n hx => ?_, I.base.there, fun b xs e => ?_, fun b o u e => ?_, fun b ps e => ?_⟩, I.loc, I.cell, ?_, fun x c e => ?_, fun p hp => ?_, fun b o e => ?_, I.len⟩
  · by_cases hb : b = a
    · subst hb; exact (n0 o e hx).elim
    · rw [upd_ne hb]; exact I.base.free b o e n hx
  · have q := I.base.tups b xs e
    rw [upd_ne (ne q)]; exact q
  · have q := I.base.frzs b o u e
    rw [upd_ne (ne q)]; exact q
  · obtain ⟨m, q⟩ := I.base.tbls b ps e
    exact ⟨m, by rw [upd_ne (ne q)]; exact q⟩
  · rw [upd_ne (Ne.symm nL)]; exact I.free
  · have nc : c ≠ a := fun z => by
      obtain ⟨v, o, ho, hv⟩ := I.cell x c e
      rw [z, ha] at ho
      cases ho
      rw [hd] at hv
      cases hv
    rw [upd_ne nc]; exact I.freeC x c e
  · obtain ⟨p1, p2, p3, p4, p5⟩ := I.pin p hp
    exact ⟨p1, by rw [upd_ne (np p hp)]; exact p2, p3, p4, p5⟩
  · by_cases hb : b = a
    · subst hb
      rw [upd_same] at e
      cases e
      exact ⟨⟨oe, vs, ha, hz, hd⟩, ⟨oe, ha⟩, fun h1 h2 z k => by
        obtain ⟨o1, v1, e1, e2, e3⟩ := z
        exact ⟨o1, v1, k _ e1, e2, e3⟩⟩
    · rw [upd_ne hb] at e
      exact (I.hok b o e).stay (fun c v hc z => z) (fun c hc => by rw [upd_ne (ne hc)]; exact hc) fun c xs hc => by rw [upd_ne (ne hc)]; exact hc
end

/-- what the clause 'except x as n' wishes: the exception is tracked -/
def wTr (K : PySem.W.Frag) (c : Value) (i : Nat) (ts : Addr → Value → Option Addr → TS) (Wout : WX) (D : Ends) : WX := fun cls d σ H =>
  ∃ b, PySem.W.exmOne K cls c = some b ∧ (b = true → ∀ a, H a = none → ts a cls d { nx := fun σ' H' => D.nx (σ'.set i none) H', rt := D.rt, bk := fun σ' H' => D.bk (σ'.set i none) H', ct := fun σ' H' => D.ct (σ'.set i none) H' } (σ.set i (some (.ref a))) (upd H a (xO cls d a))) ∧
    (b = false → Wout cls d σ H)
section
variable {X : Cx} {x n : Str} {c : Value} {i : Nat} {body suite : List Stmt} {b₀ : Stmt} {np pos pos' : Pos} {tb : WX → TS} {ts : Addr → Value → Option Addr → TS} {Wout : WX}
theorem ps_try_trk (hs : X.stack = X.env :: X.outer) (hf : X.env.frame = some X.env.locals) (hN : X.N.Nodup) (hi : X.N[i]? = some n) (hln : X.env.kindOf n = some .local) (hc : Names X x c) (tk : Takes X Wout)
    (hb : ∀ (W : WX) (pn : List (Addr × Obj)) (xe : Value → Shared → Prop), Takes (X.tr pn xe) W → PassesOwn (model X.prog X.w) X.A X.env xe → PSs (X.tr pn xe) body (tb W))
    (hsu : ∀ (a : Addr) (cls : Value) (d : Option Addr) (pn : List (Addr × Obj)), PSs (X.suite a pn) (b₀ :: suite) (ts a cls d)) :
    PS X (.Try body [.ExceptHandler (some (.Name x np)) (some n) (b₀ :: suite) pos'] [] [] pos) (fun D σ H => tb (wTr X.K c i ts Wout D) D σ H) := by
  refine ⟨fun pins s σ H D I h => ?_⟩
  have ok := I.ok
  have hfr : X.A.frames = some (X.env :: X.outer) := by rw [ok.frames, hs]
  have hloc : Loc X.env.scope n := .inl hln
  refine wpAny_Try_except ?_
  refine wpAny_mono ((hb (wTr X.K c i ts Wout D) (X.pn ++ pins) (fun e s₁ => wpAny (model X.prog X.w) X.A (noteFrame e X.env) (fun _ s₂ => wpAny (model X.prog X.w) X.A (setFlight e none) (fun _ s₃ =>
    wpAny (model X.prog X.w) X.A (handleBy e X.env [.ExceptHandler (some (.Name x np)) (some n) (b₀ :: suite) pos']) (SP X pins D) X.xe s₃) X.xe s₂) X.xe s₁) (fun u s' xx => ?_) PassesOwn.looking).run [] s σ H D (I.toTry _) h) (fun f s1 hsp => ?_) (fun e s1 he => he)
  · -- the catch
    obtain ⟨a, B, sI, pins', σ', H', cls, d, rfl, J', nb, up, sky, na, os, ag, b, hb1, hyes, hno⟩ := xx
    have J : Inv X pins σ' H' sI := J'.ofTry ok
    have sky' : Sky B (X.env :: X.outer) a (Zc cls d) X.env.locals s'.heap := by rw [← hs]; exact sky
    show wpAny (model X.prog X.w) X.A (noteFrame (.ref a) X.env) _ _ _
    refine Sky.land Zc.steady hfr hf sky' fun h3 fl3 up3 => ?_
    have J3 : Inv X pins σ' H' { s' with heap := h3 } := J.landed nb fl3.1 (up.trans up3) os ag
    obtain ⟨oe3, vs3, he3, hz3, hd3⟩ := fl3.there
    have notFr : ∀ {h : Heap} {o : Obj} {vs : Array Value}, h.FunFrames B (X.env :: X.outer) → h.get? a = some o → o.data = .fields vs → a ∉ frs (X.env :: X.outer) := fun {h o vs} ff e dd hm => by
      obtain ⟨_, o', e', hnf⟩ := ff.mem hm
      rw [e] at e'; cases e'
      exact hnf _ dd
    have nfr := notFr fl3.2.2.1 he3 hd3
    have nL : a ≠ X.env.locals := fun z => nfr (List.mem_filterMap.mpr ⟨X.env, List.mem_cons_self, by rw [hf, z]⟩)
    have nF : a ∉ X.fs := fun hm => by
      obtain ⟨e, he, q⟩ := List.mem_filterMap.mp hm
      exact nfr (List.mem_filterMap.mpr ⟨e, List.mem_cons_of_mem _ he, q⟩)
    have S3 := J3.suite he3 hd3 na nL nF
    refine wpAny_handleBy_cons (codeAny_handlers_test ?_) (by intro q; cases q)
    have LT : PySem.W.Looks (model X.prog X.w) h3 (typeOf (.ref a)) cls := fun A Q E s k q => wpAny_typeOf_ref (k _ _ he3) (by rw [hz3.1]; exact q)
    have LM := PySem.W.exm_one (M := model X.prog X.w) (J3.kIn) LT hb1
    have test : ∀ {Q : Value → Shared → Prop} {E : Value → Shared → Prop}, Q c { s' with heap := h3 } → wpAny (model X.prog X.w) (X.A.mark (some (.ref a))) (eval (.Name x np) X.env) Q E { s' with heap := h3 } := fun {Q E} q => by
      obtain ⟨hg, hdbg, hm | ⟨hm, hv, hnn⟩⟩ := hc
      · exact ld_glob (X := X.suite a ((a, oe3) :: (X.pn ++ pins))) S3 hg hm q hdbg
      · exact ld_blt (X := X.suite a ((a, oe3) :: (X.pn ++ pins))) S3 hg hm hv q hnn hdbg
    refine test (LM.here ?_)
    cases b with
    | true =>
      refine codeAny_handlers_suite_as ?_
      refine HandSPX.lands_againZ fl3 fun h4 fl4 up4 => ?_
      have J4 : Inv X pins σ' H' { s' with heap := h4 } := J.landed nb fl4.1 ((up.trans up3).trans up4) os ag
      obtain ⟨oe4, vs4, he4, hz4, hd4⟩ := fl4.there
      have nB : B.get? a = none := fl4.2.1
      have nfB : ∀ b o, sI.heap.get? b = some o → b ∉ X.fs → b ≠ X.env.locals → b ≠ a := fun b o e n1 n2 z => by
        have h1 : b ∉ frs X.stack := fun hm => by
          rw [hs] at hm
          obtain ⟨e', he', q'⟩ := List.mem_filterMap.mp hm
          rcases List.mem_cons.mp he' with q2 | q2
          · rw [q2, hf] at q'
            exact n2 (Option.some.inj q').symm
          · exact n1 (List.mem_filterMap.mpr ⟨e', q2, q'⟩)
        have h2 := nb b o e h1
        rw [z, nB] at h2
        cases h2
      have T4 : Inv X pins σ' (upd H' a (xO cls d a)) { s' with heap := h4 } := Inv.track J4 he4 hz4 hd4 na nL (fun p hp => nfB p.1 p.2 (J.pin p hp).1 (J.pin p hp).2.2.2.1 (J.pin p hp).2.2.1) (fun o e hx => by
        obtain ⟨o', e'⟩ := J.base.there a o e hx
        have n2 : a ≠ X.env.locals := nL
        exact nfB a o' e' nF n2 rfl)
      have S4 : Inv (X.suite a (X.pn ++ pins)) [] σ' (upd H' a (xO cls d a)) { s' with heap := h4 } := ⟨T4.ok.suite _ _, T4.os, T4.bare, T4.base, T4.loc, T4.cell, T4.free, T4.freeC, fun p hp => by rw [List.append_nil] at hp; exact T4.pin p hp, T4.hok, T4.len⟩
      refine store_ok (X := X.suite a (X.pn ++ pins)) (v := .ref a) S4 hN hi hloc rfl (fun s5 S5 => ?_) (.inr hln)
      refine wpAny_mono ((hsu a cls d (X.pn ++ pins)).run [] s5 _ _ _ S5 (hyes rfl a na)) (fun f s6 hsp => ?_) (fun _ _ z => False.elim z)
      have end_ : ∀ {σ6 : L2.St} {H6 : Hp} {Q : Shared → Prop}, Inv (X.suite a (X.pn ++ pins)) [] σ6 H6 s6 → (∀ s7, Inv X pins (σ6.set i none) H6 s7 → Q s7) →
          wpAny (model X.prog X.w) X.A (do bindName X.env n .none; unbindBehindTheSuite X.env n pos') (fun _ s7 => Q s7) X.xe s6 := fun {σ6 H6 Q} S6 hq =>
        gone_ok (⟨ok, S6.os, S6.bare, S6.base, S6.loc, S6.cell, S6.free, S6.freeC, fun p hp => S6.pin p (List.mem_append_left _ hp), S6.hok, S6.len⟩ : Inv X pins σ6 H6 s6) hN hi hln hq
      cases f with
      | next =>
        obtain ⟨σ6, H6, S6, q6⟩ := hsp
        exact end_ S6 fun s7 J7 => ⟨_, _, J7, q6⟩
      | brk =>
        obtain ⟨σ6, H6, S6, q6⟩ := hsp
        exact end_ S6 fun s7 J7 => ⟨_, _, J7, q6⟩
      | cont =>
        obtain ⟨σ6, H6, S6, q6⟩ := hsp
        exact end_ S6 fun s7 J7 => ⟨_, _, J7, q6⟩
      | ret u =>
        obtain ⟨v6, σ6, H6, S6, r6, q6⟩ := hsp
        exact end_ S6 fun s7 J7 => ⟨_, _, _, J7, r6, q6⟩
    | false =>
      show wpAny _ X.A (handleBy (.ref a) X.env []) _ _ _
      refine wpAny_handleBy_nil ?_
      obtain ⟨k1, k2, k3, oe, vs, T, oT, ts', he, hz, hd, h1, hr⟩ := id fl3
      unfold PySem.passOn
      refine wpAny_bind (wpAny_field he hd h1 ?_)
      rw [if_neg (show ¬ ((Value.ref T == Value.none) = true) from by simp)]
      have fin : wpAny (model X.prog X.w) X.A (setFlight (.ref a) X.env.frame) (fun _ s4 => wpAny (model X.prog X.w) X.A (throw (.ref a) : Sem Flow) (SP X pins D) X.xe s4) X.xe { s' with heap := h3 } := by
        rw [hf]
        refine HandSPX.setFlight_upZ fl3 fun h4 hh4 up4 => wpAny_throw (tk _ _ ?_)
        exact ⟨a, B, sI, pins, σ', H', cls, d, rfl, J, nb, (up.trans up3).trans up4, .inr (.inr (by rw [hs]; exact hh4)), na, os, ag, hno rfl⟩
      first
        | exact wpAny_bind (wpAny_pure (wpAny_bind fin))
        | exact wpAny_bind fin
  · cases f with
    | next =>
      obtain ⟨σ', H', J', q⟩ := hsp
      exact wpAny_execs_nil ⟨σ', H', J'.ofTry ok, q⟩
    | brk =>
      obtain ⟨σ', H', J', q⟩ := hsp
      exact ⟨σ', H', J'.ofTry ok, q⟩
    | cont =>
      obtain ⟨σ', H', J', q⟩ := hsp
      exact ⟨σ', H', J'.ofTry ok, q⟩
    | ret u =>
      obtain ⟨v, σ', H', J', r, q⟩ := hsp
      exact ⟨v, σ', H', J'.ofTry ok, r, q⟩
end

/-! ### the rules of trees -/
def noX : Fl → Fl
  | .ex _ _ _ => .bad
  | r => r
/-- except C: suite -/
def sTry (cs : List Str) (C : Str) (d1 d2 : Lo → Fl) : Lo → Fl := fun ev => match d1 ev with
  | .ex c fs e => if c ∈ cs then (if xsub c C = true then noX (d2 e) else .ex c fs e) else .bad
  | r => r
def Fl.drop (i : Nat) : Fl → Fl
  | .nx e => .nx (wipeL [i] e)
  | .bk e => .bk (wipeL [i] e)
  | .ct e => .ct (wipeL [i] e)
  | .rt t => .rt t
  | _ => .bad
/-- except C as e: suite -/
def sTryA (cs : List Str) (C : Str) (i : Nat) (d1 d2 : Lo → Fl) : Lo → Fl := fun ev => match d1 ev with
  | .ex c fs e => if c ∈ cs then (if xsub c C = true then (d2 (e.set i (some (.exc c fs, false)))).drop i else .ex c fs e) else .bad
  | r => r
section
variable {K : PySem.W.Frag} {S0 : Addr → Prop} {H0 H : Hp} {ps : List (V × T)} {σ : L2.St} {ev : Lo}
theorem Rp.gone {i : Nat} (r : Rp K S0 H0 ps σ H ev) (hi : ∀ x, ev[i]? ≠ some (some x)) : Rp K S0 H0 ps (σ.set i none) H ev := by
  have out : ∀ {j : Nat} {x : T × Bool}, ev[j]? = some (some x) → (σ.set i none)[j]? = σ[j]? := fun {j x} h => by
    rw [List.getElem?_set_ne]
    intro z
    subst z
    exact hi x h
  have own : ∀ a, Own (σ.set i none) ev a ↔ Own σ ev a := fun a => by
    constructor
    · rintro ⟨j, t, h1, h2⟩
      rw [out h1] at h2
      exact ⟨j, t, h1, h2⟩
    · rintro ⟨j, t, h1, h2⟩
      rw [← out h1] at h2
      exact ⟨j, t, h1, h2⟩
  have mv : Mv (Sx S0 σ ev) (Sx S0 (σ.set i none) ev) H H := mv_less fun a z => z.elim .inl fun y => .inr ((own a).mp y)
  refine ⟨r.same, r.s0, fun j t h => ?_, fun j t h => ?_, fun j k t u a h1 h2 h3 h4 => ?_, fun p hp => (r.pin p hp).mv mv, by rw [List.length_set]; exact r.len⟩
  · obtain ⟨v, h1, h2⟩ := r.frz j t h
    exact ⟨v, (out h).trans h1, h2.mv mv⟩
  · obtain ⟨a, h1, h2, h3, c⟩ := r.own j t h
    exact ⟨a, (out h).trans h1, h2, h3, c.mv mv rfl⟩
  · rw [out h1] at h3
    rw [out h2] at h4
    exact r.inj j k t u a h1 h2 h3 h4
theorem wipe1_none {i : Nat} (ev : Lo) : ∀ x, (wipeL [i] ev)[i]? ≠ some (some x) := fun x h => (wipeL_some h).2 (by simp)
end
section
variable {X : Cx} {C n : Str} {body suite : List Stmt} {b₀ : Stmt} {np pos pos' : Pos} {S0 : Addr → Prop} {H0 : Hp} {W : WX} {d1 d2 : Lo → Fl} {md : Md} {k i : Nat} {cs : List Str} {cv : Value}
/-- the context of a try's body -/
theorem Cn.tr (cn : Cn X W k) {W' : WX} {pn : List (Addr × Obj)} {xe : Value → Shared → Prop} (tk : Takes (X.tr pn xe) W') (po : PassesOwn (model X.prog X.w) X.A X.env xe) : Cn (X.tr pn xe) W' k := ⟨tk, cn.room, cn.gu, cn.calm, cn.nd, po⟩
theorem s_try (cn : Cn X W k) (hs : X.stack = X.env :: X.outer := by rfl) (hf : X.env.frame = some X.env.locals := by rfl) (hc : Names X C cv) (he : ∀ c ∈ cs, PySem.W.exmOne X.K (.ref (He.ga X.K c)) cv = some (xsub c C))
    (hb : ∀ (W' : WX) (pn : List (Addr × Obj)) (xe : Value → Shared → Prop), Cn (X.tr pn xe) W' k → PSs (X.tr pn xe) body (tS md X.K S0 H0 W' d1))
    (hsu : ∀ (a : Addr) (pn : List (Addr × Obj)), PSs (X.suite a pn) (b₀ :: suite) (tS md X.K S0 H0 W0 d2)) :
    PS X (.Try body [.ExceptHandler (some (.Name C np)) none (b₀ :: suite) pos'] [] [] pos) (tS md X.K S0 H0 W (sTry cs C d1 d2)) := by
  refine ps_imp (ps_try_only (tb := fun W' => tS md X.K S0 H0 W' d1) (ts := fun _ _ _ => tS md X.K S0 H0 W0 d2) hs hf hc cn.tk (fun W' pn xe tk po => hb W' pn xe (cn.tr tk po)) fun a oe cls d pn _ _ => hsu a _) fun D σ H ⟨ev, ps, r, z⟩ => ⟨ev, ps, r, ?_⟩
  unfold sTry at z
  cases e1 : d1 ev with
  | ex c fs e =>
    simp only [e1] at z
    by_cases hm : c ∈ cs
    · rw [if_pos hm] at z
      intro cls dd σ' H' r' x
      have xc := x.1
      subst xc
      refine ⟨_, he c hm, fun hb2 a na => ?_, fun hb2 => ?_⟩
      · rw [if_pos hb2] at z
        refine ⟨e, ps, r', ?_⟩
        cases e2 : d2 e with
        | ex c2 fs2 e3 => rw [e2] at z; exact z.elim
        | _ => rw [e2] at z; exact z
      · rw [hb2, if_neg Bool.false_ne_true] at z
        exact z _ dd σ' H' r' x
    · rw [if_neg hm] at z
      exact z.elim
  | _ => simp only [e1] at z; exact z
theorem s_tryA (cn : Cn X W k) (i : Nat) (hs : X.stack = X.env :: X.outer := by rfl) (hf : X.env.frame = some X.env.locals := by rfl) (hi : X.N[i]? = some n := by rfl) (hln : X.env.kindOf n = some .local := by rfl) (hc : Names X C cv) (he : ∀ c ∈ cs, PySem.W.exmOne X.K (.ref (He.ga X.K c)) cv = some (xsub c C))
    (hb : ∀ (W' : WX) (pn : List (Addr × Obj)) (xe : Value → Shared → Prop), Cn (X.tr pn xe) W' k → PSs (X.tr pn xe) body (tS md X.K S0 H0 W' d1))
    (hsu : ∀ (a : Addr) (pn : List (Addr × Obj)), PSs (X.suite a pn) (b₀ :: suite) (tS md X.K S0 H0 W0 d2)) :
    PS X (.Try body [.ExceptHandler (some (.Name C np)) (some n) (b₀ :: suite) pos'] [] [] pos) (tS md X.K S0 H0 W (sTryA cs C i d1 d2)) := by
  refine ps_imp (ps_try_trk (tb := fun W' => tS md X.K S0 H0 W' d1) (ts := fun _ _ _ => tS md X.K S0 H0 W0 d2) hs hf cn.nd hi hln hc cn.tk (fun W' pn xe tk po => hb W' pn xe (cn.tr tk po)) fun a cls d pn => hsu a pn) fun D σ H ⟨ev, ps, r, z⟩ => ⟨ev, ps, r, ?_⟩
  unfold sTryA at z
  cases e1 : d1 ev with
  | ex c fs e =>
    simp only [e1] at z
    by_cases hm : c ∈ cs
    · rw [if_pos hm] at z
      intro cls dd σ' H' r' x
      obtain ⟨xc, xd⟩ := id x
      subst xc
      refine ⟨_, he c hm, fun hb2 a na => ?_, fun hb2 => ?_⟩
      · rw [if_pos hb2] at z
        have sm : Same H' (upd H' a (xO (.ref (He.ga X.K c)) dd a)) := same_upd na
        have nS : ¬ Sx S0 σ' e a := fun y => r'.sx a y na
        have isT : IsT X.K (Sx S0 σ' e) (upd H' a (xO (.ref (He.ga X.K c)) dd a)) (.ref a) (.exc c fs) := by
          rcases xd with ⟨rfl, rfl⟩ | ⟨d, xs, rfl, nd, g, rf⟩
          · exact .exc0 nS upd_same
          · exact .exc nS upd_same nd (sm _ _ g) (rf.mv (mv_same sm))
        have r2 := r'.store (i := i) sm (.inl ⟨rfl, isT⟩)
        refine ⟨_, ps, r2, ?_⟩
        cases e2 : d2 (e.set i (some (.exc c fs, false))) with
        | ex c2 fs2 e3 => rw [e2] at z; exact z.elim
        | bad => rw [e2] at z; exact z.elim
        | rt t => rw [e2] at z; exact z
        | nx e3 => rw [e2] at z; exact fun σ3 H3 r3 => z _ _ ((r3.forget [i]).gone (wipe1_none e3))
        | bk e3 => rw [e2] at z; exact fun σ3 H3 r3 => z _ _ ((r3.forget [i]).gone (wipe1_none e3))
        | ct e3 => rw [e2] at z; exact fun σ3 H3 r3 => z _ _ ((r3.forget [i]).gone (wipe1_none e3))
      · rw [hb2, if_neg Bool.false_ne_true] at z
        exact z _ dd σ' H' r' x
    · rw [if_neg hm] at z
      exact z.elim
  | _ => simp only [e1] at z; exact z
/-- in a suite: a name is set -/
theorem s_setS {e : Expr} {d : Lo → R T} (nd : X.N.Nodup) (i : Nat) {x : Str} {p' : Pos} (he : PE X e (tG .s X.K S0 H0 W d)) (hi : X.N[i]? = some x := by rfl) (hx : Loc X.env.scope x := by first | exact Or.inl rfl | exact Or.inr rfl) (hs : swapsWith e (some (.Name x p')) pos.line X.env = pure false := by rfl)
    (hf : X.fn x = true ∨ X.env.scope.names.lookup x = some .local := by first | exact .inl rfl | exact .inr rfl) : PS X (.Assign [.Name x p'] e pos) (tS md X.K S0 H0 W (sSet i d)) := ps_imp (ps_set nd hi hx he hs hf) imSet
end
end DL

set_option maxHeartbeats 2000000
/-! refusals that are caught: whether one is of a class, what it tells -/
namespace DL
open PySem PySem.Spec PyProof.Rows L2

/-- what is known of a law's classes -/
structure XF (K : PySem.W.Frag) (mg : Str → Option Value) (cs : List Str) : Prop where
  g : ∀ c ∈ cs, mg c = some (.ref (He.ga K c))
  ve : mg "ValueError" = none
  cl : ∀ c ∈ cs, Cl K c
  pr : ∀ c ∈ cs, ∀ C ∈ ("ValueError" : Str) :: cs, Pr K c C
def xfK (K : PySem.W.Frag) (cs : List Str) : Bool := (He.Fa.free "ValueError").ok K && ((cs.all fun c => (He.Fa.glo c).ok K) && ((cs.all fun c => clB K c) && cs.all fun c => (("ValueError" : Str) :: cs).all fun C => prB K c C))
theorem xfK_ok {K : PySem.W.Frag} {h : Heap} {mg : Str → Option Value} {cs : List Str} (X : K.In h) (G : h.Ns mainGlobals mg) (e : xfK K cs = true) : XF K mg cs := by
  unfold xfK at e
  simp only [Bool.and_eq_true, List.all_eq_true] at e
  obtain ⟨e0, e1, e2, e3⟩ := e
  exact ⟨fun c hc => He.glo_ok X G (e1 c hc), He.free_ok X G e0, fun c hc => clB_ok (e2 c hc), fun c hc C hC => prB_ok (e3 c hc C hC)⟩
/-- a field of these classes -/
structure XA (K : PySem.W.Frag) (cs : List Str) (f : Str) : Prop where
  cl : ∀ c ∈ cs, Cl K c
  no : ∀ c ∈ cs, PySem.W.findIn K (.ref (He.ga K c)) f = some none
def xaK (K : PySem.W.Frag) (cs : List Str) (f : Str) : Bool := (cs.all fun c => clB K c) && cs.all fun c => He.eqO (PySem.W.findIn K (.ref (He.ga K c)) f) (some none)
theorem xaK_ok {K : PySem.W.Frag} {cs : List Str} {f : Str} (e : xaK K cs f = true) : XA K cs f := by
  unfold xaK at e
  simp only [Bool.and_eq_true, List.all_eq_true] at e
  exact ⟨fun c hc => clB_ok (e.1 c hc), fun c hc => He.eqO_ok (e.2 c hc)⟩
section
variable {K : PySem.W.Frag} {mg : Str → Option Value} {cs : List Str}
theorem XF.exm (x : XF K mg cs) {C : Str} (hC : C ∈ cs) (hv : C ≠ "ValueError") : ∀ c ∈ cs, PySem.W.exmOne K (.ref (He.ga K c)) (.ref (He.ga K C)) = some (xsub c C) := fun c hc => by
  have := (x.pr c hc C (List.mem_cons_of_mem _ hC)).exm
  unfold clV at this
  rw [if_neg hv] at this
  exact this
theorem XF.kit (x : XF K mg cs) {C : Str} (hC : C ∈ cs) (hv : C ≠ "ValueError") : ∀ c ∈ cs, PySem.W.kitOne K (.ref (He.ga K c)) (.ref (He.ga K C)) = some (xsub c C) := fun c hc => by
  have := (x.pr c hc C (List.mem_cons_of_mem _ hC)).isi
  unfold clV at this
  rw [if_neg hv] at this
  exact this
theorem XF.kitV (x : XF K mg cs) : ∀ c ∈ cs, PySem.W.kitOne K (.ref (He.ga K c)) (.type "ValueError") = some (xsub c "ValueError") := fun c hc => by
  have := (x.pr c hc "ValueError" List.mem_cons_self).isi
  unfold clV at this
  rw [if_pos rfl] at this
  exact this
end

/-! ### of a class? -/
def XAt (K : PySem.W.Frag) (H : Hp) (x : V) (D : Addr) : Prop := ∃ (a : Addr) (d : Option Addr), x = .ref a ∧ H a = some (xO (.ref D) d a) ∧ ∀ dd, d = some dd → ∃ fs, H dd = some (.xd fs)
section
variable {X : Cx} {pins : List (Addr × Obj)} {σ : L2.St} {H : Hp} {s : Shared}
theorem kit_x {c : Str} {x : V} {u : Value} (C : Cl X.K c) (I : Inv X pins σ H s) (rx : RelV x u) (at_ : XAt X.K H x (He.ga X.K c)) : ∃ P : Heap → Prop, PySem.W.KitX X.K u (.ref (He.ga X.K c)) P ∧ P s.heap ∧ u ≠ .builtin "__main__.__loader__#opaque" := by
  obtain ⟨a, d, rfl, ha, hd⟩ := at_
  obtain rfl : u = Value.ref a := rx
  obtain ⟨⟨oe, vs, e1, e2, e3⟩, _⟩ := I.hok a _ ha
  have no : PySem.W.notCls oe = true := by unfold PySem.W.notCls; rw [e3] <;> rfl
  cases d with
  | none =>
    refine ⟨_, PySem.W.kitx_exc (ox := oe) (od := none) C.cl C.ga C.gg C.sub C.gc C.oc C.ot C.mo, ⟨e1, e2.1, no, ?_⟩, fun z => nomatch z⟩
    rw [e2.2]; exact trivial
  | some dd =>
    obtain ⟨fs, hf⟩ := hd dd rfl
    obtain ⟨mA, hns, hr⟩ := (show ObjOk X.prog X.w H s.heap dd (.xd fs) from I.hok dd _ hf)
    obtain ⟨od, ho, hl⟩ := lookIn_ns hns
    refine ⟨_, PySem.W.kitx_exc (ox := oe) (od := some od) C.cl C.ga C.gg C.sub C.gc C.oc C.ot C.mo, ⟨e1, e2.1, no, ?_⟩, fun z => nomatch z⟩
    rw [e2.2]; exact ho
/-- isinstance(e, C) of a refusal -/
def rIsX (K : PySem.W.Frag) : List V → Hp → VK → Prop := fun xs H Q => ∃ (x y : V) (c : Str) (u : Value) (b : Bool), xs = [x, y] ∧ ClsV y u ∧ Cl K c ∧ XAt K H x (He.ga K c) ∧ PySem.W.kitOne K (.ref (He.ga K c)) u = some b ∧ Q (.bl b) H
theorem call_isX : CallR X (.builtin "isinstance") (rIsX X.K) := by
  rintro pins s σ H xs us Q I r ⟨x, y, c, u, b, rfl, k, C, at_, e, q⟩
  obtain ⟨u1, u2, rfl, r1, r2⟩ := vals2 r
  obtain rfl := k.eq r2
  obtain ⟨P, Z, p, hx⟩ := kit_x C I r1 at_
  exact PySem.W.kia_one Z I.kIn p e hx fun tk => ⟨.bl b, H, I.tok tk, rfl, q⟩
/-- isinstance(e, (C, D, ..)) -/
def rIsXT (K : PySem.W.Frag) : List V → Hp → VK → Prop := fun xs H Q => ∃ (x : V) (tp : Addr) (ys : List V) (c : Str) (ws : List Value) (b : Bool), xs = [x, .ref tp] ∧ H tp = some (.tup ys) ∧ Paired ClsV ys ws ∧ Cl K c ∧ XAt K H x (He.ga K c) ∧ PySem.W.kitAny K (.ref (He.ga K c)) ws = some b ∧ Q (.bl b) H
theorem call_isXT : CallR X (.builtin "isinstance") (rIsXT X.K) := by
  rintro pins s σ H xs us Q I r ⟨x, tp, ys, c, ws, b, rfl, hT, k, C, at_, e, q⟩
  obtain ⟨u1, u2, rfl, r1, r2⟩ := vals2 r
  obtain rfl : u2 = Value.ref tp := r2
  obtain ⟨P, Z, p, hx⟩ := kit_x C I r1 at_
  obtain ⟨_, its, rv, o, g1, g2, n, g3⟩ := (show ObjOk X.prog X.w H s.heap tp (.tup ys) from I.hok tp _ hT)
  obtain rfl := ClsV.all k rv
  obtain ⟨oc, od, dt, sl⟩ := o
  obtain rfl : oc = .type "tuple" := g2
  obtain rfl : dt = _ := g3
  exact PySem.W.kia_tup Z I.kIn p g1 e hx fun tk => ⟨.bl b, H, I.tok tk, rfl, q⟩
end
def isiX (cs : List Str) (C : Str) : List T → Option T
  | [.exc c _] => if c ∈ cs then some (.bl (xsub c C)) else none
  | _ => none
def isiXs (cs Cs : List Str) : List T → Option T
  | [.exc c _] => if c ∈ cs then some (.bl (Cs.any fun C => xsub c C)) else none
  | _ => none
theorem isiX_in {cs : List Str} {C c : Str} {fs : List (Str × T)} (h : c ∈ cs) : isiX cs C [.exc c fs] = some (.bl (xsub c C)) := if_pos h
theorem isiX_out {cs : List Str} {C c : Str} {fs : List (Str × T)} (h : ¬ c ∈ cs) : isiX cs C [.exc c fs] = none := if_neg h
theorem isiXs_in {cs Cs : List Str} {c : Str} {fs : List (Str × T)} (h : c ∈ cs) : isiXs cs Cs [.exc c fs] = some (.bl (Cs.any fun C => xsub c C)) := if_pos h
theorem isiXs_out {cs Cs : List Str} {c : Str} {fs : List (Str × T)} (h : ¬ c ∈ cs) : isiXs cs Cs [.exc c fs] = none := if_neg h
section
variable {K : PySem.W.Frag} {S : Addr → Prop} {H : Hp} {v : V} {c : Str} {fs : List (Str × T)}
theorem xat_of (p : Pm K .w S H H v (.exc c fs)) : XAt K H v (He.ga K c) := by
  rcases p with p | ⟨a, _, p⟩
  · cases p with
    | exc0 n h => exact ⟨_, none, rfl, h, fun dd e => by cases e⟩
    | exc n h m g r => exact ⟨_, some _, rfl, h, fun dd e => by cases e; exact ⟨_, g⟩⟩
  · cases p
end
section
variable {X : Cx} {e : Expr} {S S0 : Addr → Prop} {H0 : Hp} {W : WX} {d : Lo → R T} {p p2 pos : Pos} {cs : List Str} {C : Str}
theorem e_isX (x : XF X.K X.mg cs) (hm : X.mg "isinstance" = none) (hC : C ∈ cs) (hv : C ≠ "ValueError") (ha : PE X e (tG .w X.K S0 H0 W d)) (hg : Gl X "isinstance" := by rfl) (hg2 : Gl X C := by rfl)
    (hdb : (C == ("__debug__" : Str)) = false := by decide)
    (hs : starEach [e, .Name C p2] X.env = (false, eval e X.env) :: starEach [.Name C p2] X.env := by rfl) (hs2 : starEach [.Name C p2] X.env = (false, eval (.Name C p2) X.env) :: starEach [] X.env := by rfl)
    (hpl : (backTo pos (starEach [.Name C p2] X.env)).any (·.1) = false := by rfl) :
    PE X (.Call (.Name "isinstance" p) [e, .Name C p2] [] pos) (tG .f X.K S0 H0 W (dBlt (isiX cs C) (dCons d dNil))) := by
  refine pe_imp (pe_callB call_isX hg hm (by decide +kernel) (pa_cons ha (pa_cons (pe_glob (v := .ref (He.ga X.K C)) hg2 (x.g C hC) rfl hdb) pa_nil hs2) hs) (he := hs) (hpl := hpl)) fun σ H Q ⟨ev, ps, r0, z⟩ => ?_
  refine ⟨ev, ps, r0, R.on_mono (R.on_bind (R.on_bind z)) (fun t q v H1 s1 p1 => ?_) fun _ _ q => q⟩
  have q : (ofO (isiX cs C [t])).on _ _ := q
  cases t with
  | exc c fs =>
    by_cases hc : c ∈ cs
    · rw [isiX_in hc] at q
      exact ⟨v, _, c, _, _, rfl, .own _, x.cl c hc, xat_of p1, x.kit hC hv c hc, q _ _ s1 (one_bl _)⟩
    · rw [isiX_out hc] at q; exact q.elim
  | _ => exact q.elim
theorem e_isXV (x : XF X.K X.mg cs) (hm : X.mg "isinstance" = none) (ha : PE X e (tG .w X.K S0 H0 W d)) (hg : Gl X "isinstance" := by rfl) (hg2 : Gl X "ValueError" := by rfl)
    (hs : starEach [e, .Name "ValueError" p2] X.env = (false, eval e X.env) :: starEach [.Name "ValueError" p2] X.env := by rfl) (hs2 : starEach [.Name "ValueError" p2] X.env = (false, eval (.Name "ValueError" p2) X.env) :: starEach [] X.env := by rfl)
    (hpl : (backTo pos (starEach [.Name "ValueError" p2] X.env)).any (·.1) = false := by rfl) :
    PE X (.Call (.Name "isinstance" p) [e, .Name "ValueError" p2] [] pos) (tG .f X.K S0 H0 W (dBlt (isiX cs "ValueError") (dCons d dNil))) := by
  refine pe_imp (pe_callB call_isX hg hm (by decide +kernel) (pa_cons ha (pa_cons (pe_bltn hg2 x.ve (by decide +kernel) (v := .ty "ValueError") rfl (by decide) (by decide)) pa_nil hs2) hs) (he := hs) (hpl := hpl)) fun σ H Q ⟨ev, ps, r0, z⟩ => ?_
  refine ⟨ev, ps, r0, R.on_mono (R.on_bind (R.on_bind z)) (fun t q v H1 s1 p1 => ?_) fun _ _ q => q⟩
  have q : (ofO (isiX cs "ValueError" [t])).on _ _ := q
  cases t with
  | exc c fs =>
    by_cases hc : c ∈ cs
    · rw [isiX_in hc] at q
      exact ⟨v, _, c, _, _, rfl, .ty _, x.cl c hc, xat_of p1, x.kitV c hc, q _ _ s1 (one_bl _)⟩
    · rw [isiX_out hc] at q; exact q.elim
  | _ => exact q.elim
end
/-! a tuple of classes -/
inductive CNames (X : Cx) (cs : List Str) : List Expr → List Str → Prop
  | nil : CNames X cs [] []
  | cons {C : Str} {p : Pos} {es : List Expr} {Cs : List Str} (hC : C ∈ cs) (hv : C ≠ "ValueError") (hg : Gl X C) (hdb : (C == ("__debug__" : Str)) = false) (hs : starEach (.Name C p :: es) X.env = (false, eval (.Name C p) X.env) :: starEach es X.env) (r : CNames X cs es Cs) : CNames X cs (.Name C p :: es) (C :: Cs)
section
variable {X : Cx} {cs : List Str}
def tK (vs : List V) : TA := fun σ H Q => Q vs H
theorem pa_names (x : XF X.K X.mg cs) : ∀ {es : List Expr} {Cs : List Str}, CNames X cs es Cs → PA X es (tK (Cs.map fun C => .ref (He.ga X.K C)))
  | _, _, .nil => pa_nil
  | _, _, .cons hC hv hg hdb hs r => by
    have h := pa_cons (pe_glob (X := X) (v := .ref (He.ga X.K _)) hg (x.g _ hC) rfl hdb) (pa_names x r) hs
    exact ⟨fun pos pins s σ H Q I z => h.run pos pins s σ H Q I z⟩
theorem names_any (x : XF X.K X.mg cs) {c : Str} (hc : c ∈ cs) : ∀ {es : List Expr} {Cs : List Str}, CNames X cs es Cs →
    PySem.W.kitAny X.K (.ref (He.ga X.K c)) (Cs.map fun C => .ref (He.ga X.K C)) = some (Cs.any fun C => xsub c C)
  | _, _, .nil => kitAny_nil
  | _, C :: Cs, .cons hC hv hg hdb hs r => by
    rw [List.map_cons, List.any_cons]
    refine kitAny_cons (x.kit hC hv c hc) (fun h => ?_) fun h => by rw [h]; rfl
    rw [h]
    exact names_any x hc r
theorem names_cls {es : List Expr} {Cs : List Str} : CNames X cs es Cs → Paired ClsV (Cs.map fun C => V.ref (He.ga X.K C)) (Cs.map fun C => Value.ref (He.ga X.K C))
  | .nil => .nil
  | .cons hC hv hg hdb hs r => .cons (.own _) (names_cls r)
variable {e : Expr} {es : List Expr} {S S0 : Addr → Prop} {H0 : Hp} {W : WX} {d : Lo → R T} {p tp pos : Pos} {kk : Nat} {Cs : List Str}
theorem names_len : ∀ {es : List Expr} {Cs : List Str}, CNames X cs es Cs → Cs.length = es.length
  | _, _, .nil => rfl
  | _, _, .cons hC hv hg hdb hs r => by rw [List.length_cons, List.length_cons, names_len r]
theorem e_isXs (x : XF X.K X.mg cs) (hm : X.mg "isinstance" = none) (hn : CNames X cs es Cs) (hl : es.length ≤ 1000 := by decide) (ha : PE X e (tG .w X.K S0 H0 W d)) (hg : Gl X "isinstance" := by rfl)
    (hs : starEach [e, .Tuple es kk tp] X.env = (false, eval e X.env) :: starEach [.Tuple es kk tp] X.env := by rfl) (hs2 : starEach [.Tuple es kk tp] X.env = (false, eval (.Tuple es kk tp) X.env) :: starEach [] X.env := by rfl)
    (hpl : (backTo pos (starEach [.Tuple es kk tp] X.env)).any (·.1) = false := by rfl) :
    PE X (.Call (.Name "isinstance" p) [e, .Tuple es kk tp] [] pos) (tG .f X.K S0 H0 W (dBlt (isiXs cs Cs) (dCons d dNil))) := by
  refine pe_imp (pe_callB call_isXT hg hm (by decide +kernel) (pa_cons ha (pa_cons (pe_tup (pa_names x hn)) pa_nil hs2) hs) (he := hs) (hpl := hpl)) fun σ H Q ⟨ev, ps, r0, z⟩ => ?_
  refine ⟨ev, ps, r0, R.on_mono (R.on_bind (R.on_bind z)) (fun t q v H1 s1 p1 => ?_) fun _ _ q => q⟩
  have q : (ofO (isiXs cs Cs [t])).on _ _ := q
  cases t with
  | exc c fs =>
    by_cases hc : c ∈ cs
    · rw [isiXs_in hc] at q
      refine ⟨by rw [List.length_map, names_len hn]; exact Nat.le_trans hl (by decide), fun a hna => ?_⟩
      have s2 : Same H1 (upd H1 a (.tup (Cs.map fun C => V.ref (He.ga X.K C)))) := same_upd hna
      have p2 := Pm.up (m := .w) s2 p1
      exact ⟨v, a, _, c, _, _, rfl, upd_same, names_cls hn, x.cl c hc, xat_of p2, names_any x hc hn, q _ _ (s1.trans s2) (one_bl _)⟩
    · rw [isiXs_out hc] at q; exact q.elim
  | _ => exact q.elim
end

/-! ### what a refusal tells -/
def atT (cs : List Str) (f : Str) : T → Option T
  | .exc c fs => if c ∈ cs then fs.lookup f else none
  | _ => none
section
variable {X : Cx} {e : Expr} {S S0 : Addr → Prop} {H0 : Hp} {W : WX} {d : Lo → R T} {pos : Pos} {cs : List Str} {f : Str} {te : TE}
def tXg (K : PySem.W.Frag) (f : Str) (te : TE) : TE := fun σ H Q => te σ H fun x H1 => ∃ (a dd : Addr) (c : Str) (fs : List (Str × V)) (v : V), x = .ref a ∧ Cl K c ∧ PySem.W.findIn K (.ref (He.ga K c)) f = some none ∧ H1 a = some (xO (.ref (He.ga K c)) (some dd) a) ∧ H1 dd = some (.xd fs) ∧ fs.lookup f = some v ∧ Q v H1
theorem pe_xg (he : PE X e te) (hb : attributeBase e f X.env (eval e X.env) = eval e X.env) : PE X (.Attribute e f pos) (tXg X.K f te) := by
  refine ⟨fun pins s σ H Q I h => ?_⟩
  refine attr_of hb (thn (he.run pins s σ H _ I h) ?_)
  rintro u s1 ⟨x, H1, I1, rx, a, dd, c, fs, v, rfl, C, hno, ha, hd, l, q⟩
  obtain rfl : u = Value.ref a := rx
  obtain ⟨⟨oe, vs, e1, e2, e3⟩, _⟩ := I1.hok a _ ha
  obtain ⟨mA, hns, hr⟩ := (show ObjOk X.prog X.w H1 s1.heap dd (.xd fs) from I1.hok dd _ hd)
  obtain ⟨od, ho, hl⟩ := lookIn_ns hns
  obtain ⟨u, hu, ru⟩ := RelO.some_of (v := v) (o := mA f) (by rw [← l]; exact hr f)
  have at_ : PySem.W.InstAt s1.heap a oe (He.ga X.K c) (some od) := ⟨e1, e2.1, by unfold PySem.W.notCls; rw [e3] <;> rfl, by rw [e2.2]; exact ho⟩
  refine HandSPX.exc_get I1.kIn at_ C.ga C.gg C.sub (PySem.W.findObj_own C.hd hno rfl (by rw [hl, hu])) (handed_of ru) ?_
  exact ⟨v, H1, I1.tok _, ru, q⟩
theorem lookup_fs {K : PySem.W.Frag} {H : Hp} : ∀ {xs : List (Str × V)} {fs : List (Str × T)} {t : T}, IsFs K S H xs fs → fs.lookup f = some t → ∃ v, xs.lookup f = some v ∧ IsT K S H v t
  | _, _, _, .nil, h => by cases h
  | (k, v) :: xs, (_, u) :: fs, t, .cons h r, e => by
    rw [List.lookup_cons] at e ⊢
    cases q : f == k with
    | true => rw [q] at e; cases e; exact ⟨v, by simp, h⟩
    | false =>
      rw [q] at e
      obtain ⟨w, a, b⟩ := lookup_fs r e
      exact ⟨w, by simpa using a, b⟩
theorem e_at (x : XA X.K cs f) (ha : PE X e (tG .w X.K S0 H0 W d)) (hb : attributeBase e f X.env (eval e X.env) = eval e X.env := by rfl) : PE X (.Attribute e f pos) (tG .s X.K S0 H0 W (d1 (atT cs f) d)) :=
  pe_imp (pe_xg ha hb) (fun σ H Q h => im1 (r := fun x H1 Q => ∃ (a dd : Addr) (c : Str) (fs : List (Str × V)) (v : V), x = .ref a ∧ Cl X.K c ∧ PySem.W.findIn X.K (.ref (He.ga X.K c)) f = some none ∧ H1 a = some (xO (.ref (He.ga X.K c)) (some dd) a) ∧ H1 dd = some (.xd fs) ∧ fs.lookup f = some v ∧ Q v H1)
    (fun S H y t w Q hs p e z => by
      cases t with
      | exc c fs =>
        obtain ⟨hc, e⟩ : c ∈ cs ∧ fs.lookup f = some w := by
          have e' : (if c ∈ cs then fs.lookup f else none) = some w := e
          by_cases hc : c ∈ cs
          · rw [if_pos hc] at e'; exact ⟨hc, e'⟩
          · rw [if_neg hc] at e'; cases e'
        rcases p with p | ⟨a, _, p⟩
        · cases p with
          | exc0 n h => cases e
          | exc n h m g r =>
            obtain ⟨v, l, iv⟩ := lookup_fs r e
            exact ⟨_, _, c, _, v, rfl, x.cl c hc, x.no c hc, h, g, l, z v H (Same.refl _) iv⟩
        · cases p
      | _ => cases e) σ H Q h)
end

/-! ### "..".join(list of texts) -/
def strsL : List T → Option (List Str)
  | [] => some []
  | .str b :: ts => (strsL ts).map (b :: ·)
  | _ => none
def joinT (a : Str) : T → Option T
  | .lst ts => (strsL ts).bind fun ys => if (ys.map (·.length)).sum + ys.length * a.length ≤ 16777216 then some (.str (Txt.join a ys)) else none
  | _ => none
def dJoin (da db : Lo → R T) : Lo → R T := fun ev => (da ev).bind fun t => match t with
  | .str a => (db ev).bind fun u => ofO (joinT a u)
  | _ => .bad
theorem strs_v {K : PySem.W.Frag} {S : Addr → Prop} {H : Hp} : ∀ {vs : List V} {ts : List T} {bs : List Str}, IsTs K S H vs ts → strsL ts = some bs → vs = bs.map V.str
  | _, _, bs, .nil, e => by cases e; rfl
  | _, _, bs, .cons h r, e => by
    cases h with
    | str b =>
      unfold strsL at e
      obtain ⟨cs, e1, e2⟩ := Option.map_eq_some_iff.mp e
      subst e2
      rw [strs_v r e1]; rfl
    | _ => cases e
section
variable {X : Cx} {o e : Expr} {S S0 : Addr → Prop} {H0 : Hp} {W : WX} {da db : Lo → R T} {pos apos : Pos} {m : Md}
theorem e_join (ho : PE X o (tG m X.K S0 H0 W da)) (he : PE X e (tG .w X.K S0 H0 W db)) (hs : starEach [e] X.env = [(false, eval e X.env)] := by rfl) (hbase : attributeBase o "join" X.env (eval o X.env) = eval o X.env := by rfl) (hline : (apos.endLine == pos.line) = true := by rfl) :
    PE X (.Call (.Attribute o "join" apos) [e] [] pos) (tG .f X.K S0 H0 W (dJoin da db)) := pe_imp (pe_join ho he hs hbase hline) fun σ H Q ⟨ev, ps, r0, z⟩ => by
  refine ⟨ev, ps, r0, R.on_mono (R.on_bind z) (fun t q v H1 s1 p1 => ?_) fun _ _ q => q⟩
  cases t with
  | str a =>
    have ea := p1.str
    subst ea
    refine ⟨⟨a, rfl⟩, ev, ps, r0.up s1, R.on_mono (R.on_bind q) (fun u q2 w H2 s2 p2 => ?_) fun c fs q cls dd H' s x => q cls dd H' (s1.trans s) x⟩
    cases u with
    | lst ts =>
      have ej : joinT a (.lst ts) = (strsL ts).bind fun ys => if (ys.map (·.length)).sum + ys.length * a.length ≤ 16777216 then some (.str (Txt.join a ys)) else none := rfl
      rw [ej] at q2
      cases e1 : strsL ts with
      | none => rw [e1] at q2; exact q2.elim
      | some ys =>
        rw [e1, Option.bind_some] at q2
        by_cases hz : (ys.map (·.length)).sum + ys.length * a.length ≤ 16777216
        · rw [if_pos hz] at q2
          obtain ⟨l, xs, rfl, hl, rl⟩ := p2.lst
          exact ⟨a, l, ys, rfl, rfl, .inl (by rw [← strs_v rl e1]; exact SqL.of hl), hz, q2 _ _ (s1.trans s2) (one_str _)⟩
        · rw [if_neg hz] at q2; exact q2.elim
    | _ => exact q2.elim
  | _ => exact q.elim
end
end DL
namespace DL
open PySem
def clsAt (s : Stmt) (j : Nat) : Stmt := match s with
  | .ClassDef _ _ _ b _ _ _ _ _ _ _ => b.getD j (.Pass ⟨0, 0, 0, 0⟩)
  | _ => .Pass ⟨0, 0, 0, 0⟩
end DL

set_option maxHeartbeats 1000000
/-! t[::-1] of a tuple -/
namespace DL
open PySem PySem.Spec PyProof.Rows L2
theorem adj_rev (n : Nat) : Builtin.Slice.sliceAdjust none none (-1) (n : Int) = ((n : Int) - 1, -1) := by
  unfold Builtin.Slice.sliceAdjust
  simp
theorem places_rev (n : Nat) : Builtin.Slice.slicePlaces ((n : Int) - 1) (-1) (-1) = n := by
  unfold Builtin.Slice.slicePlaces
  simp
  try omega
theorem pick_rev (xs : Array Value) : ((List.range xs.size).filterMap fun (m : Nat) => xs[((xs.size : Int) - 1 + (m : Int) * -1).toNat]?).toArray = xs.toList.reverse.toArray := by
  congr 1
  apply List.ext_getElem?
  intro i
  have key : ∀ n, n ≤ xs.size → (List.range n).filterMap (fun (m : Nat) => xs[((xs.size : Int) - 1 + (m : Int) * -1).toNat]?) = xs.toList.reverse.take n := fun n => by
    induction n with
    | zero => intro _; rfl
    | succ n ih =>
      intro hn
      have hlt : n < xs.toList.reverse.length := by simp; omega
      rw [List.range_succ, List.filterMap_append, ih (by omega), List.take_add_one, List.getElem?_reverse (by simp; omega)]
      congr 1
      have e : ((xs.size : Int) - 1 + (n : Int) * -1).toNat = xs.size - 1 - n := by omega
      have h2 : xs.size - 1 - n < xs.size := by omega
      rw [List.filterMap_cons, List.filterMap_nil, e, Array.getElem?_eq_getElem h2]
      simp [h2]
  rw [key _ (Nat.le_refl _), List.take_of_length_le (by simp)]
section
variable {prog : Program} {w : World} {A : Around} {E : Value → Shared → Prop} {s : Shared}
theorem applied_rev {sl : Addr} {vl vu vs : Value} {n : Nat} {Q : Int × Int × Nat → Shared → Prop} (hs : s.heap.IsSliceOf sl vl vu vs) (pl : IsPart vl none) (pu : IsPart vu none) (ps : IsPart vs (some (-1)))
    (h : Q ((n : Int) - 1, -1, n) s) : wpAny (model prog w) A (Builtin.Slice.sliceApplied (.ref sl) (pure (n : Int))) Q E s := by
  obtain ⟨o, ho, hc, hd⟩ := id hs
  unfold Builtin.Slice.sliceApplied Builtin.Slice.sliceFields
  refine wpAny_bind (wpAny_bind (wpAny_field ho hd (x := vl) rfl (wpAny_bind (wpAny_field ho hd (x := vu) rfl (wpAny_bind (wpAny_field ho hd (x := vs) rfl (wpAny_pure ?_)))))))
  refine wpAny_bind (HT.slicePart_ ps ?_)
  show wpAny _ _ (if ((-1 : Int) == 0) = true then _ else _) _ _ s
  rw [if_neg (by decide)]
  refine wpAny_bind (HT.slicePart_ pl (wpAny_bind (HT.slicePart_ pu (wpAny_bind (wpAny_pure ?_)))))
  show wpAny _ _ (match Builtin.Slice.sliceAdjust none none (-1) (n : Int) with | (lo, hi) => pure (lo, (-1 : Int), Builtin.Slice.slicePlaces lo hi (-1))) _ _ s
  rw [adj_rev]
  show wpAny _ _ (pure (((n : Int) - 1), (-1 : Int), Builtin.Slice.slicePlaces ((n : Int) - 1) (-1) (-1))) _ _ s
  rw [places_rev]
  exact wpAny_pure h
theorem tuple_rev {t sl : Addr} {items : Array Value} {vl vu vs : Value} {Q : Value → Shared → Prop} (ht : IsTup s.heap t items) (hs : s.heap.IsSliceOf sl vl vu vs) (pl : IsPart vl none) (pu : IsPart vu none) (ps : IsPart vs (some (-1)))
    (h : Q (.ref s.heap.objs.size) { s with heap := s.heap.push { cls := .type "tuple", data := .seq items.toList.reverse.toArray } }) (hsz : items.size ≤ sizeLine) : wpAny (model prog w) A (getItem (.ref t) (.ref sl)) Q E s := by
  have fits : sizeOk (.seq items.toList.reverse.toArray) := by
    show items.toList.reverse.toArray.size ≤ sizeLine
    simpa using hsz
  obtain ⟨o, ho, hc, hd⟩ := id hs
  have hT : s.TypeIs (.ref sl) "slice" := ⟨o, ho, hc⟩
  unfold getItem
  try with_reducible refine wpAny_holding ?_
  first | refine wpAny_bind (wpAny_pure ?_) | skip
  refine wpAny_bind (wpAny_sequenceKey ht.typeIs (by decide) ?_)
  refine wpAny_bind (wpAny_callSpecial?_slot (name := Str.ofString "__getitem__") ht.typeIs PyProof.Rows.slot_tuple_getitem
    (wpAny_call_entry PyProof.Rows.slot_tuple_getitem ht.typeIs PyProof.Rows.entry_tuple_getitem ?_ (PyProof.Rows.args_tuple_getitem _ _)))
  show wpAny _ _ (Builtin.Tuple.tupleItemsOf (.ref t) >>= _) _ _ s
  refine wpAny_bind (tupleItemsOf_ ht ?_)
  refine wpAny_bind (wpAny_typeOf hT ?_)
  rw [if_pos (by decide)]
  refine wpAny_bind (applied_rev hs pl pu ps ?_)
  have hno : ¬ ((((items.size : Int) - 1) == 0 && (-1 : Int) == 1 && items.size == items.size) = true) := by
    intro q
    rw [Bool.and_eq_true, Bool.and_eq_true] at q
    exact absurd q.1.2 (by decide)
  show wpAny _ _ (if (((items.size : Int) - 1) == 0 && (-1 : Int) == 1 && items.size == items.size) = true then _ else _) _ _ s
  rw [if_neg hno, pick_rev]
  first
    | exact wpAny_bind (m := Builtin.Tuple.tupleExact _) (wpAny_newObj_type (wpAny_pure ⟨_, rfl, wpAny_pure h⟩) fits)
    | exact wpAny_bind (m := Builtin.Tuple.tupleExact _) (wpAny_newObj_type (wpAny_bind (wpAny_pure (wpAny_pure ⟨_, rfl, wpAny_pure h⟩))) fits)
    | exact wpAny_bind (wpAny_bind (m := Builtin.Tuple.tupleExact _) (wpAny_newObj_type (wpAny_pure (wpAny_pure ⟨_, rfl, wpAny_pure h⟩)) fits))
    | exact wpAny_bind (wpAny_bind (m := Builtin.Tuple.tupleExact _) (wpAny_newObj_type (wpAny_pure ⟨_, rfl, wpAny_pure h⟩) fits))
end
section
variable {X : Cx} {e : Expr} {S S0 : Addr → Prop} {H0 : Hp} {W : WX} {d : Lo → R T} {pos : Pos}
def tRevT (K : PySem.W.Frag) (te : TE) : TE := fun σ H Q => te σ H fun x H1 => ∃ a xs, x = .ref a ∧ SqT K H1 a xs ∧ ∀ p, H1 p = none → Q (.ref p) (upd H1 p (.tup xs.reverse))
theorem pe_revT {te : TE} {j : Nat} {p1 p2 p3 : Pos} (he : PE X e te) : PE X (.Subscript e (.Slice none none (some (.UnaryOp .USub (.Constant (.int 1) j p1) p2)) p3) pos) (tRevT X.K te) := by
  refine ⟨fun pins s σ H Q I h => ?_⟩
  refine Subscript_ (thn (he.run pins s σ H _ I h) fun v s1 ⟨x, H1, I1, r1, q1⟩ => ?_)
  obtain ⟨a, xs, ex, hx, q⟩ := q1
  subst ex
  cases r1
  have hst : PO X (some (.UnaryOp .USub (.Constant (.int 1) j p1) p2)) (tPart (tUn (rU fun i => .int (-i)) (tC (.int 1)))) := po_some (pe_un un_neg pe_int)
  refine wpAny_Slice (thn (po_none.run pins s1 σ H1 (fun o H2 => o = none ∧ H2 = H1) I1 ⟨rfl, rfl⟩) fun vl s2 ⟨l, H2, I2, pl, el, e2⟩ => ?_)
  subst el e2
  refine thn (po_none.run pins s2 σ H2 (fun o H3 => o = none ∧ H3 = H2) I2 ⟨rfl, rfl⟩) fun vu s3 ⟨u, H3, I3, pu, eu, e3⟩ => ?_
  subst eu e3
  refine thn (hst.run pins s3 σ H3 (fun o H4 => o = some (-1) ∧ H4 = H3) I3 ⟨1, rfl, -1, rfl, rfl, rfl⟩) fun vs s4 ⟨o, H4, I4, ps, eo, e4⟩ => ?_
  subst eo e4
  have I5 : Inv X pins σ H4 { s4 with heap := s4.heap.push { cls := .type "slice", data := .fields #[vl, vu, vs] } } := I4.kept (t' := s4.toks) fun b ob q => Heap.get?_push_of_some _ q
  obtain ⟨its, r, ht, hz⟩ := I5.tuple hx
  have hlen := r.length
  show wpAny (model X.prog X.w) X.A (subscriptTail e (.Slice none none (some (.UnaryOp .USub (.Constant (.int 1) j p1) p2)) p3) (.ref a) (.ref s4.heap.objs.size)) (EP X pins σ Q) X.xe { s4 with heap := s4.heap.push { cls := .type "slice", data := .fields #[vl, vu, vs] } }
  refine tail_any (ops := [.ref a, .ref s4.heap.objs.size]) ht.typeIs (PyProof.Rows.slot_tuple_getitem.lookup) ?_ (by with_unfolding_all rfl)
  refine tuple_rev ht (Heap.IsSliceOf.new _ vl vu vs) pl pu ps ?_ (by rw [List.size_toArray]; omega)
  refine ⟨.ref _, _, I5.laid (t' := s4.toks) (o := .tup xs.reverse) (fun b ob q => Heap.get?_push_of_some _ q) (Nat.le_refl _) ?_, rfl, q _ (I5.hok.fresh (Nat.le_refl _))⟩
  exact ⟨by rw [List.length_reverse]; exact hz, _, r.reverse, ⟨_, Heap.get?_push_size _ rfl, rfl, 0, rfl⟩⟩
/-- xs[::-1], t[::-1] -/
def revA : T → Option T
  | .tup xs => some (.tup xs.reverse)
  | t => revT t
theorem e_revA {j : Nat} {p1 p2 p3 : Pos} (ha : PE X e (tG .w X.K S0 H0 W d)) : PE X (.Subscript e (.Slice none none (some (.UnaryOp .USub (.Constant (.int 1) j p1) p2)) p3) pos) (tG .f X.K S0 H0 W (d1 revA d)) := by
  have two : PE X (.Subscript e (.Slice none none (some (.UnaryOp .USub (.Constant (.int 1) j p1) p2)) p3) pos) (fun σ H Q => tRevL X.K (tG .w X.K S0 H0 W d) σ H Q ∨ tRevT X.K (tG .w X.K S0 H0 W d) σ H Q) := ⟨fun pins s σ H Q I z => z.elim
    (fun z => (pe_revL ha).run pins s σ H Q I z) fun z => (pe_revT ha).run pins s σ H Q I z⟩
  refine pe_imp two fun σ H Q ⟨ev, ps, r, z⟩ => ?_
  have z2 := R.on_bind z
  cases e1 : d ev with
  | bad => rw [e1] at z2; exact z2.elim
  | ex c fs => rw [e1] at z2; exact .inl ⟨ev, ps, r, by rw [e1]; exact z2⟩
  | ok t =>
    rw [e1] at z2
    cases t with
    | tup ts =>
      refine .inr ⟨ev, ps, r, ?_⟩
      rw [e1]
      intro v H1 s1 p
      obtain ⟨a, xs, rfl, h, rs⟩ := p.tup
      have hs := (r.up s1).sx
      exact ⟨a, xs, rfl, h.sq, fun n hn => z2 _ _ (s1.trans (same_upd hn)) ((new_tup hs hn rs.rev).back s1)⟩
    | lst ts =>
      refine .inl ⟨ev, ps, r, ?_⟩
      rw [e1]
      intro v H1 s1 p
      obtain ⟨a, xs, rfl, h, rs⟩ := p.lst
      exact ⟨a, xs, rfl, SqL.of h, fun n hn => z2 _ _ (s1.trans (same_upd hn)) ((new_lst hn rs.rev).back s1)⟩
    | scr ns =>
      refine .inl ⟨ev, ps, r, ?_⟩
      rw [e1]
      intro v H1 s1 p
      obtain ⟨a, rfl, h⟩ := p.scr
      exact ⟨a, _, rfl, h.sq, fun n hn => z2 _ _ (s1.trans (same_upd hn)) (Pm.back s1 (by rw [← List.map_reverse]; exact new_lst hn (scr_ts _)))⟩
    | _ => exact z2.elim
end
@[simp] theorem revA_tup {ts : List T} : revA (.tup ts) = some (.tup ts.reverse) := Eq.trans rfl rfl
@[simp] theorem revA_lst {ts : List T} : revA (.lst ts) = some (.lst ts.reverse) := Eq.trans rfl rfl
@[simp] theorem revA_scr {ns : List Int} : revA (.scr ns) = some (.lst (ns.reverse.map .int)) := Eq.trans rfl rfl
end DL

set_option maxHeartbeats 4000000
namespace Pg
open PySem PySem.Spec PyProof.Rows L2 DL
/-! the defs' functions of trees, printed by gen2.py -/
def b_is_whole : Lo → Fl := (sRet (dAndV (dBlt (isiL "int") (dCons (dVar 0) dNil)) (dNotV (dBlt (isiL "bool") (dCons (dVar 0) dNil)))))
def dn_is_whole : List T → R T := dFn 1 b_is_whole
theorem eq_is_whole (a0 : T) : dn_is_whole [a0] = fin (b_is_whole [some (a0, false)]) := rfl
def b_is_within : Lo → Fl := (sRet (dAndV (dCall dn_is_whole (dCons (dVar 0) dNil)) (dChain leT leT (dVar 1) (dVar 0) (dVar 2))))
def dn_is_within : List T → R T := dFn 3 b_is_within
theorem eq_is_within (a0 a1 a2 : T) : dn_is_within [a0, a1, a2] = fin (b_is_within [some (a0, false), some (a1, false), some (a2, false)]) := rfl
def b_is_number : Lo → Fl := (sRet (dCall dn_is_within (dCons (dVar 0) (dCons (dC (.int 0)) (dCons (dC (.int 1000000000)) dNil)))))
def dn_is_number : List T → R T := dFn 1 b_is_number
theorem eq_is_number (a0 : T) : dn_is_number [a0] = fin (b_is_number [some (a0, false)]) := rfl
def b__law_cell_at : Lo → Fl := (sSeq (sIf (dTest (d2 ltT (dVar 1) (dBlt lenL (dCons (dVar 0) dNil))))
 (sRet (d2 ixT (dVar 0) (dVar 1)))
 sNx)
 (sRet (dC (.int 0))))
def dn__law_cell_at : List T → R T := dFn 2 b__law_cell_at
theorem eq__law_cell_at (a0 a1 : T) : dn__law_cell_at [a0, a1] = fin (b__law_cell_at [some (a0, false), some (a1, false)]) := rfl
def b__law_numbers_p1 : Lo → Fl := (sWe [6, 7] (sIf (dAnd (dTest (d2 geX (dVar 3) (d2 powT (dC (.int 10)) (dC (.int 18))))) (dTest (d2 gtT (dVar 4) (dC (.int 0)))))
 (sSeq (sApp 5 (d2 modT (dVar 4) (d2 ixT (dVar 2) (dVar 6))))
 (sSet 4 (d2 divT (dVar 4) (d2 ixT (dVar 2) (dVar 6)))))
 (sSeq (sSet 7 (d2 modT (d2 powT (d2 addT (d2 addT (d2 modT (dVar 3) (dC (.int 2147483629))) (d2 mulT (dC (.int 7919)) (dVar 1))) (dC (.int 1))) (dC (.int 3))) (dC (.int 2147483647))))
 (sSeq (sSet 7 (d2 modT (d2 mulT (d2 addT (dVar 7) (d2 mulT (dC (.int 104729)) (d2 addT (dVar 6) (dC (.int 1))))) (d2 addT (dVar 6) (dC (.int 3)))) (dC (.int 2147483629))))
 (sSeq (sSet 7 (d2 modT (d2 mulT (d2 modT (d2 powT (dVar 7) (dC (.int 5))) (dC (.int 2147483647))) (dC (.int 48271))) (dC (.int 2147483629))))
 (sApp 5 (d2 modT (d2 divT (dVar 7) (dC (.int 16))) (d2 ixT (dVar 2) (dVar 6)))))))))
def b__law_numbers : Lo → Fl := (sSeq (sSet 3 (dBlt maxL (dCons (dVar 0) (dCons (d2 subT (d1 negT (dC (.int 1))) (dVar 0)) dNil))))
 (sSeq (sSet 4 (dVar 3))
 (sSeq (sSetF 5 (dList dNil))
 (sSeq (sWp [6, 7] (sFor (dRng1 (dBlt lenL (dCons (dVar 2) dNil))) (gNm 6) b__law_numbers_p1))
 (sRetO true 5)))))
def dn__law_numbers : List T → R T := dFn 8 b__law_numbers
theorem eq__law_numbers (a0 a1 a2 : T) : dn__law_numbers [a0, a1, a2] = fin (b__law_numbers [some (a0, false), some (a1, false), some (a2, false), none, none, none, none, none]) := rfl
def b__law_odd : Lo → Fl := (sSeq (sSet 1 (dList (dCons (dC .non) (dCons (dC (.bl true)) (dCons (dC (.bl false)) (dCons (d1 negT (dC (.int 1))) (dCons (dC (.int 0)) (dCons (dC (.int 1)) (dCons (dC (.int 40)) (dCons (dC (.int 41)) (dCons (d2 powT (dC (.int 10)) (dC (.int 9))) (dCons (d2 addT (d2 powT (dC (.int 10)) (dC (.int 9))) (dC (.int 1))) (dCons (d2 powT (dC (.int 10)) (dC (.int 59))) (dCons (dC (.str "")) (dCons (dC (.str "1")) (dCons (dList dNil) (dCons (dList (dCons (dC (.int 1)) dNil)) (dCons (dTup dNil) (dCons (dTup (dCons (dC (.int 1)) dNil)) (dCons (dC (.dic [])) dNil))))))))))))))))))))
 (sRet (d2 ixT (dVar 1) (d2 modT (dVar 0) (dC (.int 18))))))
def dn__law_odd : List T → R T := dFn 2 b__law_odd
theorem eq__law_odd (a0 : T) : dn__law_odd [a0] = fin (b__law_odd [some (a0, false), none]) := rfl
def b_is_day : Lo → Fl := (sSeq (sIf (dOr (dNot (dTest (dBlt (isiL "tuple") (dCons (dVar 0) dNil)))) (dTest (d2 neT (dBlt lenL (dCons (dVar 0) dNil)) (dC (.int 4)))))
 (sRet (dC (.bl false)))
 sNx)
 (sRet (dAndV (dBlt allL (dCons (dComp [1] (dIter (dSlice (dVar 0) dPn (dPs (dC (.int 3))))) (gNm 1) dYes (dCall dn_is_number (dCons (dVar 1) dNil))) dNil)) (dOrV (d1 isNonT (d2 ixT (dVar 0) (dC (.int 3)))) (dCall dn_is_number (dCons (d2 ixT (dVar 0) (dC (.int 3))) dNil))))))
def dn_is_day : List T → R T := dFn 2 b_is_day
theorem eq_is_day (a0 : T) : dn_is_day [a0] = fin (b_is_day [some (a0, false), none]) := rfl
def b_are_lights : Lo → Fl := (sRet (dAndV (dBlt (isiL "list") (dCons (dVar 0) dNil)) (dAndV (dChain leT leT (dC (.int 1)) (dBlt lenL (dCons (dVar 0) dNil)) (dC (.int 40))) (dBlt allL (dCons (dComp [1] (dIter (dVar 0)) (gNm 1) dYes (dCall dn_is_number (dCons (dVar 1) dNil))) dNil)))))
def dn_are_lights : List T → R T := dFn 2 b_are_lights
theorem eq_are_lights (a0 : T) : dn_are_lights [a0] = fin (b_are_lights [some (a0, false), none]) := rfl
def b_is_frame : Lo → Fl := (sSeq (sIf (dOr (dNot (dTest (dBlt (isiL "tuple") (dCons (dVar 0) dNil)))) (dOr (dTest (d2 neT (dBlt lenL (dCons (dVar 0) dNil)) (dC (.int 3)))) (dNot (dTest (dCall dn_are_lights (dCons (d2 ixT (dVar 0) (dC (.int 0))) dNil))))))
 (sRet (dC (.bl false)))
 sNx)
 (sSeq (sIf (dAnd (dTest (d1 notNonT (d2 ixT (dVar 0) (dC (.int 1))))) (dNot (dTest (dCall dn_is_within (dCons (d2 ixT (dVar 0) (dC (.int 1))) (dCons (dC (.int 1)) (dCons (dC (.int 1000000000)) dNil)))))))
 (sRet (dC (.bl false)))
 sNx)
 (sRet (dAndV (dBlt (isiL "list") (dCons (d2 ixT (dVar 0) (dC (.int 2))) dNil)) (dChain leT leT (dC (.int 1)) (dBlt lenL (dCons (d2 ixT (dVar 0) (dC (.int 2))) dNil)) (dC (.int 2)))))))
def dn_is_frame : List T → R T := dFn 1 b_is_frame
theorem eq_is_frame (a0 : T) : dn_is_frame [a0] = fin (b_is_frame [some (a0, false)]) := rfl
def b_look_at_good_p1 : Lo → Fl := (sWe [3, 4] (sIf (dNot (dTest (dCall dn_is_day (dCons (dVar 4) dNil))))
 (sRaiseF "NoBakery" ["good", "day"] (dCons (dVar 0) (dCons (dVar 3) dNil)))
 sNx))
def b_look_at_good : Lo → Fl := (sSeq (sIf (dOr (dNot (dTest (dBlt (isiL "tuple") (dCons (dVar 1) dNil)))) (dOr (dTest (d2 neT (dBlt lenL (dCons (dVar 1) dNil)) (dC (.int 2)))) (dOr (dNot (dTest (dBlt (isiL "list") (dCons (d2 ixT (dVar 1) (dC (.int 0))) dNil)))) (dTest (d2 neT (dBlt lenL (dCons (d2 ixT (dVar 1) (dC (.int 0))) dNil)) (dVar 2))))))
 (sRaiseF "NoBakery" ["good", "day"] (dCons (dVar 0) (dCons (dC .non) dNil)))
 sNx)
 (sSeq (sIf (dAnd (dTest (d1 notNonT (d2 ixT (dVar 1) (dC (.int 1))))) (dNot (dTest (dCall dn_is_within (dCons (d2 ixT (dVar 1) (dC (.int 1))) (dCons (dC (.int 0)) (dCons (dC (.int 40)) dNil)))))))
 (sRaiseF "NoBakery" ["good", "day"] (dCons (dVar 0) (dCons (dC .non) dNil)))
 sNx)
 (sWp [3, 4] (sFor (dEnum (d2 ixT (dVar 1) (dC (.int 0)))) (gTp 2 (gCons (gNm 3) (gCons (gNm 4) gNil))) b_look_at_good_p1))))
def dn_look_at_good : List T → R T := dFn 5 b_look_at_good
theorem eq_look_at_good (a0 a1 a2 : T) : dn_look_at_good [a0, a1, a2] = fin (b_look_at_good [some (a0, false), some (a1, false), some (a2, false), none, none]) := rfl
def b_look_at_bakery_p1 : Lo → Fl := (sWe [1, 2] (sEx (dCall dn_look_at_good (dCons (dVar 1) (dCons (dVar 2) (dCons (dBlt lenL (dCons (d2 ixT (dVar 0) (dC (.int 0))) dNil)) dNil))))))
def b_look_at_bakery : Lo → Fl := (sSeq (sIf (dNot (dTest (dCall dn_is_frame (dCons (dVar 0) dNil))))
 (sRaiseF "NoBakery" ["good", "day"] (dCons (dC .non) (dCons (dC .non) dNil)))
 sNx)
 (sWp [1, 2] (sFor (dEnum (d2 ixT (dVar 0) (dC (.int 2)))) (gTp 2 (gCons (gNm 1) (gCons (gNm 2) gNil))) b_look_at_bakery_p1)))
def dn_look_at_bakery : List T → R T := dFn 3 b_look_at_bakery
theorem eq_look_at_bakery (a0 : T) : dn_look_at_bakery [a0] = fin (b_look_at_bakery [some (a0, false), none, none]) := rfl
def b__law_day : Lo → Fl := (sSeq (sAsg (gTp 7 (gCons (gNm 2) (gCons (gNm 3) (gCons (gNm 4) (gCons (gNm 5) (gCons (gNm 6) (gCons (gNm 7) (gCons (gNm 8) gNil)))))))) (dVar 0))
 (sSeq (sIf (dTest (d2 eqT (dVar 7) (dC (.int 0))))
 (sSet 2 (dC (.int 0)))
 sNx)
 (sSeq (sIf (dOr (dTest (d2 ltT (dVar 8) (dC (.int 2)))) (dNot (dTest (dVar 1))))
 (sSet 6 (dC .non))
 sNx)
 (sRet (dTup (dCons (dVar 3) (dCons (dTup (dCons (dVar 2) (dCons (dVar 4) (dCons (dVar 5) (dCons (dVar 6) dNil))))) dNil)))))))
def dn__law_day : List T → R T := dFn 9 b__law_day
theorem eq__law_day (a0 a1 : T) : dn__law_day [a0, a1] = fin (b__law_day [some (a0, false), some (a1, false), none, none, none, none, none, none, none]) := rfl
def b__law_days_p1 : Lo → Fl := (sWe [9, 10, 11] (sSeq (sAsg (gTp 2 (gCons (gNm 10) (gCons (gNm 11) gNil))) (dCall dn__law_day (dCons (dCall dn__law_numbers (dCons (dCall dn__law_cell_at (dCons (dVar 0) (dCons (dVar 9) dNil))) (dCons (d2 addT (dVar 3) (dVar 9)) (dCons (dVar 6) dNil)))) (dCons (dVar 4) dNil))))
 (sSeq (sApp 7 (dVar 10))
 (sApp 8 (dVar 11)))))
def b__law_days : Lo → Fl := (sSeq (sSet 5 (d2 eqT (d2 ixT (dCall dn__law_numbers (dCons (dCall dn__law_cell_at (dCons (dVar 0) (dCons (dC (.int 0)) dNil))) (dCons (dVar 3) (dCons (dList (dCons (dC (.int 3)) dNil)) dNil)))) (dC (.int 0))) (dC (.int 0))))
 (sSeq (sSet 6 (d2 addT (d2 ixT (dList (dCons (dList (dCons (dC (.int 5)) (dCons (dC (.int 13)) (dCons (dC (.int 6)) (dCons (dC (.int 4)) (dCons (dC (.int 4)) dNil)))))) (dCons (d2 mulT (dList (dCons (d2 addT (d2 powT (dC (.int 10)) (dC (.int 9))) (dC (.int 1))) dNil)) (dC (.int 5))) dNil))) (dBlt intL (dCons (dVar 5) dNil))) (dList (dCons (dC (.int 4)) (dCons (dC (.int 5)) dNil)))))
 (sSeq (sSetF 7 (dList dNil))
 (sSeq (sSetF 8 (dList dNil))
 (sSeq (sWp [9, 10, 11] (sFor (dRng2 (dCons (dVar 1) (dCons (dBlt maxL (dCons (d2 addT (dVar 1) (dC (.int 1))) (dCons (dBlt minL (dCons (dVar 2) (dCons (dBlt lenL (dCons (dVar 0) dNil)) dNil))) dNil))) dNil))) (gNm 9) b__law_days_p1))
 (sRel 7 (sRel 8 (sRet (dTup (dCons (dVar 7) (dCons (dVar 8) dNil)))))))))))
def dn__law_days : List T → R T := dFn 12 b__law_days
theorem eq__law_days (a0 a1 a2 a3 a4 : T) : dn__law_days [a0, a1, a2, a3, a4] = fin (b__law_days [some (a0, false), some (a1, false), some (a2, false), some (a3, false), some (a4, false), none, none, none, none, none, none, none]) := rfl
def b__law_two : Lo → Fl := (sSeq (sSet 3 (dCall dn__law_numbers (dCons (dCall dn__law_cell_at (dCons (dVar 0) (dCons (dC (.int 0)) dNil))) (dCons (dVar 2) (dCons (dList (dCons (dC (.int 3)) (dCons (dC (.int 12)) (dCons (dC (.int 2)) (dCons (dC (.int 12)) (dCons (dC (.int 3)) (dCons (dC (.int 2)) (dCons (dC (.int 9)) dNil)))))))) dNil)))))
 (sSeq (sAsg (gTp 2 (gCons (gNm 6) (gCons (gNm 7) gNil))) (dCall dn__law_days (dCons (dVar 0) (dCons (dC (.int 1)) (dCons (dVar 1) (dCons (dVar 2) (dCons (d2 eqT (d2 ixT (dVar 3) (dC (.int 2))) (dC (.int 1))) dNil)))))))
 (sSeq (sSet 4 (dList (dCons (dC .non) (dCons (dC .non) (dCons (dC (.int 0)) (dCons (dC (.int 1)) (dCons (dC (.int 2)) (dCons (dC (.int 3)) (dCons (dC (.int 4)) (dCons (dC (.int 5)) (dCons (dC (.int 7)) (dCons (dC (.int 11)) (dCons (dC (.int 23)) (dCons (dC (.int 40)) dNil))))))))))))))
 (sSeq (sSetF 5 (dList (dCons (dTup (dCons (dVar 7) (dCons (d2 ixT (dVar 4) (d2 ixT (dVar 3) (dC (.int 1)))) dNil))) dNil)))
 (sSeq (sIf (dTest (d2 gtT (d2 ixT (dVar 3) (dC (.int 4))) (dC (.int 0))))
 (sSeq (sSet 8 (d2 ixT (dCall dn__law_days (dCons (d2 addT (dSlice (dVar 0) dPn (dPs (dC (.int 1)))) (d1 rev1T (dVar 0))) (dCons (dC (.int 1)) (dCons (dVar 1) (dCons (d2 addT (dVar 2) (dC (.int 70))) (dCons (d2 eqT (d2 ixT (dVar 3) (dC (.int 5))) (dC (.int 1))) dNil)))))) (dC (.int 1))))
 (sApp 5 (dTup (dCons (dVar 8) (dCons (d2 ixT (dVar 4) (d2 ixT (dVar 3) (dC (.int 3)))) dNil)))))
 sNx)
 (sRel 5 (sRet (dTup (dCons (dVar 6) (dCons (d2 ixT (dList (dCons (dC .non) (dCons (dC (.int 1)) (dCons (dC (.int 2)) (dCons (dC (.int 3)) (dCons (dC (.int 4)) (dCons (dC (.int 5)) (dCons (dC (.int 6)) (dCons (d2 powT (dC (.int 10)) (dC (.int 9))) (dCons (dC (.int 12)) dNil)))))))))) (d2 ixT (dVar 3) (dC (.int 6)))) (dCons (dVar 5) dNil)))))))))))
def dn__law_two : List T → R T := dFn 9 b__law_two
theorem eq__law_two (a0 a1 a2 : T) : dn__law_two [a0, a1, a2] = fin (b__law_two [some (a0, false), some (a1, false), some (a2, false), none, none, none, none, none, none]) := rfl
def b__law_at : Lo → Fl := (sRet (d2 addT (d2 addT (dSlice (dVar 0) dPn (dPs (dVar 1))) (dList (dCons (dVar 2) dNil))) (dSlice (dVar 0) (dPs (d2 addT (dVar 1) (dC (.int 1)))) dPn)))
def dn__law_at : List T → R T := dFn 3 b__law_at
theorem eq__law_at (a0 a1 a2 : T) : dn__law_at [a0, a1, a2] = fin (b__law_at [some (a0, false), some (a1, false), some (a2, false)]) := rfl
def b__law_day_spoilt : Lo → Fl := (sSeq (sSet 2 (dCall dn__law_odd (dCons (d2 ixT (dVar 1) (dC (.int 3))) dNil)))
 (sSeq (sSet 3 (d2 modT (d2 ixT (dVar 1) (dC (.int 4))) (dC (.int 4))))
 (sSeq (sSet 4 (dList (dCons (d2 addT (d2 addT (dSlice (dVar 0) dPn (dPs (dVar 3))) (dTup (dCons (dVar 2) dNil))) (dSlice (dVar 0) (dPs (d2 addT (dVar 3) (dC (.int 1)))) dPn)) (dCons (dBlt listL (dCons (dVar 0) dNil)) (dCons (dSlice (dVar 0) dPn (dPs (dC (.int 3)))) (dCons (d2 addT (dVar 0) (dTup (dCons (dVar 2) dNil))) (dCons (dVar 2) (dCons (d1 revA (dVar 0)) (dCons (dTup (dCons (dVar 0) dNil)) (dCons (dSlice (dVar 0) dPn (dPs (dVar 3))) dNil))))))))))
 (sRet (d2 ixT (dVar 4) (d2 modT (d2 ixT (dVar 1) (dC (.int 5))) (dC (.int 8))))))))
def dn__law_day_spoilt : List T → R T := dFn 5 b__law_day_spoilt
theorem eq__law_day_spoilt (a0 a1 : T) : dn__law_day_spoilt [a0, a1] = fin (b__law_day_spoilt [some (a0, false), some (a1, false), none, none, none]) := rfl
def b__law_good_spoilt : Lo → Fl := (sSeq (sAsg (gTp 2 (gCons (gNm 4) (gCons (gNm 5) gNil))) (dVar 0))
 (sSeq (sSet 2 (d2 modT (d2 ixT (dVar 1) (dC (.int 2))) (dBlt lenL (dCons (dVar 4) dNil))))
 (sSeq (sIf (dTest (d2 ltT (d2 ixT (dVar 1) (dC (.int 6))) (dC (.int 4))))
 (sRet (dTup (dCons (dCall dn__law_at (dCons (dVar 4) (dCons (dVar 2) (dCons (dCall dn__law_day_spoilt (dCons (d2 ixT (dVar 4) (dVar 2)) (dCons (dVar 1) dNil))) dNil)))) (dCons (dVar 5) dNil))))
 sNx)
 (sSeq (sSet 3 (dList (dCons (dTup (dCons (dVar 4) (dCons (dCall dn__law_odd (dCons (d2 ixT (dVar 1) (dC (.int 3))) dNil)) dNil))) (dCons (dTup (dCons (dSlice (dVar 4) (dPs (dC (.int 1))) dPn) (dCons (dVar 5) dNil))) (dCons (dTup (dCons (d2 addT (dVar 4) (dSlice (dVar 4) dPn (dPs (dC (.int 1))))) (dCons (dVar 5) dNil))) (dCons (dTup (dCons (dBlt tupleL (dCons (dVar 4) dNil)) (dCons (dVar 5) dNil))) (dCons (dList (dCons (dVar 4) (dCons (dVar 5) dNil))) dNil)))))))
 (sSeq (sSet 3 (d2 addT (dVar 3) (dList (dCons (dTup (dCons (dVar 4) dNil)) (dCons (dTup (dCons (dVar 4) (dCons (dVar 5) (dCons (dVar 5) dNil)))) (dCons (dCall dn__law_odd (dCons (d2 ixT (dVar 1) (dC (.int 3))) dNil)) (dCons (dTup (dCons (dC (.dic [])) (dCons (dVar 5) dNil))) (dCons (dTup (dCons (dVar 5) (dCons (dVar 4) dNil))) dNil))))))))
 (sRet (d2 ixT (dVar 3) (d2 modT (d2 ixT (dVar 1) (dC (.int 5))) (dC (.int 10))))))))))
def dn__law_good_spoilt : List T → R T := dFn 6 b__law_good_spoilt
theorem eq__law_good_spoilt (a0 a1 : T) : dn__law_good_spoilt [a0, a1] = fin (b__law_good_spoilt [some (a0, false), some (a1, false), none, none, none, none]) := rfl
def b__law_spoilt : Lo → Fl := (sSeq (sAsg (gTp 3 (gCons (gNm 4) (gCons (gNm 5) (gCons (gNm 6) gNil)))) (dVar 0))
 (sSeq (sSet 2 (d2 modT (d2 ixT (dVar 1) (dC (.int 1))) (dBlt lenL (dCons (dVar 6) dNil))))
 (sSeq (sIf (dTest (d2 eqT (d2 ixT (dVar 1) (dC (.int 0))) (dC (.int 0))))
 (sRet (dTup (dCons (dCall dn__law_at (dCons (dVar 4) (dCons (d2 modT (d2 ixT (dVar 1) (dC (.int 2))) (dBlt lenL (dCons (dVar 4) dNil))) (dCons (dCall dn__law_odd (dCons (d2 ixT (dVar 1) (dC (.int 3))) dNil)) dNil)))) (dCons (dVar 5) (dCons (dVar 6) dNil)))))
 sNx)
 (sSeq (sIf (dTest (d2 eqT (d2 ixT (dVar 1) (dC (.int 0))) (dC (.int 1))))
 (sRet (dTup (dCons (dVar 4) (dCons (dCall dn__law_odd (dCons (d2 ixT (dVar 1) (dC (.int 3))) dNil)) (dCons (dVar 6) dNil)))))
 sNx)
 (sSeq (sIf (dTest (d2 ltT (d2 ixT (dVar 1) (dC (.int 0))) (dC (.int 6))))
 (sRet (dTup (dCons (dVar 4) (dCons (dVar 5) (dCons (dCall dn__law_at (dCons (dVar 6) (dCons (dVar 2) (dCons (dCall dn__law_good_spoilt (dCons (d2 ixT (dVar 6) (dVar 2)) (dCons (dVar 1) dNil))) dNil)))) dNil)))))
 sNx)
 (sSeq (sIf (dTest (d2 eqT (d2 ixT (dVar 1) (dC (.int 0))) (dC (.int 6))))
 (sSeq (sSet 7 (d2 ixT (dList (dCons (dC (.int 0)) (dCons (dC (.int 39)) (dCons (dC (.int 40)) (dCons (dC (.int 41)) dNil))))) (d2 modT (d2 ixT (dVar 1) (dC (.int 5))) (dC (.int 4)))))
 (sSeq (sFz 8 (sSetF 8 (dComp [9, 10] (dIter (dVar 6)) (gTp 2 (gCons (gNm 9) (gCons (gNm 10) gNil))) dYes (dTup (dCons (dSlice (d2 mulT (dVar 9) (dC (.int 41))) dPn (dPs (dVar 7))) (dCons (dVar 10) dNil))))))
 (sRet (dTup (dCons (dSlice (d2 mulT (dVar 4) (dC (.int 41))) dPn (dPs (dVar 7))) (dCons (dVar 5) (dCons (dVar 8) dNil)))))))
 sNx)
 (sSeq (sIf (dTest (d2 eqT (d2 ixT (dVar 1) (dC (.int 0))) (dC (.int 7))))
 (sSeq (sSet 3 (dList (dCons (dList dNil) (dCons (d2 mulT (dVar 6) (dC (.int 3))) (dCons (dBlt tupleL (dCons (dVar 6) dNil)) (dCons (d2 ixT (dVar 6) (dC (.int 0))) (dCons (dC .non) (dCons (d2 mulT (dSlice (dVar 6) dPn (dPs (dC (.int 1)))) (dC (.int 2))) dNil))))))))
 (sRet (dTup (dCons (dVar 4) (dCons (dVar 5) (dCons (d2 ixT (dVar 3) (d2 modT (d2 ixT (dVar 1) (dC (.int 5))) (dC (.int 6)))) dNil))))))
 sNx)
 (sSeq (sSet 3 (dList (dCons (dBlt listL (dCons (dVar 0) dNil)) (dCons (dSlice (dVar 0) dPn (dPs (dC (.int 2)))) (dCons (d2 addT (dVar 0) (dTup (dCons (dC .non) dNil))) (dCons (dTup dNil) (dCons (dC .non) (dCons (dVar 4) (dCons (dTup (dCons (dBlt tupleL (dCons (dVar 4) dNil)) (dCons (dVar 5) (dCons (dVar 6) dNil)))) (dCons (dC (.str "")) (dCons (dC (.dic [])) (dCons (dVar 6) dNil))))))))))))
 (sRet (d2 ixT (dVar 3) (d2 modT (d2 ixT (dVar 1) (dC (.int 5))) (dC (.int 10)))))))))))))
def dn__law_spoilt : List T → R T := dFn 11 b__law_spoilt
theorem eq__law_spoilt (a0 a1 : T) : dn__law_spoilt [a0, a1] = fin (b__law_spoilt [some (a0, false), some (a1, false), none, none, none, none, none, none, none, none, none]) := rfl
def b__law_number : Lo → Fl := (sRet (dAndV (dBlt (isiL "int") (dCons (dVar 0) dNil)) (dAndV (dNotV (dBlt (isiL "bool") (dCons (dVar 0) dNil))) (dAndV (d2 leT (dC (.int 0)) (dVar 0)) (d2 leT (dVar 0) (dVar 1))))))
def dn__law_number : List T → R T := dFn 2 b__law_number
theorem eq__law_number (a0 a1 : T) : dn__law_number [a0, a1] = fin (b__law_number [some (a0, false), some (a1, false)]) := rfl
def b__law_is_day : Lo → Fl := (sSeq (sIf (dOr (dNot (dTest (dBlt (isiL "tuple") (dCons (dVar 0) dNil)))) (dTest (d2 neT (dBlt lenL (dCons (dVar 0) dNil)) (dC (.int 4)))))
 (sRet (dC (.bl false)))
 sNx)
 (sSeq (sIf (dTest (d2 (nilG not) (dComp [1] (dIter (dSlice (dVar 0) dPn (dPs (dC (.int 3))))) (gNm 1) (dNot (dTest (dCall dn__law_number (dCons (dVar 1) (dCons (d2 powT (dC (.int 10)) (dC (.int 9))) dNil))))) (dVar 1)) (dList dNil)))
 (sRet (dC (.bl false)))
 sNx)
 (sRet (dOrV (d1 isNonT (d2 ixT (dVar 0) (dC (.int 3)))) (dCall dn__law_number (dCons (d2 ixT (dVar 0) (dC (.int 3))) (dCons (d2 powT (dC (.int 10)) (dC (.int 9))) dNil)))))))
def dn__law_is_day : List T → R T := dFn 2 b__law_is_day
theorem eq__law_is_day (a0 : T) : dn__law_is_day [a0] = fin (b__law_is_day [some (a0, false), none]) := rfl
def b__law_wrong_good : Lo → Fl := (sSeq (sIf (dOr (dNot (dTest (dBlt (isiL "tuple") (dCons (dVar 0) dNil)))) (dOr (dTest (d2 neT (dBlt lenL (dCons (dVar 0) dNil)) (dC (.int 2)))) (dOr (dNot (dTest (dBlt (isiL "list") (dCons (d2 ixT (dVar 0) (dC (.int 0))) dNil)))) (dTest (d2 neT (dBlt lenL (dCons (d2 ixT (dVar 0) (dC (.int 0))) dNil)) (dVar 1))))))
 (sRet (dList (dCons (dC .non) dNil)))
 sNx)
 (sSeq (sIf (dAnd (dTest (d1 notNonT (d2 ixT (dVar 0) (dC (.int 1))))) (dNot (dTest (dCall dn__law_number (dCons (d2 ixT (dVar 0) (dC (.int 1))) (dCons (dC (.int 40)) dNil))))))
 (sRet (dList (dCons (dC .non) dNil)))
 sNx)
 (sRet (dComp [2] (dRng1 (dVar 1)) (gNm 2) (dNot (dTest (dCall dn__law_is_day (dCons (d2 ixT (d2 ixT (dVar 0) (dC (.int 0))) (dVar 2)) dNil)))) (dVar 2)))))
def dn__law_wrong_good : List T → R T := dFn 3 b__law_wrong_good
theorem eq__law_wrong_good (a0 a1 : T) : dn__law_wrong_good [a0, a1] = fin (b__law_wrong_good [some (a0, false), some (a1, false), none]) := rfl
def b__law_wrong_p1 : Lo → Fl := (sWe [4, 5, 6] (sSeq (sSet 6 (dCall dn__law_wrong_good (dCons (dVar 5) (dCons (dBlt lenL (dCons (dVar 1) dNil)) dNil))))
 (sIf (dTest (d2 neT (dVar 6) (dList dNil)))
 (sRet (dTup (dCons (dVar 4) (dCons (d2 ixT (dVar 6) (dC (.int 0))) dNil))))
 sNx)))
def b__law_wrong : Lo → Fl := (sSeq (sIf (dOr (dNot (dTest (dBlt (isiL "tuple") (dCons (dVar 0) dNil)))) (dTest (d2 neT (dBlt lenL (dCons (dVar 0) dNil)) (dC (.int 3)))))
 (sRet (dTup (dCons (dC .non) (dCons (dC .non) dNil))))
 sNx)
 (sSeq (sAsg (gTp 3 (gCons (gNm 1) (gCons (gNm 2) (gCons (gNm 3) gNil)))) (dVar 0))
 (sSeq (sIf (dOr (dNot (dTest (dBlt (isiL "list") (dCons (dVar 1) dNil)))) (dTest (dBlt (inRng2 not) (dCons (dBlt lenL (dCons (dVar 1) dNil)) (dCons (dC (.int 1)) (dCons (dC (.int 41)) dNil))))))
 (sRet (dTup (dCons (dC .non) (dCons (dC .non) dNil))))
 sNx)
 (sSeq (sIf (dTest (d2 (nilG not) (dComp [7] (dIter (dVar 1)) (gNm 7) (dNot (dTest (dCall dn__law_number (dCons (dVar 7) (dCons (d2 powT (dC (.int 10)) (dC (.int 9))) dNil))))) (dVar 7)) (dList dNil)))
 (sRet (dTup (dCons (dC .non) (dCons (dC .non) dNil))))
 sNx)
 (sSeq (sIf (dAnd (dTest (d1 notNonT (dVar 2))) (dOr (dNot (dTest (dCall dn__law_number (dCons (dVar 2) (dCons (d2 powT (dC (.int 10)) (dC (.int 9))) dNil))))) (dTest (d2 eqT (dVar 2) (dC (.int 0))))))
 (sRet (dTup (dCons (dC .non) (dCons (dC .non) dNil))))
 sNx)
 (sSeq (sIf (dOr (dNot (dTest (dBlt (isiL "list") (dCons (dVar 3) dNil)))) (dTest (d2 ninT (dBlt lenL (dCons (dVar 3) dNil)) (dTup (dCons (dC (.int 1)) (dCons (dC (.int 2)) dNil))))))
 (sRet (dTup (dCons (dC .non) (dCons (dC .non) dNil))))
 sNx)
 (sSeq (sWp [4, 5, 6] (sFor (dEnum (dVar 3)) (gTp 2 (gCons (gNm 4) (gCons (gNm 5) gNil))) b__law_wrong_p1))
 (sRet (dC .non)))))))))
def dn__law_wrong : List T → R T := dFn 8 b__law_wrong
theorem eq__law_wrong (a0 : T) : dn__law_wrong [a0] = fin (b__law_wrong [some (a0, false), none, none, none, none, none, none, none]) := rfl
def b_is_plain_one : Lo → Fl := (sRet (dAndV (d1 isNonT (d2 ixT (dVar 0) (dC (.int 1)))) (d2 eqT (dBlt lenL (dCons (d2 ixT (dVar 0) (dC (.int 2))) dNil)) (dC (.int 1)))))
def dn_is_plain_one : List T → R T := dFn 1 b_is_plain_one
theorem eq_is_plain_one (a0 : T) : dn_is_plain_one [a0] = fin (b_is_plain_one [some (a0, false)]) := rfl
def b_is_plain : Lo → Fl := (sSeq (sEx (dCall dn_look_at_bakery (dCons (dVar 0) dNil)))
 (sRet (dCall dn_is_plain_one (dCons (dVar 0) dNil))))
def dn_is_plain : List T → R T := dFn 1 b_is_plain
theorem eq_is_plain (a0 : T) : dn_is_plain [a0] = fin (b_is_plain [some (a0, false)]) := rfl
def b_look_at_number : Lo → Fl := (sIf (dNot (dTest (dCall dn_is_within (dCons (dVar 1) (dCons (dC (.int 0)) (dCons (d2 subT (dBlt lenL (dCons (d2 ixT (dVar 0) (dC (.int 2))) dNil)) (dC (.int 1))) dNil))))))
 (sRaise0 "NoGood")
 sNx)
def dn_look_at_number : List T → R T := dFn 2 b_look_at_number
theorem eq_look_at_number (a0 a1 : T) : dn_look_at_number [a0, a1] = fin (b_look_at_number [some (a0, false), some (a1, false)]) := rfl
def b_look_at_day : Lo → Fl := (sIf (dNot (dTest (dCall dn_is_within (dCons (dVar 1) (dCons (dC (.int 0)) (dCons (d2 subT (dBlt lenL (dCons (d2 ixT (dVar 0) (dC (.int 0))) dNil)) (dC (.int 1))) dNil))))))
 (sRaise0 "NoDay")
 sNx)
def dn_look_at_day : List T → R T := dFn 2 b_look_at_day
theorem eq_look_at_day (a0 a1 : T) : dn_look_at_day [a0, a1] = fin (b_look_at_day [some (a0, false), some (a1, false)]) := rfl
def b_nights_ahead : Lo → Fl := (sSeq (sIf (dAnd (dTest (d1 notNonT (dVar 1))) (dTest (d2 gtT (d2 subT (dVar 3) (dVar 2)) (dVar 1))))
 (sRet (dC .non))
 sNx)
 (sRet (dBlt sumL (dCons (dComp [4, 5, 6, 7] (dIter (dSlice (dVar 0) (dPs (dVar 2)) (dPs (dVar 3)))) (gTp 4 (gCons (gNm 4) (gCons (gNm 5) (gCons (gNm 6) (gCons (gNm 7) gNil))))) dYes (dVar 6)) dNil))))
def dn_nights_ahead : List T → R T := dFn 8 b_nights_ahead
theorem eq_nights_ahead (a0 a1 a2 a3 : T) : dn_nights_ahead [a0, a1, a2, a3] = fin (b_nights_ahead [some (a0, false), some (a1, false), some (a2, false), some (a3, false), none, none, none, none]) := rfl
def b_nights_behind : Lo → Fl := (sSeq (sFz 3 (sSetF 3 (dComp [4, 5, 6, 7] (dIter (dSlice (dVar 0) (dPs (dVar 2)) (dPs (dVar 1)))) (gTp 4 (gCons (gNm 4) (gCons (gNm 5) (gCons (gNm 6) (gCons (gNm 7) gNil))))) dYes (dVar 7))))
 (sSeq (sIf (dTest (d2 inT (dC .non) (dVar 3)))
 (sRet (dC .non))
 sNx)
 (sRet (dBlt sumL (dCons (dVar 3) dNil)))))
def dn_nights_behind : List T → R T := dFn 8 b_nights_behind
theorem eq_nights_behind (a0 a1 a2 : T) : dn_nights_behind [a0, a1, a2] = fin (b_nights_behind [some (a0, false), some (a1, false), some (a2, false), none, none, none, none, none]) := rfl
def b_price_of : Lo → Fl := (sSeq (sAsg (gTp 2 (gCons (gNm 3) (gCons (gNm 4) gNil))) (dVar 0))
 (sSeq (sIf (dTest (d2 leT (dVar 1) (dVar 2)))
 (sSet 5 (dCall dn_nights_ahead (dCons (dVar 3) (dCons (dVar 4) (dCons (dVar 1) (dCons (dVar 2) dNil))))))
 (sSet 5 (dCall dn_nights_behind (dCons (dVar 3) (dCons (dVar 1) (dCons (dVar 2) dNil))))))
 (sSeq (sIf (dTest (d1 isNonT (dVar 5)))
 (sRet (dC .non))
 sNx)
 (sRet (d2 addT (d2 ixT (d2 ixT (dVar 3) (dVar 1)) (dC (.int 1))) (dVar 5))))))
def dn_price_of : List T → R T := dFn 6 b_price_of
theorem eq_price_of (a0 a1 a2 : T) : dn_price_of [a0, a1, a2] = fin (b_price_of [some (a0, false), some (a1, false), some (a2, false), none, none, none]) := rfl
def b_price : Lo → Fl := (sSeq (sEx (dCall dn_look_at_bakery (dCons (dVar 0) dNil)))
 (sSeq (sEx (dCall dn_look_at_number (dCons (dVar 0) (dCons (dVar 1) dNil))))
 (sSeq (sEx (dCall dn_look_at_day (dCons (dVar 0) (dCons (dVar 2) dNil))))
 (sSeq (sEx (dCall dn_look_at_day (dCons (dVar 0) (dCons (dVar 3) dNil))))
 (sRet (dCall dn_price_of (dCons (d2 ixT (d2 ixT (dVar 0) (dC (.int 2))) (dVar 1)) (dCons (dVar 2) (dCons (dVar 3) dNil)))))))))
def dn_price : List T → R T := dFn 4 b_price
theorem eq_price (a0 a1 a2 a3 : T) : dn_price [a0, a1, a2, a3] = fin (b_price [some (a0, false), some (a1, false), some (a2, false), some (a3, false)]) := rfl
def b__law_longer : Lo → Fl := (sSeq (sAsg (gTp 3 (gCons (gNm 2) (gCons (gNm 3) (gCons (gNm 4) gNil)))) (dVar 0))
 (sRet (dTup (dCons (dSlice (d2 mulT (dVar 2) (dC (.int 40))) dPn (dPs (dC (.int 40)))) (dCons (dVar 3) (dCons (dComp [5, 6] (dIter (dVar 4)) (gTp 2 (gCons (gNm 5) (gCons (gNm 6) gNil))) dYes (dTup (dCons (dSlice (d2 mulT (dVar 5) (dC (.int 40))) dPn (dPs (dC (.int 40)))) (dCons (dVar 1) dNil)))) dNil))))))
def dn__law_longer : List T → R T := dFn 7 b__law_longer
theorem eq__law_longer (a0 a1 : T) : dn__law_longer [a0, a1] = fin (b__law_longer [some (a0, false), some (a1, false), none, none, none, none, none]) := rfl
def b_reach_of_p1 : Lo → R Bool := (dAnd (dTest (d2 ltT (dVar 3) (d2 subT (dBlt lenL (dCons (dVar 4) dNil)) (dC (.int 1))))) (dTest (d1 notNonT (d2 ixT (d2 ixT (dVar 4) (dVar 3)) (dC (.int 3))))))
def b_reach_of_p2 : Lo → Fl := (sWe [] (sAug 3 augAdd (dC (.int 1))))
def b_reach_of : Lo → Fl := (sSeq (sAsg (gTp 2 (gCons (gNm 4) (gCons (gNm 5) gNil))) (dVar 0))
 (sSeq (sSet 2 (dC (.int 0)))
 (sSeq (sIf (dTest (d1 notNonT (dVar 5)))
 (sSet 2 (dBlt maxL (dCons (dC (.int 0)) (dCons (d2 subT (dVar 1) (dVar 5)) dNil))))
 sNx)
 (sSeq (sSet 3 (dVar 1))
 (sSeq (sWp [] (sWhile fuel b_reach_of_p1 b_reach_of_p2))
 (sRet (dTup (dCons (dVar 2) (dCons (dVar 3) dNil)))))))))
def dn_reach_of : List T → R T := dFn 6 b_reach_of
theorem eq_reach_of (a0 a1 : T) : dn_reach_of [a0, a1] = fin (b_reach_of [some (a0, false), some (a1, false), none, none, none, none]) := rfl
def b_reach : Lo → Fl := (sSeq (sEx (dCall dn_look_at_bakery (dCons (dVar 0) dNil)))
 (sSeq (sEx (dCall dn_look_at_number (dCons (dVar 0) (dCons (dVar 1) dNil))))
 (sSeq (sEx (dCall dn_look_at_day (dCons (dVar 0) (dCons (dVar 2) dNil))))
 (sRet (dCall dn_reach_of (dCons (d2 ixT (d2 ixT (dVar 0) (dC (.int 2))) (dVar 1)) (dCons (dVar 2) dNil)))))))
def dn_reach : List T → R T := dFn 3 b_reach
theorem eq_reach (a0 a1 a2 : T) : dn_reach [a0, a1, a2] = fin (b_reach [some (a0, false), some (a1, false), some (a2, false)]) := rfl
def b_stretch_of_p1 : Lo → Fl := (sWe [5, 6, 7] (sSeq (sSet 6 (d2 ixT (d2 ixT (d2 ixT (dVar 0) (dC (.int 0))) (dVar 5)) (dC (.int 0))))
 (sIf (dTest (d2 gtT (dVar 6) (dC (.int 0))))
 (sSeq (sSet 7 (dCall dn_price_of (dCons (dVar 0) (dCons (dVar 1) (dCons (dVar 5) dNil)))))
 (sSeq (sIf (dTest (d1 isNonT (dVar 7)))
 (sRet (dC .non))
 sNx)
 (sAug 4 augAdd (d2 mulT (dVar 6) (dVar 7)))))
 sNx)))
def b_stretch_of : Lo → Fl := (sSeq (sSet 4 (dC (.int 0)))
 (sSeq (sWp [5, 6, 7] (sFor (dRng2 (dCons (dVar 2) (dCons (d2 addT (dVar 3) (dC (.int 1))) dNil))) (gNm 5) b_stretch_of_p1))
 (sRetO false 4)))
def dn_stretch_of : List T → R T := dFn 8 b_stretch_of
theorem eq_stretch_of (a0 a1 a2 a3 : T) : dn_stretch_of [a0, a1, a2, a3] = fin (b_stretch_of [some (a0, false), some (a1, false), some (a2, false), some (a3, false), none, none, none, none]) := rfl
def b_stretch_price_p1 : Lo → Fl := (sWe [5] (sEx (dCall dn_look_at_day (dCons (dVar 0) (dCons (dVar 5) dNil)))))
def b_stretch_price : Lo → Fl := (sSeq (sEx (dCall dn_look_at_bakery (dCons (dVar 0) dNil)))
 (sSeq (sEx (dCall dn_look_at_number (dCons (dVar 0) (dCons (dVar 1) dNil))))
 (sSeq (sWp [5] (sFor (dIter (dTup (dCons (dVar 2) (dCons (dVar 3) (dCons (dVar 4) dNil))))) (gNm 5) b_stretch_price_p1))
 (sSeq (sIf (dTest (d2 ltT (dVar 4) (dVar 3)))
 (sRaise0 "NoDay")
 sNx)
 (sRet (dCall dn_stretch_of (dCons (d2 ixT (d2 ixT (dVar 0) (dC (.int 2))) (dVar 1)) (dCons (dVar 2) (dCons (dVar 3) (dCons (dVar 4) dNil))))))))))
def dn_stretch_price : List T → R T := dFn 6 b_stretch_price
theorem eq_stretch_price (a0 a1 a2 a3 a4 : T) : dn_stretch_price [a0, a1, a2, a3, a4] = fin (b_stretch_price [some (a0, false), some (a1, false), some (a2, false), some (a3, false), some (a4, false), none]) := rfl
def b__law_price : Lo → Fl := (sSeq (sAsg (gTp 2 (gCons (gNm 3) (gCons (gNm 4) gNil))) (dVar 0))
 (sSeq (sIf (dTest (d2 gtT (dVar 1) (dVar 2)))
 (sSeq (sFz 5 (sSetF 5 (dComp [6] (dIter (dSlice (dVar 3) (dPs (dVar 2)) (dPs (dVar 1)))) (gNm 6) dYes (d2 ixT (dVar 6) (dC (.int 3))))))
 (sRet (dIf (dTest (d2 inT (dC .non) (dVar 5))) (dC .non) (d2 addT (d2 ixT (d2 ixT (dVar 3) (dVar 1)) (dC (.int 1))) (dBlt sumL (dCons (dVar 5) dNil))))))
 sNx)
 (sSeq (sIf (dAnd (dTest (d1 notNonT (dVar 4))) (dTest (d2 gtT (d2 subT (dVar 2) (dVar 1)) (dVar 4))))
 (sRet (dC .non))
 sNx)
 (sRet (d2 addT (d2 ixT (d2 ixT (dVar 3) (dVar 1)) (dC (.int 1))) (dBlt sumL (dCons (dComp [6] (dIter (dSlice (dVar 3) (dPs (dVar 1)) (dPs (dVar 2)))) (gNm 6) dYes (d2 ixT (dVar 6) (dC (.int 2)))) dNil)))))))
def dn__law_price : List T → R T := dFn 7 b__law_price
theorem eq__law_price (a0 a1 a2 : T) : dn__law_price [a0, a1, a2] = fin (b__law_price [some (a0, false), some (a1, false), some (a2, false), none, none, none, none]) := rfl
def b_look_at_plain : Lo → Fl := (sIf (dNot (dTest (dCall dn_is_plain (dCons (dVar 0) dNil))))
 (sRaise0 "NotPlain")
 sNx)
def dn_look_at_plain : List T → R T := dFn 1 b_look_at_plain
theorem eq_look_at_plain (a0 : T) : dn_look_at_plain [a0] = fin (b_look_at_plain [some (a0, false)]) := rfl
def b_prices_from : Lo → Fl := (sRet (dComp [2] (dRng1 (dBlt lenL (dCons (d2 ixT (dVar 0) (dC (.int 0))) dNil))) (gNm 2) dYes (dCall dn_price_of (dCons (dVar 0) (dCons (dVar 1) (dCons (dVar 2) dNil))))))
def dn_prices_from : List T → R T := dFn 3 b_prices_from
theorem eq_prices_from (a0 a1 : T) : dn_prices_from [a0, a1] = fin (b_prices_from [some (a0, false), some (a1, false), none]) := rfl
def b_wants_from_p1 : Lo → Fl := (sWe [3, 4] (sIf (dTest (d2 eqT (d2 ixT (dVar 3) (dC (.int 0))) (dC (.int 0))))
 (sApp 2 (dC (.int 0)))
 (sIf (dTest (d1 isNonT (dVar 4)))
 (sApp 2 (dC .non))
 (sApp 2 (d2 mulT (d2 ixT (dVar 3) (dC (.int 0))) (dVar 4))))))
def b_wants_from : Lo → Fl := (sSeq (sSetF 2 (dList dNil))
 (sSeq (sWp [3, 4] (sFor (dZip (dCons (d2 ixT (dVar 0) (dC (.int 0))) (dCons (dCall dn_prices_from (dCons (dVar 0) (dCons (dVar 1) dNil))) dNil))) (gTp 2 (gCons (gNm 3) (gCons (gNm 4) gNil))) b_wants_from_p1))
 (sRetO true 2)))
def dn_wants_from : List T → R T := dFn 5 b_wants_from
theorem eq_wants_from (a0 a1 : T) : dn_wants_from [a0, a1] = fin (b_wants_from [some (a0, false), some (a1, false), none, none, none]) := rfl
def b_lesser : Lo → Fl := (sSeq (sIf (dOr (dTest (d1 isNonT (dVar 0))) (dTest (d1 isNonT (dVar 1))))
 (sRet (dIf (dTest (d1 isNonT (dVar 0))) (dFl (dVar 1)) (dFl (dVar 0))))
 sNx)
 (sRet (dBlt minL (dCons (dVar 0) (dCons (dVar 1) dNil)))))
def dn_lesser : List T → R T := dFn 2 b_lesser
theorem eq_lesser (a0 a1 : T) : dn_lesser [a0, a1] = fin (b_lesser [some (a0, false), some (a1, false)]) := rfl
def b_together : Lo → Fl := (sSeq (sIf (dOr (dTest (d1 isNonT (dVar 0))) (dTest (d1 isNonT (dVar 1))))
 (sRet (dC .non))
 sNx)
 (sRet (d2 addT (dVar 0) (dVar 1))))
def dn_together : List T → R T := dFn 2 b_together
theorem eq_together (a0 a1 : T) : dn_together [a0, a1] = fin (b_together [some (a0, false), some (a1, false)]) := rfl
def b_unlit_p1 : Lo → Fl := (sWe [2, 3, 4, 5] (sApp 1 (dIf (dTest (d2 eqT (dVar 2) (dC (.int 0)))) (d2 ixT (dVarW 1) (d1 negT (dC (.int 1)))) (dC .non))))
def b_unlit : Lo → Fl := (sSeq (sSetF 1 (dList (dCons (dC (.int 0)) dNil)))
 (sSeq (sWp [2, 3, 4, 5] (sFor (dIter (d2 ixT (dVar 0) (dC (.int 0)))) (gTp 4 (gCons (gNm 2) (gCons (gNm 3) (gCons (gNm 4) (gCons (gNm 5) gNil))))) b_unlit_p1))
 (sRetO true 1)))
def dn_unlit : List T → R T := dFn 6 b_unlit
theorem eq_unlit (a0 : T) : dn_unlit [a0] = fin (b_unlit [some (a0, false), none, none, none, none, none]) := rfl
def b_lit_row_p1 : Lo → Fl := (sWe [5, 6] (sSeq (sSet 4 (dCall dn_together (dCons (dCall dn_lesser (dCons (dVar 4) (dCons (d2 ixT (dVar 2) (dVar 5)) dNil))) (dCons (dVar 6) dNil))))
 (sApp 3 (dCall dn_together (dCons (dVar 4) (dCons (dVar 0) dNil))))))
def b_lit_row : Lo → Fl := (sSeq (sSetF 3 (dList (dCons (dC .non) dNil)))
 (sSeq (sSet 4 (dC .non))
 (sSeq (sWp [5, 6] (sFor (dEnum (dVar 1)) (gTp 2 (gCons (gNm 5) (gCons (gNm 6) gNil))) b_lit_row_p1))
 (sRetO true 3))))
def dn_lit_row : List T → R T := dFn 7 b_lit_row
theorem eq_lit_row (a0 a1 a2 : T) : dn_lit_row [a0, a1, a2] = fin (b_lit_row [some (a0, false), some (a1, false), some (a2, false), none, none, none, none]) := rfl
def b_known_rows_p1 : Lo → Fl := (sWe [3, 4, 5] (sSeq (sSet 5 (dCall dn_lit_row (dCons (dVar 4) (dCons (dCall dn_wants_from (dCons (dVar 1) (dCons (dVar 3) dNil))) (dCons (d2 ixT (dVarW 2) (d1 negT (dC (.int 1)))) dNil)))))
 (sApp 2 (dComp [6, 7] (dZip (dCons (d2 ixT (dVarW 2) (d1 negT (dC (.int 1)))) (dCons (dVar 5) dNil))) (gTp 2 (gCons (gNm 6) (gCons (gNm 7) gNil))) dYes (dCall dn_lesser (dCons (dVar 6) (dCons (dVar 7) dNil)))))))
def b_known_rows : Lo → Fl := (sSeq (sSet 1 (d2 ixT (d2 ixT (dVar 0) (dC (.int 2))) (dC (.int 0))))
 (sSeq (sSetF 2 (dList (dCons (dCall dn_unlit (dCons (dVar 1) dNil)) dNil)))
 (sSeq (sWp [3, 4, 5] (sFor (dEnum (d2 ixT (dVar 0) (dC (.int 0)))) (gTp 2 (gCons (gNm 3) (gCons (gNm 4) gNil))) b_known_rows_p1))
 (sRetO true 2))))
def dn_known_rows : List T → R T := dFn 8 b_known_rows
theorem eq_known_rows (a0 : T) : dn_known_rows [a0] = fin (b_known_rows [some (a0, false), none, none, none, none, none, none, none]) := rfl
def b_least_row : Lo → Fl := (sSeq (sEx (dCall dn_look_at_plain (dCons (dVar 0) dNil)))
 (sRet (dComp [1, 2] (dEnum (dCall dn_known_rows (dCons (dVar 0) dNil))) (gTp 2 (gCons (gNm 1) (gCons (gNm 2) gNil))) dYes (d2 ixT (dVar 2) (dVar 1)))))
def dn_least_row : List T → R T := dFn 3 b_least_row
theorem eq_least_row (a0 : T) : dn_least_row [a0] = fin (b_least_row [some (a0, false), none, none]) := rfl
def b__law_bakery : Lo → Fl := (sSeq (sSet 3 (dCall dn__law_numbers (dCons (dCall dn__law_cell_at (dCons (dVar 0) (dCons (dC (.int 0)) dNil))) (dCons (dVar 2) (dCons (dList (dCons (dC (.int 3)) (dCons (dC (.int 12)) (dCons (dC (.int 2)) dNil)))) dNil)))))
 (sSeq (sAsg (gTp 2 (gCons (gNm 5) (gCons (gNm 6) gNil))) (dCall dn__law_days (dCons (dVar 0) (dCons (dC (.int 1)) (dCons (dVar 1) (dCons (dVar 2) (dCons (d2 eqT (d2 ixT (dVar 3) (dC (.int 2))) (dC (.int 1))) dNil)))))))
 (sSeq (sSet 4 (dList (dCons (dC .non) (dCons (dC .non) (dCons (dC (.int 0)) (dCons (dC (.int 1)) (dCons (dC (.int 2)) (dCons (dC (.int 3)) (dCons (dC (.int 4)) (dCons (dC (.int 5)) (dCons (dC (.int 7)) (dCons (dC (.int 11)) (dCons (dC (.int 23)) (dCons (dC (.int 40)) dNil))))))))))))))
 (sRet (dTup (dCons (dVar 5) (dCons (dC .non) (dCons (dList (dCons (dTup (dCons (dVar 6) (dCons (d2 ixT (dVar 4) (d2 ixT (dVar 3) (dC (.int 1)))) dNil))) dNil)) dNil))))))))
def dn__law_bakery : List T → R T := dFn 7 b__law_bakery
theorem eq__law_bakery (a0 a1 a2 : T) : dn__law_bakery [a0, a1, a2] = fin (b__law_bakery [some (a0, false), some (a1, false), some (a2, false), none, none, none, none]) := rfl
def b__law_set_cost_p1 : Lo → Fl := (sWe [5, 6, 7, 8] (sSeq (sSet 6 (d2 ixT (d2 ixT (d2 ixT (dVar 1) (dC (.int 0))) (dVar 5)) (dC (.int 0))))
 (sSeq (sFz 7 (sSetF 7 (dComp [10] (dIter (dVar 2)) (gNm 10) dYes (dCall dn__law_price (dCons (dVar 1) (dCons (dVar 10) (dCons (dVar 5) dNil)))))))
 (sSeq (sFz 8 (sSetF 8 (dComp [11] (dIter (dVar 7)) (gNm 11) (dTest (d1 notNonT (dVar 11))) (dVar 11))))
 (sSeq (sIf (dAnd (dTest (d2 gtT (dVar 6) (dC (.int 0)))) (dTest (d2 eqT (dVar 8) (dList dNil))))
 (sRet (dC .non))
 sNx)
 (sIf (dTest (d2 gtT (dVar 6) (dC (.int 0))))
 (sSet 4 (d2 addT (dVar 4) (d2 mulT (dVar 6) (dBlt min1L (dCons (dVar 8) dNil)))))
 sNx))))))
def b__law_set_cost : Lo → Fl := (sSeq (sSet 4 (dBlt sumL (dCons (dComp [9] (dIter (dVar 2)) (gNm 9) dYes (d2 ixT (dVar 0) (dVar 9))) dNil)))
 (sSeq (sWp [5, 6, 7, 8] (sFor (dRng1 (dVar 3)) (gNm 5) b__law_set_cost_p1))
 (sRetO false 4)))
def dn__law_set_cost : List T → R T := dFn 12 b__law_set_cost
theorem eq__law_set_cost (a0 a1 a2 a3 : T) : dn__law_set_cost [a0, a1, a2, a3] = fin (b__law_set_cost [some (a0, false), some (a1, false), some (a2, false), some (a3, false), none, none, none, none, none, none, none, none]) := rfl
def b_begin_of_p1 : Lo → Fl := (sWe [5] (sSeq (sIf (dTest (d1 isNonT (d2 ixT (dVar 1) (dVar 5))))
 (sRet (dC .non))
 sNx)
 (sSeq (sAug 4 augAdd (d2 ixT (dVar 1) (dVar 5)))
 (sIf (dAnd (dTest (d1 notNonT (d2 ixT (dVar 2) (dVar 5)))) (dTest (d2 eqT (d2 addT (d2 ixT (dVar 2) (dVar 5)) (dVar 4)) (dVar 0))))
 (sRetO false 5)
 sNx))))
def b_begin_of : Lo → Fl := (sSeq (sSet 4 (dC (.int 0)))
 (sSeq (sWp [5] (sFor (dRngD (dCons (d2 subT (dVar 3) (dC (.int 1))) (dCons (d1 negT (dC (.int 1))) (dCons (d1 negT (dC (.int 1))) dNil)))) (gNm 5) b_begin_of_p1))
 (sRet (dC .non))))
def dn_begin_of : List T → R T := dFn 6 b_begin_of
theorem eq_begin_of (a0 a1 a2 a3 : T) : dn_begin_of [a0, a1, a2, a3] = fin (b_begin_of [some (a0, false), some (a1, false), some (a2, false), some (a3, false), none, none]) := rfl
def b_lot_rows_p1 : Lo → Fl := (sWe [4, 5, 6] (sIf (dTest (d2 neT (d2 ixT (d2 ixT (dVar 1) (d2 addT (dVar 4) (dC (.int 1)))) (dVar 2)) (d2 ixT (d2 ixT (dVar 1) (dVar 4)) (dVar 2))))
 (sSeq (sSet 5 (dCall dn_wants_from (dCons (d2 ixT (d2 ixT (dVar 0) (dC (.int 2))) (dC (.int 0))) (dCons (dVar 4) dNil))))
 (sSeq (sSet 6 (dCall dn_begin_of (dCons (d2 subT (d2 ixT (d2 ixT (dVar 1) (d2 addT (dVar 4) (dC (.int 1)))) (dVar 2)) (d2 ixT (d2 ixT (dVar 0) (dC (.int 0))) (dVar 4))) (dCons (dVar 5) (dCons (d2 ixT (dVar 1) (dVar 4)) (dCons (dVar 2) dNil))))))
 (sSeq (sApp 3 (dTup (dCons (dVar 4) (dCons (dVar 6) (dCons (dVar 2) dNil)))))
 (sSet 2 (dVar 6)))))
 sNx))
def b_lot_rows : Lo → Fl := (sSeq (sSet 1 (dCall dn_known_rows (dCons (dVar 0) dNil)))
 (sSeq (sSet 2 (dBlt lenL (dCons (d2 ixT (dVar 0) (dC (.int 0))) dNil)))
 (sSeq (sSetF 3 (dList dNil))
 (sSeq (sWp [4, 5, 6] (sFor (dRngD (dCons (d2 subT (dBlt lenL (dCons (d2 ixT (dVar 0) (dC (.int 0))) dNil)) (dC (.int 1))) (dCons (d1 negT (dC (.int 1))) (dCons (d1 negT (dC (.int 1))) dNil)))) (gNm 4) b_lot_rows_p1))
 (sRet (d1 revT (dVarW 3)))))))
def dn_lot_rows : List T → R T := dFn 7 b_lot_rows
theorem eq_lot_rows (a0 : T) : dn_lot_rows [a0] = fin (b_lot_rows [some (a0, false), none, none, none, none, none, none]) := rfl
def b_cheapest_p1 : Lo → Fl := (sWe [5, 6] (sSeq (sSet 6 (d2 ixT (d2 ixT (d2 ixT (d2 ixT (d2 ixT (dVar 0) (dC (.int 2))) (dC (.int 0))) (dC (.int 0))) (dVar 5)) (dC (.int 0))))
 (sIf (dTest (d2 gtT (dVar 6) (dC (.int 0))))
 (sApp 1 (dTup (dCons (dVar 2) (dCons (dC (.int 0)) (dCons (dVar 5) (dCons (dVar 6) dNil))))))
 sNx)))
def b_cheapest_p2 : Lo → Fl := (sWe [2, 3, 4, 5, 6] (sWp [5, 6] (sFor (dRng2 (dCons (dVar 3) (dCons (dVar 4) dNil))) (gNm 5) b_cheapest_p1)))
def b_cheapest : Lo → Fl := (sSeq (sEx (dCall dn_look_at_plain (dCons (dVar 0) dNil)))
 (sSeq (sSetF 1 (dList dNil))
 (sSeq (sWp [2, 3, 4, 5, 6] (sFor (dIter (dCall dn_lot_rows (dCons (dVar 0) dNil))) (gTp 3 (gCons (gNm 2) (gCons (gNm 3) (gCons (gNm 4) gNil)))) b_cheapest_p2))
 (sRet (dBlt sorted1L (dCons (dVarW 1) dNil))))))
def dn_cheapest : List T → R T := dFn 7 b_cheapest
theorem eq_cheapest (a0 : T) : dn_cheapest [a0] = fin (b_cheapest [some (a0, false), none, none, none, none, none, none]) := rfl
def b_are_prices_p1 : Lo → Fl := (sWe [2, 3] (sIf (dOr (dNot (dTest (dCall dn_is_whole (dCons (dVar 2) dNil)))) (dAnd (dTest (d2 eqT (d2 ixT (dVar 3) (dC (.int 0))) (dC (.int 0)))) (dTest (d2 neT (dVar 2) (dC (.int 0))))))
 (sRet (dC (.bl false)))
 sNx))
def b_are_prices : Lo → Fl := (sSeq (sIf (dOr (dNot (dTest (dBlt (isiL "list") (dCons (dVar 1) dNil)))) (dTest (d2 neT (dBlt lenL (dCons (dVar 1) dNil)) (dBlt lenL (dCons (d2 ixT (dVar 0) (dC (.int 0))) dNil)))))
 (sRet (dC (.bl false)))
 sNx)
 (sSeq (sWp [2, 3] (sFor (dZip (dCons (dVar 1) (dCons (d2 ixT (d2 ixT (d2 ixT (dVar 0) (dC (.int 2))) (dC (.int 0))) (dC (.int 0))) dNil))) (gTp 2 (gCons (gNm 2) (gCons (gNm 3) gNil))) b_are_prices_p1))
 (sRet (dC (.bl true)))))
def dn_are_prices : List T → R T := dFn 4 b_are_prices
theorem eq_are_prices (a0 a1 : T) : dn_are_prices [a0, a1] = fin (b_are_prices [some (a0, false), some (a1, false), none, none]) := rfl
def b_holds_at_p1 : Lo → Fl := (sWe [4, 5] (sSeq (sIf (dTest (d1 isNonT (dVar 4)))
 (sSet 3 (dC (.int 0)))
 (sSet 3 (d2 subT (d2 addT (dBlt maxL (dCons (dVar 3) (dCons (dC (.int 0)) dNil))) (dVar 5)) (dVar 4))))
 (sIf (dTest (d2 gtT (dVar 3) (dVar 0)))
 (sRet (dC (.bl false)))
 sNx)))
def b_holds_at : Lo → Fl := (sSeq (sSet 3 (dC (.int 0)))
 (sSeq (sWp [4, 5] (sFor (dZip (dCons (dVar 1) (dCons (dVar 2) dNil))) (gTp 2 (gCons (gNm 4) (gCons (gNm 5) gNil))) b_holds_at_p1))
 (sRet (dC (.bl true)))))
def dn_holds_at : List T → R T := dFn 6 b_holds_at
theorem eq_holds_at (a0 a1 a2 : T) : dn_holds_at [a0, a1, a2] = fin (b_holds_at [some (a0, false), some (a1, false), some (a2, false), none, none, none]) := rfl
def b_lets_prices : Lo → Fl := (sSeq (sEx (dCall dn_look_at_plain (dCons (dVar 0) dNil)))
 (sSeq (sIf (dNot (dTest (dCall dn_are_prices (dCons (dVar 0) (dCons (dVar 1) dNil)))))
 (sRet (dC (.bl false)))
 sNx)
 (sRet (dBlt allL (dCons (dComp [2, 3] (dEnum (d2 ixT (dVar 0) (dC (.int 0)))) (gTp 2 (gCons (gNm 2) (gCons (gNm 3) gNil))) dYes (dCall dn_holds_at (dCons (dVar 3) (dCons (dCall dn_wants_from (dCons (d2 ixT (d2 ixT (dVar 0) (dC (.int 2))) (dC (.int 0))) (dCons (dVar 2) dNil))) (dCons (dVar 1) dNil))))) dNil)))))
def dn_lets_prices : List T → R T := dFn 4 b_lets_prices
theorem eq_lets_prices (a0 a1 : T) : dn_lets_prices [a0, a1] = fin (b_lets_prices [some (a0, false), some (a1, false), none, none]) := rfl
def b_prices_of : Lo → Fl := (sSeq (sEx (dCall dn_look_at_plain (dCons (dVar 0) dNil)))
 (sSeq (sSet 1 (d2 ixT (dCall dn_known_rows (dCons (dVar 0) dNil)) (d1 negT (dC (.int 1)))))
 (sRet (dComp [2] (dRng1 (dBlt lenL (dCons (d2 ixT (dVar 0) (dC (.int 0))) dNil))) (gNm 2) dYes (d2 subT (d2 ixT (dVar 1) (d2 addT (dVar 2) (dC (.int 1)))) (d2 ixT (dVar 1) (dVar 2)))))))
def dn_prices_of : List T → R T := dFn 3 b_prices_of
theorem eq_prices_of (a0 : T) : dn_prices_of [a0] = fin (b_prices_of [some (a0, false), none, none]) := rfl
def b__law_let_p1 : Lo → Fl := (sWe [12] (sSeq (sIf (dAnd (dTest (d1 isNonT (d2 ixT (dVar 9) (dVar 12)))) (dTest (d2 gtT (d2 ixT (d2 ixT (dVar 2) (dVar 12)) (dC (.int 0))) (dC (.int 0)))))
 sBk
 sNx)
 (sSeq (sIf (dTest (d2 gtT (d2 ixT (d2 ixT (dVar 2) (dVar 12)) (dC (.int 0))) (dC (.int 0))))
 (sSeq (sSet 11 (d2 addT (dVar 11) (d2 ixT (dVar 1) (dVar 12))))
 (sSet 11 (d2 subT (dVar 11) (d2 mulT (d2 ixT (d2 ixT (dVar 2) (dVar 12)) (dC (.int 0))) (d2 ixT (dVar 9) (dVar 12))))))
 sNx)
 (sIf (dTest (d2 gtT (dVar 11) (d2 ixT (dVar 4) (dVar 3))))
 (sRet (dC (.bl false)))
 sNx))))
def b__law_let_p2 : Lo → Fl := (sWe [10, 11, 12] (sSeq (sSet 11 (dC (.int 0)))
 (sWp [12] (sFor (dRng2 (dCons (dVar 10) (dCons (dBlt lenL (dCons (dVar 4) dNil)) dNil))) (gNm 12) b__law_let_p1))))
def b__law_let_p3 : Lo → Fl := (sWe [3, 9, 10, 11, 12] (sSeq (sFz 9 (sSetF 9 (dComp [12] (dRng1 (dBlt lenL (dCons (dVar 4) dNil))) (gNm 12) dYes (dCall dn__law_price (dCons (d2 ixT (dVar 6) (dC (.int 0))) (dCons (dVar 3) (dCons (dVar 12) dNil)))))))
 (sWp [10, 11, 12] (sFor (dRng1 (dBlt lenL (dCons (dVar 4) dNil))) (gNm 10) b__law_let_p2))))
def b__law_let_p4 : Lo → Fl := (sWe [7, 8] (sSeq (sIf (dOr (dNot (dTest (dBlt (isiL "int") (dCons (dVar 8) dNil)))) (dTest (dBlt (isiL "bool") (dCons (dVar 8) dNil))))
 (sRet (dC (.bl false)))
 sNx)
 (sIf (dAnd (dTest (d2 eqT (d2 ixT (dVar 7) (dC (.int 0))) (dC (.int 0)))) (dTest (d2 neT (dVar 8) (dC (.int 0)))))
 (sRet (dC (.bl false)))
 sNx)))
def b__law_let : Lo → Fl := (sSeq (sAsg (gTp 3 (gCons (gNm 4) (gCons (gNm 5) (gCons (gNm 6) gNil)))) (dVar 0))
 (sSeq (sSet 2 (d2 ixT (d2 ixT (dVar 6) (dC (.int 0))) (dC (.int 0))))
 (sSeq (sIf (dOr (dNot (dTest (dBlt (isiL "list") (dCons (dVar 1) dNil)))) (dTest (d2 neT (dBlt lenL (dCons (dVar 1) dNil)) (dBlt lenL (dCons (dVar 4) dNil)))))
 (sRet (dC (.bl false)))
 sNx)
 (sSeq (sWp [7, 8] (sFor (dZip (dCons (dVar 2) (dCons (dVar 1) dNil))) (gTp 2 (gCons (gNm 7) (gCons (gNm 8) gNil))) b__law_let_p4))
 (sSeq (sWp [3, 9, 10, 11, 12] (sFor (dRng1 (dBlt lenL (dCons (dVar 4) dNil))) (gNm 3) b__law_let_p3))
 (sRet (dC (.bl true))))))))
def dn__law_let : List T → R T := dFn 13 b__law_let
theorem eq__law_let (a0 a1 : T) : dn__law_let [a0, a1] = fin (b__law_let [some (a0, false), some (a1, false), none, none, none, none, none, none, none, none, none, none, none]) := rfl
def b_look_at_days_p1 : Lo → Fl := (sWe [2] (sIf (dTest (d2 geX (d2 ixT (dVar 1) (d2 subT (dVar 2) (dC (.int 1)))) (d2 ixT (dVar 1) (dVar 2))))
 (sRaise0 "NoDays")
 sNx))
def b_look_at_days : Lo → Fl := (sSeq (sIf (dOr (dNot (dTest (dBlt (isiL "list") (dCons (dVar 1) dNil)))) (dNot (dTest (dBlt allL (dCons (dComp [3] (dIter (dVar 1)) (gNm 3) dYes (dCall dn_is_within (dCons (dVar 3) (dCons (dC (.int 0)) (dCons (d2 subT (dBlt lenL (dCons (d2 ixT (dVar 0) (dC (.int 0))) dNil)) (dC (.int 1))) dNil))))) dNil)))))
 (sRaise0 "NoDays")
 sNx)
 (sWp [2] (sFor (dRng2 (dCons (dC (.int 1)) (dCons (dBlt lenL (dCons (dVar 1) dNil)) dNil))) (gNm 2) b_look_at_days_p1)))
def dn_look_at_days : List T → R T := dFn 4 b_look_at_days
theorem eq_look_at_days (a0 a1 : T) : dn_look_at_days [a0, a1] = fin (b_look_at_days [some (a0, false), some (a1, false), none, none]) := rfl
def b_reaches_of_p1 : Lo → Fl := (sWe [3, 4, 5, 6] (sSeq (sAsg (gTp 2 (gCons (gNm 5) (gCons (gNm 6) gNil))) (dCall dn_reach_of (dCons (dVar 2) (dCons (dVar 3) dNil))))
 (sApp 1 (dTup (dCons (dVar 5) (dCons (dVar 6) (dCons (d2 ixT (dVar 4) (dC (.int 0))) dNil)))))))
def b_reaches_of_p2 : Lo → Fl := (sWe [2, 3, 4, 5, 6] (sWp [3, 4, 5, 6] (sFor (dEnum (d2 ixT (dVar 2) (dC (.int 0)))) (gTp 2 (gCons (gNm 3) (gCons (gNm 4) gNil))) b_reaches_of_p1)))
def b_reaches_of : Lo → Fl := (sSeq (sSetF 1 (dList dNil))
 (sSeq (sWp [2, 3, 4, 5, 6] (sFor (dIter (d2 ixT (dVar 0) (dC (.int 2)))) (gNm 2) b_reaches_of_p2))
 (sRetO true 1)))
def dn_reaches_of : List T → R T := dFn 7 b_reaches_of
theorem eq_reaches_of (a0 : T) : dn_reaches_of [a0] = fin (b_reaches_of [some (a0, false), none, none, none, none, none, none]) := rfl
def b_is_beyond : Lo → Fl := (sSeq (sSet 5 (dBlt sumL (dCons (dComp [8, 9, 10] (dIter (dVar 2)) (gTp 3 (gCons (gNm 8) (gCons (gNm 9) (gCons (gNm 10) gNil)))) (dAnd (dTest (d2 leT (dVar 3) (dVar 8))) (dTest (d2 leT (dVar 9) (dVar 4)))) (dVar 10)) dNil)))
 (sSeq (sSet 6 (dBlt lenL (dCons (dComp [7] (dRng2 (dCons (dVar 3) (dCons (d2 addT (dVar 4) (dC (.int 1))) dNil))) (gNm 7) (dTest (d2 ninT (dVar 7) (dVar 1))) (dVar 7)) dNil)))
 (sSeq (sIf (dTest (d1 isNonT (d2 ixT (dVar 0) (dC (.int 1)))))
 (sRet (dAndV (d2 gtT (dVar 5) (dC (.int 0))) (d2 eqT (dVar 6) (dC (.int 0)))))
 sNx)
 (sRet (d2 gtT (dVar 5) (d2 mulT (d2 ixT (dVar 0) (dC (.int 1))) (dVar 6)))))))
def dn_is_beyond : List T → R T := dFn 11 b_is_beyond
theorem eq_is_beyond (a0 a1 a2 a3 a4 : T) : dn_is_beyond [a0, a1, a2, a3, a4] = fin (b_is_beyond [some (a0, false), some (a1, false), some (a2, false), some (a3, false), some (a4, false), none, none, none, none, none, none]) := rfl
def b_stretch_beyond_p1 : Lo → Fl := (sWe [5] (sIf (dTest (dCall dn_is_beyond (dCons (dVar 0) (dCons (dVar 1) (dCons (dVar 2) (dCons (dVar 4) (dCons (dVar 5) dNil)))))))
 (sRet (dTup (dCons (dVar 4) (dCons (dVar 5) dNil))))
 sNx))
def b_stretch_beyond_p2 : Lo → Fl := (sWe [4, 5] (sWp [5] (sFor (dRng2 (dCons (dVar 4) (dCons (dVar 3) dNil))) (gNm 5) b_stretch_beyond_p1)))
def b_stretch_beyond : Lo → Fl := (sSeq (sSet 2 (dCall dn_reaches_of (dCons (dVar 0) dNil)))
 (sSeq (sSet 3 (dBlt lenL (dCons (d2 ixT (dVar 0) (dC (.int 0))) dNil)))
 (sSeq (sWp [4, 5] (sFor (dRng1 (dVar 3)) (gNm 4) b_stretch_beyond_p2))
 (sRet (dC .non)))))
def dn_stretch_beyond : List T → R T := dFn 6 b_stretch_beyond
theorem eq_stretch_beyond (a0 a1 : T) : dn_stretch_beyond [a0, a1] = fin (b_stretch_beyond [some (a0, false), some (a1, false), none, none, none, none]) := rfl
def b_too_much : Lo → Fl := (sSeq (sEx (dCall dn_look_at_bakery (dCons (dVar 0) dNil)))
 (sSeq (sEx (dCall dn_look_at_days (dCons (dVar 0) (dCons (dVar 1) dNil))))
 (sRet (dCall dn_stretch_beyond (dCons (dVar 0) (dCons (dVar 1) dNil))))))
def dn_too_much : List T → R T := dFn 2 b_too_much
theorem eq_too_much (a0 a1 : T) : dn_too_much [a0, a1] = fin (b_too_much [some (a0, false), some (a1, false)]) := rfl
def b_is_stretch_beyond : Lo → Fl := (sSeq (sIf (dOr (dNot (dTest (dBlt (isiL "tuple") (dCons (dVar 2) dNil)))) (dTest (d2 neT (dBlt lenL (dCons (dVar 2) dNil)) (dC (.int 2)))))
 (sRet (dC (.bl false)))
 sNx)
 (sSeq (sIf (dOr (dNot (dTest (dBlt allL (dCons (dComp [3] (dIter (dVar 2)) (gNm 3) dYes (dCall dn_is_within (dCons (dVar 3) (dCons (dC (.int 0)) (dCons (d2 subT (dBlt lenL (dCons (d2 ixT (dVar 0) (dC (.int 0))) dNil)) (dC (.int 1))) dNil))))) dNil)))) (dTest (d2 gtT (d2 ixT (dVar 2) (dC (.int 0))) (d2 ixT (dVar 2) (dC (.int 1))))))
 (sRet (dC (.bl false)))
 sNx)
 (sRet (dCall dn_is_beyond (dCons (dVar 0) (dCons (dVar 1) (dCons (dCall dn_reaches_of (dCons (dVar 0) dNil)) (dCons (d2 ixT (dVar 2) (dC (.int 0))) (dCons (d2 ixT (dVar 2) (dC (.int 1))) dNil)))))))))
def dn_is_stretch_beyond : List T → R T := dFn 4 b_is_stretch_beyond
theorem eq_is_stretch_beyond (a0 a1 a2 : T) : dn_is_stretch_beyond [a0, a1, a2] = fin (b_is_stretch_beyond [some (a0, false), some (a1, false), some (a2, false), none]) := rfl
def b_wants_too_much : Lo → Fl := (sSeq (sEx (dCall dn_look_at_bakery (dCons (dVar 0) dNil)))
 (sSeq (sEx (dCall dn_look_at_days (dCons (dVar 0) (dCons (dVar 1) dNil))))
 (sRet (dCall dn_is_stretch_beyond (dCons (dVar 0) (dCons (dVar 1) (dCons (dVar 2) dNil)))))))
def dn_wants_too_much : List T → R T := dFn 3 b_wants_too_much
theorem eq_wants_too_much (a0 a1 a2 : T) : dn_wants_too_much [a0, a1, a2] = fin (b_wants_too_much [some (a0, false), some (a1, false), some (a2, false)]) := rfl
def b__law_dark : Lo → Fl := (sRet (dComp [2] (dRng1 (dVar 1)) (gNm 2) (dTest (d2 eqT (d2 bandT (d2 shrT (dVar 0) (dVar 2)) (dC (.int 1))) (dC (.int 1)))) (dVar 2)))
def dn__law_dark : List T → R T := dFn 3 b__law_dark
theorem eq__law_dark (a0 a1 : T) : dn__law_dark [a0, a1] = fin (b__law_dark [some (a0, false), some (a1, false), none]) := rfl
def b__law_reach : Lo → Fl := (sSeq (sFz 2 (sSetF 2 (dComp [3] (dRng1 (dBlt lenL (dCons (d2 ixT (dVar 0) (dC (.int 0))) dNil))) (gNm 3) (dTest (d1 notNonT (dCall dn__law_price (dCons (dVar 0) (dCons (dVar 3) (dCons (dVar 1) dNil)))))) (dVar 3))))
 (sRet (dTup (dCons (d2 ixT (dVar 2) (dC (.int 0))) (dCons (d2 ixT (dVar 2) (d1 negT (dC (.int 1)))) dNil)))))
def dn__law_reach : List T → R T := dFn 4 b__law_reach
theorem eq__law_reach (a0 a1 : T) : dn__law_reach [a0, a1] = fin (b__law_reach [some (a0, false), some (a1, false), none, none]) := rfl
end Pg

set_option maxHeartbeats 4000000
namespace K44
open PySem PySem.Spec PyProof.Rows L2 DL Pg

def b__law_named_8 : Lo → Fl := (sSeq (sSet 1 (dList (dCons (dBlt (isiX ["BakeError", "NoBakery", "TooMuch", "NoDay", "NoDays"] "NoBakery") (dCons (dVar 0) dNil)) (dCons (dBlt (isiX ["BakeError", "NoBakery", "TooMuch", "NoDay", "NoDays"] "NoDays") (dCons (dVar 0) dNil)) (dCons (dBlt (isiX ["BakeError", "NoBakery", "TooMuch", "NoDay", "NoDays"] "NoDay") (dCons (dVar 0) dNil)) dNil)))))
 (sSeq (sSet 1 (d2 addT (dVar 1) (dList (dCons (dBlt (isiX ["BakeError", "NoBakery", "TooMuch", "NoDay", "NoDays"] "TooMuch") (dCons (dVar 0) dNil)) (dCons (dNotV (dBlt (isiX ["BakeError", "NoBakery", "TooMuch", "NoDay", "NoDays"] "ValueError") (dCons (dVar 0) dNil))) dNil)))))
 (sSeq (sSet 2 (dList (dCons (dC (.str "bakery")) (dCons (dC (.str "days")) (dCons (dC (.str "day")) (dCons (dC (.str "much")) (dCons (dC (.str "no base")) dNil)))))))
 (sRet (dJoin (dC (.str "+")) (dComp [3, 4] (dZip (dCons (dVar 2) (dCons (dVar 1) dNil))) (gTp 2 (gCons (gNm 3) (gCons (gNm 4) gNil))) (dTest (dVar 4)) (dVar 3)))))))
def dn__law_named_8 : List T → R T := dFn 5 b__law_named_8
theorem eq__law_named_8 (a0 : T) : dn__law_named_8 [a0] = fin (b__law_named_8 [some (a0, false), none, none, none, none]) := rfl
def b__law_told_22 : Lo → Fl := (sSeq (sSet 4 (dC .non))
 (sSeq (sSet 5 (dC .non))
 (sSeq (sTryA ["BakeError", "NoBakery", "TooMuch", "NoDay", "NoDays"] "BakeError" 6
 (sIf (dTest (d2 eqT (dVar 0) (dC (.int 0))))
 (sSet 5 (dCall dn_too_much (dCons (dVar 1) (dCons (dVar 2) dNil))))
 (sSet 5 (dCall dn_wants_too_much (dCons (dVar 1) (dCons (dVar 2) (dCons (dVar 3) dNil))))))
 (sSet 4 (dVar 6)))
 (sSeq (sIf (dTest (d1 notNonT (dVar 4)))
 (sRet (dCall dn__law_named_8 (dCons (dVar 4) dNil)))
 sNx)
 (sSeq (sIf (dAnd (dTest (d2 eqT (dVar 0) (dC (.int 1)))) (dNot (dTest (dBlt (isiL "bool") (dCons (dVar 5) dNil)))))
 (sRet (dC (.str "no truth")))
 sNx)
 (sRet (dC (.str "told"))))))))
def dn__law_told_22 : List T → R T := dFn 7 b__law_told_22
theorem eq__law_told_22 (a0 a1 a2 a3 : T) : dn__law_told_22 [a0, a1, a2, a3] = fin (b__law_told_22 [some (a0, false), some (a1, false), some (a2, false), some (a3, false), none, none, none]) := rfl
def b__law_are_days : Lo → Fl := (sSeq (sIf (dOr (dNot (dTest (dBlt (isiL "list") (dCons (dVar 0) dNil)))) (dTest (d2 (nilG not) (dComp [3] (dIter (dVar 0)) (gNm 3) (dNot (dTest (dCall dn__law_number (dCons (dVar 3) (dCons (d2 subT (dVar 1) (dC (.int 1))) dNil))))) (dVar 3)) (dList dNil))))
 (sRet (dC (.bl false)))
 sNx)
 (sRet (d2 (nilG id) (dComp [2] (dRng2 (dCons (dC (.int 1)) (dCons (dBlt lenL (dCons (dVar 0) dNil)) dNil))) (gNm 2) (dTest (d2 geX (d2 ixT (dVar 0) (d2 subT (dVar 2) (dC (.int 1)))) (d2 ixT (dVar 0) (dVar 2)))) (dVar 2)) (dList dNil))))
def dn__law_are_days : List T → R T := dFn 4 b__law_are_days
theorem eq__law_are_days (a0 a1 : T) : dn__law_are_days [a0, a1] = fin (b__law_are_days [some (a0, false), some (a1, false), none, none]) := rfl
def b__law_is_stretch : Lo → Fl := (sSeq (sIf (dOr (dNot (dTest (dBlt (isiL "tuple") (dCons (dVar 0) dNil)))) (dTest (d2 neT (dBlt lenL (dCons (dVar 0) dNil)) (dC (.int 2)))))
 (sRet (dC (.bl false)))
 sNx)
 (sRet (dAndV (dCall dn__law_number (dCons (d2 ixT (dVar 0) (dC (.int 0))) (dCons (d2 subT (dVar 1) (dC (.int 1))) dNil))) (dAndV (dCall dn__law_number (dCons (d2 ixT (dVar 0) (dC (.int 1))) (dCons (d2 subT (dVar 1) (dC (.int 1))) dNil))) (d2 leT (d2 ixT (dVar 0) (dC (.int 0))) (d2 ixT (dVar 0) (dC (.int 1))))))))
def dn__law_is_stretch : List T → R T := dFn 2 b__law_is_stretch
theorem eq__law_is_stretch (a0 a1 : T) : dn__law_is_stretch [a0, a1] = fin (b__law_is_stretch [some (a0, false), some (a1, false)]) := rfl
def b__law_days_bent : Lo → Fl := (sSeq (sSet 3 (d2 modT (d2 ixT (dVar 1) (dC (.int 1))) (d2 addT (dBlt lenL (dCons (dVar 0) dNil)) (dC (.int 1)))))
 (sSeq (sSet 4 (d2 ixT (dList (dCons (dCall dn__law_odd (dCons (d2 ixT (dVar 1) (dC (.int 2))) dNil)) (dCons (dVar 2) (dCons (d1 negT (dC (.int 1))) (dCons (d2 modT (d2 ixT (dVar 1) (dC (.int 3))) (dVar 2)) dNil))))) (d2 ixT (dVar 1) (dC (.int 4)))))
 (sSeq (sSet 5 (dList (dCons (d2 addT (d2 addT (dSlice (dVar 0) dPn (dPs (dVar 3))) (dList (dCons (dVar 4) dNil))) (dSlice (dVar 0) (dPs (dVar 3)) dPn)) (dCons (dBlt tupleL (dCons (dVar 0) dNil)) (dCons (d1 revT (dVar 0)) (dCons (d2 addT (dVar 0) (dVar 0)) (dCons (dC .non) (dCons (dC (.dic [])) (dCons (dVar 4) (dCons (dList (dCons (dVar 0) dNil)) dNil))))))))))
 (sRet (d2 ixT (dVar 5) (d2 ixT (dVar 1) (dC (.int 17))))))))
def dn__law_days_bent : List T → R T := dFn 6 b__law_days_bent
theorem eq__law_days_bent (a0 a1 a2 : T) : dn__law_days_bent [a0, a1, a2] = fin (b__law_days_bent [some (a0, false), some (a1, false), some (a2, false), none, none, none]) := rfl
def b_law_k44_p1 : Lo → Fl := (sWe [15] (sIf (dTest (d2 neT (dCall dn__law_told_22 (dCons (dVar 15) (dCons (dVar 12) (dCons (dVar 11) (dCons (dVar 10) dNil))))) (dVar 14)))
 (sRet (dC (.bl false)))
 sNx))
def b_law_k44_p2 : Lo → Fl := (sWe [3, 4, 5, 6, 7, 8, 9, 10, 11, 12, 13, 14, 15] (sSeq (sSet 5 (dCall dn__law_numbers (dCons (dVar 4) (dCons (d2 addT (dC (.int 4420)) (dVar 3)) (dCons (dList (dCons (dC (.int 64)) (dCons (dC (.int 7)) (dCons (dC (.int 18)) (dCons (dC (.int 6)) (dCons (dC (.int 4)) (dCons (dC (.int 8)) (dCons (dC (.int 3)) (dCons (dC (.int 3)) (dCons (dC (.int 6)) (dCons (dC (.int 6)) (dCons (dC (.int 9)) (dCons (dC (.int 2)) (dCons (dC (.int 8)) (dCons (dC (.int 18)) (dCons (dC (.int 4)) (dCons (dC (.int 40)) (dCons (dC (.int 8)) (dCons (dC (.int 8)) dNil))))))))))))))))))) dNil)))))
 (sSeq (sSet 6 (dCall dn__law_dark (dCons (d2 ixT (dVar 5) (dC (.int 0))) (dCons (dVar 2) dNil))))
 (sSeq (sSet 7 (dTup (dCons (d2 modT (d2 ixT (dVar 5) (dC (.int 8))) (dVar 2)) (dCons (d2 modT (d2 ixT (dVar 5) (dC (.int 9))) (dVar 2)) dNil))))
 (sSeq (sSet 8 (dCall dn__law_odd (dCons (d2 ixT (dVar 5) (dC (.int 2))) dNil)))
 (sSeq (sSet 9 (dList (dCons (dVar 7) (dCons (dTup (dCons (d2 ixT (dVar 7) (dC (.int 0))) (dCons (dVar 8) dNil))) (dCons (dTup (dCons (dVar 8) (dCons (d2 ixT (dVar 7) (dC (.int 1))) dNil))) (dCons (dBlt listL (dCons (dVar 7) dNil)) (dCons (d2 addT (dVar 7) (dTup (dCons (dVar 8) dNil))) (dCons (dVar 8) (dCons (dTup (dCons (d2 subT (dVar 2) (dC (.int 1))) (dCons (dVar 2) dNil))) (dCons (dSlice (dVar 7) dPn (dPs (dC (.int 1)))) dNil))))))))))
 (sSeq (sSet 10 (d2 ixT (dVar 9) (d2 ixT (dVar 5) (dC (.int 5)))))
 (sSeq (sSet 11 (d2 ixT (dList (dCons (dVar 6) (dCons (dVar 6) (dCons (dCall dn__law_days_bent (dCons (dVar 6) (dCons (dVar 5) (dCons (dVar 2) dNil)))) dNil)))) (d2 ixT (dVar 5) (dC (.int 6)))))
 (sSeq (sSet 12 (d2 ixT (dList (dCons (dVar 1) (dCons (dVar 1) (dCons (dCall dn__law_spoilt (dCons (dVar 1) (dCons (dSlice (dVar 5) (dPs (dC (.int 10))) dPn) dNil))) dNil)))) (d2 ixT (dVar 5) (dC (.int 7)))))
 (sSeq (sSet 13 (dBlt reprL (dCons (dList (dCons (dVar 12) (dCons (dVar 11) (dCons (dVar 10) dNil)))) dNil)))
 (sSeq (sSet 14 (dC (.str "told")))
 (sSeq (sIf (dTest (d1 notNonT (dCall dn__law_wrong (dCons (dVar 12) dNil))))
 (sSet 14 (dC (.str "bakery")))
 (sIf (dNot (dTest (dCall dn__law_are_days (dCons (dVar 11) (dCons (dBlt lenL (dCons (d2 ixT (dVar 12) (dC (.int 0))) dNil)) dNil)))))
 (sSet 14 (dC (.str "days")))
 sNx))
 (sSeq (sWp [15] (sFor (dRng1 (dC (.int 2))) (gNm 15) b_law_k44_p1))
 (sSeq (sIf (dAnd (dTest (d2 eqT (dVar 14) (dC (.str "told")))) (dNot (dTest (dCall dn__law_is_stretch (dCons (dVar 10) (dCons (dBlt lenL (dCons (d2 ixT (dVar 12) (dC (.int 0))) dNil)) dNil))))))
 (sIf (dTest (d2 (isBT not) (dCall dn_wants_too_much (dCons (dVar 12) (dCons (dVar 11) (dCons (dVar 10) dNil)))) (dC (.bl false))))
 (sRet (dC (.bl false)))
 sNx)
 sNx)
 (sIf (dTest (d2 neT (dBlt reprL (dCons (dList (dCons (dVar 12) (dCons (dVar 11) (dCons (dVar 10) dNil)))) dNil)) (dVar 13)))
 (sRet (dC (.bl false)))
 sNx)))))))))))))))
def b_law_k44 : Lo → Fl := (sSeq (sSet 1 (dCall dn__law_two (dCons (dVar 0) (dCons (dC (.int 7)) (dCons (dC (.int 4400)) dNil)))))
 (sSeq (sSet 2 (dBlt lenL (dCons (d2 ixT (dVar 1) (dC (.int 0))) dNil)))
 (sSeq (sWp [3, 4, 5, 6, 7, 8, 9, 10, 11, 12, 13, 14, 15] (sFor (dEnum (d2 addT (dList (dCons (dC (.int 3)) dNil)) (dSlice (dVar 0) (dPs (dC (.int 7))) (dPs (dC (.int 19)))))) (gTp 2 (gCons (gNm 3) (gCons (gNm 4) gNil))) b_law_k44_p2))
 (sRet (dC (.bl true))))))
def dn_law_k44 : List T → R T := dFn 16 b_law_k44
theorem eq_law_k44 (a0 : T) : dn_law_k44 [a0] = fin (b_law_k44 [some (a0, false), none, none, none, none, none, none, none, none, none, none, none, none, none, none, none]) := rfl
end K44

set_option maxHeartbeats 1000000
/-! how the functions of trees are reckoned by simp -/
namespace DL
open PySem PySem.Spec PyProof.Rows L2

def vr : Option (Option (T × Bool)) → R T
  | some (some (t, false)) => .ok t
  | _ => .bad
def vw : Option (Option (T × Bool)) → R T
  | some (some (t, _)) => .ok t
  | _ => .bad
def ap1 (f : T → Option T) : R T → R T
  | .ok t => ofO (f t)
  | .ex c fs => .ex c fs
  | .bad => .bad
def ap2 (f : T → T → Option T) : R T → R T → R T
  | .ok t, .ok u => ofO (f t u)
  | .ok _, .ex c fs => .ex c fs
  | .ok _, .bad => .bad
  | .ex c fs, _ => .ex c fs
  | .bad, _ => .bad
def apT : R T → R Bool
  | .ok (.bl b) => .ok b
  | .ok _ => .bad
  | .ex c fs => .ex c fs
  | .bad => .bad
def apN : R Bool → R Bool
  | .ok b => .ok (!b)
  | .ex c fs => .ex c fs
  | .bad => .bad
def apAnd (r : R Bool) (b : Lo → R Bool) (ev : Lo) : R Bool := match r with
  | .ok true => b ev
  | .ok false => .ok false
  | .ex c fs => .ex c fs
  | .bad => .bad
def apOr (r : R Bool) (b : Lo → R Bool) (ev : Lo) : R Bool := match r with
  | .ok false => b ev
  | .ok true => .ok true
  | .ex c fs => .ex c fs
  | .bad => .bad
def apIf (r : R Bool) (a b : Lo → R T) (ev : Lo) : R T := match r with
  | .ok true => a ev
  | .ok false => b ev
  | .ex c fs => .ex c fs
  | .bad => .bad
def apAndV (r : R T) (b : Lo → R T) (ev : Lo) : R T := match r with
  | .ok (.bl true) => b ev
  | .ok (.bl false) => .ok (.bl false)
  | .ok _ => .bad
  | .ex c fs => .ex c fs
  | .bad => .bad
def apOrV (r : R T) (b : Lo → R T) (ev : Lo) : R T := match r with
  | .ok (.bl true) => .ok (.bl true)
  | .ok (.bl false) => b ev
  | .ok _ => .bad
  | .ex c fs => .ex c fs
  | .bad => .bad
def notT : T → Option T
  | .bl b => some (.bl (!b))
  | _ => none
def apC : R T → R (List T) → R (List T)
  | .ok t, .ok ts => .ok (t :: ts)
  | .ok _, .ex c fs => .ex c fs
  | .ok _, .bad => .bad
  | .ex c fs, _ => .ex c fs
  | .bad, _ => .bad
def apL (k : List T → T) : R (List T) → R T
  | .ok ts => if ts.length ≤ sizeLine then .ok (k ts) else .bad
  | .ex c fs => .ex c fs
  | .bad => .bad
def apB (f : List T → Option T) : R (List T) → R T
  | .ok ts => ofO (f ts)
  | .ex c fs => .ex c fs
  | .bad => .bad
def apCall (d : List T → R T) : R (List T) → R T
  | .ok ts => d ts
  | .ex c fs => .ex c fs
  | .bad => .bad
def apP : R T → R (Option Int)
  | .ok (.int i) => .ok (some i)
  | .ok _ => .bad
  | .ex c fs => .ex c fs
  | .bad => .bad
def apS : R T → R (Option Int) → R (Option Int) → R T
  | .ok t, .ok l, .ok h => ofO (sliceT t l h)
  | .ok _, .ok _, .ex c fs => .ex c fs
  | .ok _, .ok _, .bad => .bad
  | .ok _, .ex c fs, _ => .ex c fs
  | .ok _, .bad, _ => .bad
  | .ex c fs, _, _ => .ex c fs
  | .bad, _, _ => .bad
def apCh2 (g : T → T → Option T) (u : T) : Option T → (Lo → R T) → Lo → R T
  | some (.bl true), dc, ev => ap2 g (.ok u) (dc ev)
  | some (.bl false), _, _ => .ok (.bl false)
  | _, _, _ => .bad
def apCh (f g : T → T → Option T) : R T → R T → (Lo → R T) → Lo → R T
  | .ok t, .ok u, dc, ev => apCh2 g u (f t u) dc ev
  | .ok _, .ex c fs, _, _ => .ex c fs
  | .ok _, .bad, _, _ => .bad
  | .ex c fs, _, _, _ => .ex c fs
  | .bad, _, _, _ => .bad
def rngT (n : Nat) : List T := (List.range n).map fun (i : Nat) => T.int (i : Int)
def rngF (a : Int) (n : Nat) : List T := (List.range n).map fun (i : Nat) => T.int (a + (i : Int))
def rngB (a : Int) (n : Nat) : List T := (List.range n).map fun (i : Nat) => T.int (a - (i : Int))
def rng1 : T → Option (List T)
  | .int n => if -(2 ^ 62) ≤ n ∧ n < 2 ^ 62 then some (rngT n.toNat) else none
  | _ => none
def rng2 : List T → Option (List T)
  | [.int a, .int b] => if -(2 ^ 62) ≤ a ∧ a < 2 ^ 62 ∧ -(2 ^ 62) ≤ b ∧ b < 2 ^ 62 then some (rngF a (b - a).toNat) else none
  | _ => none
def rngD : List T → Option (List T)
  | [.int a, .int b, .int c] => if -(2 ^ 62) ≤ a ∧ a < 2 ^ 62 ∧ -(2 ^ 62) ≤ b ∧ b < 2 ^ 62 ∧ c = -1 then some (rngB a (a - b).toNat) else none
  | _ => none
def enumT : T → Option (List T)
  | .lst xs => some (enumL xs)
  | .scr ns => some (enumL (ns.map T.int))
  | _ => none
def zipT : List T → Option (List T)
  | [.lst xs, .lst ys] => some ((xs.zip ys).map fun p => T.tup [p.1, p.2])
  | _ => none
def apI {α : Type} (f : α → Option (List T)) : R α → R (List T)
  | .ok t => ofO (f t)
  | .ex c fs => .ex c fs
  | .bad => .bad
def flSeq : Fl → (Lo → Fl) → Fl
  | .nx e, b => b e
  | r, _ => r
def flIf : R Bool → (Lo → Fl) → (Lo → Fl) → Lo → Fl
  | .ok true, a, _, ev => a ev
  | .ok false, _, b, ev => b ev
  | .ex c fs, _, _, ev => .ex c fs ev
  | .bad, _, _, _ => .bad
def flV (k : T → Lo → Fl) : R T → Lo → Fl
  | .ok t, ev => k t ev
  | .ex c fs, ev => .ex c fs ev
  | .bad, _ => .bad
def kEx : T → Lo → Fl := fun _ ev => .nx ev
def kSet (i : Nat) : T → Lo → Fl := fun t ev => .nx (ev.set i (some (t, false)))
def kSetF (i : Nat) : T → Lo → Fl := fun t ev => .nx (ev.set i (some (t, isMut t)))
def kRet : T → Lo → Fl := fun t _ => .rt t
def kAsg (g : T → Lo → Option Lo) : T → Lo → Fl := fun t ev => match g t ev with
  | some e => .nx e
  | none => .bad
def flAug (i : Nat) (f : T → T → Option T) : Option (Option (T × Bool)) → R T → Lo → Fl
  | some (some (t, false)), .ok u, ev => (match f t u with
    | some w => .nx (ev.set i (some (w, false)))
    | none => .bad)
  | some (some (_, false)), .ex c fs, ev => .ex c fs ev
  | _, _, _ => .bad
def flRetO (f : Bool) : Option (Option (T × Bool)) → Fl
  | some (some (t, true)) => .rt t
  | some (some (t, false)) => if f && isMut t then .bad else .rt t
  | _ => .bad
def flRel (i : Nat) (a : Lo → Fl) : Option (Option (T × Bool)) → Lo → Fl
  | some (some (t, true)), ev => a (ev.set i (some (t, false)))
  | _, ev => a ev
def flApp (i : Nat) : Option (Option (T × Bool)) → R T → Lo → Fl
  | some (some (.lst ts, true)), .ok u, ev => if ts.length < sizeLine then .nx (ev.set i (some (.lst (ts ++ [u]), true))) else .bad
  | some (some (.lst _, true)), .ex c fs, ev => .ex c fs ev
  | _, _, _ => .bad
def flSetIx (i : Nat) : R T → Option (Option (T × Bool)) → R T → Lo → Fl
  | .ok u, some (some (.lst ts, true)), .ok (.int j), ev => (match ixN ts.length j with
      | some n => .nx (ev.set i (some (.lst (ts.set n u), true)))
      | none => .bad)
  | .ok _, some (some (.lst _, true)), .ex c fs, ev => .ex c fs ev
  | .ex c fs, _, _, ev => .ex c fs ev
  | _, _, _, _ => .bad
def flFor (g : T → Lo → Option Lo) (body : Lo → Fl) : R (List T) → Lo → Fl
  | .ok ts, ev => forL g body ts ev
  | .ex c fs, ev => .ex c fs ev
  | .bad, _ => .bad

section
variable {i j n : Nat} {f g : T → T → Option T} {h : T → Option T} {a b c : Lo → R T} {p q : Lo → R Bool} {ev e : Lo} {t u w : T} {ts us : List T} {fs : List (Str × T)} {x : Str} {ds : Lo → R (List T)} {lo hi : Lo → R (Option Int)} {s s' : Lo → Fl} {o : Bool}
@[simp] theorem ap_dVar : dVar i ev = vr ev[i]? := by
  unfold dVar vr; first | rfl | (split <;> split <;> simp_all)
@[simp] theorem ap_dVarW : dVarW i ev = vw ev[i]? := by
  unfold dVarW vw; first | rfl | (split <;> split <;> simp_all)
@[simp] theorem vr_ok : vr (some (some (t, false))) = .ok t := Eq.trans rfl rfl
@[simp] theorem vw_ok : vw (some (some (t, o))) = .ok t := Eq.trans rfl rfl
@[simp] theorem ap_dC : dC t ev = .ok t := Eq.trans rfl rfl
@[simp] theorem ap_d1 : d1 h a ev = ap1 h (a ev) := by unfold d1; cases a ev <;> rfl
@[simp] theorem ap1_ok : ap1 h (.ok t) = ofO (h t) := Eq.trans rfl rfl
@[simp] theorem ap1_ex : ap1 h (.ex x fs) = .ex x fs := Eq.trans rfl rfl
@[simp] theorem ap_d2 : d2 f a b ev = ap2 f (a ev) (b ev) := by unfold d2; cases a ev <;> cases b ev <;> rfl
@[simp] theorem ap2_ok : ap2 f (.ok t) (.ok u) = ofO (f t u) := Eq.trans rfl rfl
@[simp] theorem ap2_ex1 {r : R T} : ap2 f (.ex x fs) r = .ex x fs := Eq.trans rfl rfl
@[simp] theorem ap2_ex2 : ap2 f (.ok t) (.ex x fs) = .ex x fs := Eq.trans rfl rfl
@[simp] theorem ap_dTest : dTest a ev = apT (a ev) := by
  unfold dTest
  cases a ev with
  | ok t => cases t <;> rfl
  | _ => rfl
@[simp] theorem apT_ok : apT (.ok (.bl o)) = .ok o := Eq.trans rfl rfl
@[simp] theorem apT_ex : apT (.ex x fs) = .ex x fs := Eq.trans rfl rfl
@[simp] theorem ap_dNot : dNot p ev = apN (p ev) := by unfold dNot; cases p ev <;> rfl
@[simp] theorem apN_ok : apN (.ok o) = .ok (!o) := Eq.trans rfl rfl
@[simp] theorem apN_ex : apN (.ex x fs) = .ex x fs := Eq.trans rfl rfl
@[simp] theorem ap_dAnd : dAnd p q ev = apAnd (p ev) q ev := by
  unfold dAnd
  cases p ev with
  | ok t => cases t <;> rfl
  | _ => rfl
@[simp] theorem apAnd_t : apAnd (.ok true) q ev = q ev := Eq.trans rfl rfl
@[simp] theorem apAnd_f : apAnd (.ok false) q ev = .ok false := Eq.trans rfl rfl
@[simp] theorem apAnd_ex : apAnd (.ex x fs) q ev = .ex x fs := Eq.trans rfl rfl
@[simp] theorem ap_dOr : dOr p q ev = apOr (p ev) q ev := by
  unfold dOr
  cases p ev with
  | ok t => cases t <;> rfl
  | _ => rfl
@[simp] theorem apOr_t : apOr (.ok true) q ev = .ok true := Eq.trans rfl rfl
@[simp] theorem apOr_f : apOr (.ok false) q ev = q ev := Eq.trans rfl rfl
@[simp] theorem apOr_ex : apOr (.ex x fs) q ev = .ex x fs := Eq.trans rfl rfl
@[simp] theorem ap_dIf : dIf p a b ev = apIf (p ev) a b ev := by
  unfold dIf
  cases p ev with
  | ok t => cases t <;> rfl
  | _ => rfl
@[simp] theorem apIf_t : apIf (.ok true) a b ev = a ev := Eq.trans rfl rfl
@[simp] theorem apIf_f : apIf (.ok false) a b ev = b ev := Eq.trans rfl rfl
@[simp] theorem apIf_ex : apIf (.ex x fs) a b ev = .ex x fs := Eq.trans rfl rfl
@[simp] theorem ap_dAndV : dAndV a b ev = apAndV (a ev) b ev := by
  unfold dAndV
  cases a ev with
  | ok t =>
    cases t with
    | bl o => cases o <;> rfl
    | _ => rfl
  | _ => rfl
@[simp] theorem apAndV_t : apAndV (.ok (.bl true)) b ev = b ev := Eq.trans rfl rfl
@[simp] theorem apAndV_f : apAndV (.ok (.bl false)) b ev = .ok (.bl false) := Eq.trans rfl rfl
@[simp] theorem apAndV_ex : apAndV (.ex x fs) b ev = .ex x fs := Eq.trans rfl rfl
@[simp] theorem ap_dOrV : dOrV a b ev = apOrV (a ev) b ev := by
  unfold dOrV
  cases a ev with
  | ok t =>
    cases t with
    | bl o => cases o <;> rfl
    | _ => rfl
  | _ => rfl
@[simp] theorem apOrV_t : apOrV (.ok (.bl true)) b ev = .ok (.bl true) := Eq.trans rfl rfl
@[simp] theorem apOrV_f : apOrV (.ok (.bl false)) b ev = b ev := Eq.trans rfl rfl
@[simp] theorem apOrV_ex : apOrV (.ex x fs) b ev = .ex x fs := Eq.trans rfl rfl
@[simp] theorem ap_dNotV : dNotV a ev = ap1 notT (a ev) := by
  unfold dNotV d1
  cases a ev with
  | ok t => cases t <;> rfl
  | _ => rfl
@[simp] theorem notT_bl : notT (.bl o) = some (.bl (!o)) := Eq.trans rfl rfl
@[simp] theorem ap_dNil : dNil ev = .ok [] := Eq.trans rfl rfl
@[simp] theorem ap_dCons : dCons a ds ev = apC (a ev) (ds ev) := by unfold dCons; cases a ev <;> cases ds ev <;> rfl
@[simp] theorem apC_ok : apC (.ok t) (.ok ts) = .ok (t :: ts) := Eq.trans rfl rfl
@[simp] theorem apC_ex1 {r : R (List T)} : apC (.ex x fs) r = .ex x fs := Eq.trans rfl rfl
@[simp] theorem apC_ex2 : apC (.ok t) (.ex x fs) = .ex x fs := Eq.trans rfl rfl
@[simp] theorem ap_dList : dList ds ev = apL .lst (ds ev) := by unfold dList; cases ds ev <;> rfl
@[simp] theorem ap_dTup : dTup ds ev = apL .tup (ds ev) := by unfold dTup; cases ds ev <;> rfl
@[simp] theorem apL_ok {k : List T → T} : apL k (.ok ts) = if ts.length ≤ sizeLine then .ok (k ts) else .bad := Eq.trans rfl rfl
@[simp] theorem apL_ex {k : List T → T} : apL k (.ex x fs) = .ex x fs := Eq.trans rfl rfl
@[simp] theorem ap_dBlt {f : List T → Option T} : dBlt f ds ev = apB f (ds ev) := by unfold dBlt; cases ds ev <;> rfl
@[simp] theorem apB_ok {f : List T → Option T} : apB f (.ok ts) = ofO (f ts) := Eq.trans rfl rfl
@[simp] theorem apB_ex {f : List T → Option T} : apB f (.ex x fs) = .ex x fs := Eq.trans rfl rfl
@[simp] theorem ap_dCall {d : List T → R T} : dCall d ds ev = apCall d (ds ev) := by unfold dCall; cases ds ev <;> rfl
@[simp] theorem apCall_ok {d : List T → R T} : apCall d (.ok ts) = d ts := Eq.trans rfl rfl
@[simp] theorem apCall_ex {d : List T → R T} : apCall d (.ex x fs) = .ex x fs := Eq.trans rfl rfl
@[simp] theorem ap_dPn : dPn ev = .ok none := Eq.trans rfl rfl
@[simp] theorem ap_dPs : dPs a ev = apP (a ev) := by
  unfold dPs
  cases a ev with
  | ok t => cases t <;> rfl
  | _ => rfl
@[simp] theorem apP_ok {i : Int} : apP (.ok (.int i)) = .ok (some i) := Eq.trans rfl rfl
@[simp] theorem ap_dSlice : dSlice a lo hi ev = apS (a ev) (lo ev) (hi ev) := by unfold dSlice; cases a ev <;> cases lo ev <;> cases hi ev <;> rfl
@[simp] theorem apS_ok {l h : Option Int} : apS (.ok t) (.ok l) (.ok h) = ofO (sliceT t l h) := Eq.trans rfl rfl
@[simp] theorem ap_dChain : dChain f g a b c ev = apCh f g (a ev) (b ev) c ev := by
  unfold dChain
  cases a ev with
  | ok t =>
    cases b ev with
    | ok u =>
      show ((ofO (f t u)).bind _) = apCh2 g u (f t u) c ev
      cases f t u with
      | none => rfl
      | some z =>
        cases z with
        | bl o =>
          cases o with
          | false => rfl
          | true => show (c ev).bind _ = ap2 g (.ok u) (c ev); cases c ev <;> rfl
        | _ => rfl
    | _ => rfl
  | _ => rfl
@[simp] theorem apCh_ok : apCh f g (.ok t) (.ok u) c ev = apCh2 g u (f t u) c ev := Eq.trans rfl rfl
@[simp] theorem apCh2_t : apCh2 g u (some (.bl true)) c ev = ap2 g (.ok u) (c ev) := Eq.trans rfl rfl
@[simp] theorem apCh2_f : apCh2 g u (some (.bl false)) c ev = .ok (.bl false) := Eq.trans rfl rfl
@[simp] theorem ap_dIter : dIter a ev = apI itemsT (a ev) := by unfold dIter; cases a ev <;> rfl
@[simp] theorem ap_dRng1 : dRng1 a ev = apI rng1 (a ev) := by
  unfold dRng1
  cases a ev with
  | ok t =>
    cases t with
    | int n => unfold apI rng1 rngT; simp only [R.bind]; split <;> rfl
    | _ => rfl
  | _ => rfl
theorem ap_rng2 : ∀ ts : List T, (match ts with
  | [.int a, .int b] => if -(2 ^ 62) ≤ a ∧ a < 2 ^ 62 ∧ -(2 ^ 62) ≤ b ∧ b < 2 ^ 62 then R.ok ((List.range (b - a).toNat).map fun (i : Nat) => T.int (a + (i : Int))) else .bad
  | _ => .bad) = ofO (rng2 ts) := fun ts => by
  unfold rng2 rngF
  split
  · split <;> rfl
  · rfl
@[simp] theorem ap_dRng2 : dRng2 ds ev = apI rng2 (ds ev) := by
  unfold dRng2
  cases ds ev with
  | ok t => exact ap_rng2 t
  | _ => rfl
theorem ap_rngD : ∀ ts : List T, (match ts with
  | [.int a, .int b, .int c] => if -(2 ^ 62) ≤ a ∧ a < 2 ^ 62 ∧ -(2 ^ 62) ≤ b ∧ b < 2 ^ 62 ∧ c = -1 then R.ok ((List.range (a - b).toNat).map fun (i : Nat) => T.int (a - (i : Int))) else .bad
  | _ => .bad) = ofO (rngD ts) := fun ts => by
  unfold rngD rngB
  split
  · split <;> rfl
  · rfl
@[simp] theorem ap_dRngD : dRngD ds ev = apI rngD (ds ev) := by
  unfold dRngD
  cases ds ev with
  | ok t => exact ap_rngD t
  | _ => rfl
@[simp] theorem ap_dEnum : dEnum a ev = apI enumT (a ev) := by
  unfold dEnum
  cases a ev with
  | ok t => cases t <;> rfl
  | _ => rfl
@[simp] theorem ap_dZip : dZip ds ev = apI zipT (ds ev) := by
  unfold dZip
  cases ds ev with
  | ok t =>
    show (match t with
      | [.lst xs, .lst ys] => R.ok ((xs.zip ys).map fun p => T.tup [p.1, p.2])
      | _ => .bad) = ofO (zipT t)
    unfold zipT
    split <;> rfl
  | _ => rfl
@[simp] theorem apI_ok {α : Type} {f : α → Option (List T)} {t : α} : apI f (.ok t) = ofO (f t) := Eq.trans rfl rfl
@[simp] theorem apI_ex {α : Type} {f : α → Option (List T)} : apI f (.ex x fs) = .ex x fs := Eq.trans rfl rfl
/-! statements -/
@[simp] theorem ap_sNx : sNx ev = .nx ev := Eq.trans rfl rfl
@[simp] theorem ap_sBk : sBk ev = .bk ev := Eq.trans rfl rfl
@[simp] theorem ap_sCt : sCt ev = .ct ev := Eq.trans rfl rfl
@[simp] theorem ap_sSeq : sSeq s s' ev = flSeq (s ev) s' := by unfold sSeq flSeq; cases s ev <;> rfl
@[simp] theorem flSeq_nx : flSeq (.nx e) s = s e := Eq.trans rfl rfl
@[simp] theorem flSeq_bk : flSeq (.bk e) s = .bk e := Eq.trans rfl rfl
@[simp] theorem flSeq_ct : flSeq (.ct e) s = .ct e := Eq.trans rfl rfl
@[simp] theorem flSeq_rt : flSeq (.rt t) s = .rt t := Eq.trans rfl rfl
@[simp] theorem flSeq_ex : flSeq (.ex x fs e) s = .ex x fs e := Eq.trans rfl rfl
@[simp] theorem ap_sIf : sIf p s s' ev = flIf (p ev) s s' ev := by
  unfold sIf
  cases p ev with
  | ok t => cases t <;> rfl
  | _ => rfl
@[simp] theorem flIf_t : flIf (.ok true) s s' ev = s ev := Eq.trans rfl rfl
@[simp] theorem flIf_f : flIf (.ok false) s s' ev = s' ev := Eq.trans rfl rfl
@[simp] theorem flIf_ex : flIf (.ex x fs) s s' ev = .ex x fs ev := Eq.trans rfl rfl
@[simp] theorem flV_ok {k : T → Lo → Fl} : flV k (.ok t) ev = k t ev := Eq.trans rfl rfl
@[simp] theorem flV_ex {k : T → Lo → Fl} : flV k (.ex x fs) ev = .ex x fs ev := Eq.trans rfl rfl
@[simp] theorem ap_sEx : sEx a ev = flV kEx (a ev) ev := by unfold sEx; cases a ev <;> rfl
@[simp] theorem ap_sSet : sSet i a ev = flV (kSet i) (a ev) ev := by unfold sSet; cases a ev <;> rfl
@[simp] theorem ap_sSetF : sSetF i a ev = flV (kSetF i) (a ev) ev := by unfold sSetF; cases a ev <;> rfl
@[simp] theorem ap_sRet : sRet a ev = flV kRet (a ev) ev := by unfold sRet; cases a ev <;> rfl
@[simp] theorem ap_sAsg {g : T → Lo → Option Lo} : sAsg g a ev = flV (kAsg g) (a ev) ev := by unfold sAsg; cases a ev <;> rfl
@[simp] theorem kEx_ap : kEx t ev = .nx ev := Eq.trans rfl rfl
@[simp] theorem kSet_ap : kSet i t ev = .nx (ev.set i (some (t, false))) := Eq.trans rfl rfl
@[simp] theorem kSetF_ap : kSetF i t ev = .nx (ev.set i (some (t, isMut t))) := Eq.trans rfl rfl
@[simp] theorem kRet_ap : kRet t ev = .rt t := Eq.trans rfl rfl
@[simp] theorem ap_sAug : sAug i f a ev = flAug i f ev[i]? (a ev) ev := by
  unfold sAug
  generalize ev[i]? = z
  rcases z with _ | _ | ⟨t, _ | _⟩ <;> cases a ev <;> rfl
@[simp] theorem ap_sRetO : sRetO o i ev = flRetO o ev[i]? := by unfold sRetO flRetO; rfl
@[simp] theorem flRetO_own : flRetO o (some (some (t, true))) = .rt t := Eq.trans rfl rfl
@[simp] theorem flRetO_fr : flRetO o (some (some (t, false))) = if o && isMut t then .bad else .rt t := Eq.trans rfl rfl
@[simp] theorem ap_sRetN : sRetN ev = .rt .non := Eq.trans rfl rfl
@[simp] theorem ap_sRel : sRel i s ev = flRel i s ev[i]? ev := by
  unfold sRel
  generalize ev[i]? = z
  rcases z with _ | _ | ⟨t, _ | _⟩ <;> rfl
@[simp] theorem flRel_own : flRel i s (some (some (t, true))) ev = s (ev.set i (some (t, false))) := Eq.trans rfl rfl
@[simp] theorem flRel_fr : flRel i s (some (some (t, false))) ev = s ev := Eq.trans rfl rfl
@[simp] theorem ap_sApp : sApp i a ev = flApp i ev[i]? (a ev) ev := by
  unfold sApp
  generalize ev[i]? = z
  rcases z with _ | _ | ⟨t, _ | _⟩ <;> first | rfl | (cases a ev <;> rfl) | (cases t <;> cases a ev <;> rfl)
@[simp] theorem flApp_ok : flApp i (some (some (.lst ts, true))) (.ok u) ev = if ts.length < sizeLine then .nx (ev.set i (some (.lst (ts ++ [u]), true))) else .bad := Eq.trans rfl rfl
@[simp] theorem flApp_ex : flApp i (some (some (.lst ts, true))) (.ex x fs) ev = .ex x fs ev := Eq.trans rfl rfl
@[simp] theorem ap_sSetIx : sSetIx i b a ev = flSetIx i (a ev) ev[i]? (b ev) ev := by
  unfold sSetIx
  generalize ev[i]? = z
  cases a ev with
  | ok u =>
    show (match z with
      | some (some (.lst ts, true)) => (b ev).fl ev fun k => match k with
        | .int j => match ixN ts.length j with
          | some n => Fl.nx (ev.set i (some (.lst (ts.set n u), true)))
          | none => .bad
        | _ => .bad
      | _ => .bad) = _
    match z, b ev with
    | none, _ => rfl
    | some none, _ => rfl
    | some (some (t, false)), r => cases t <;> cases r <;> rfl
    | some (some (.lst ts, true)), .ok k => cases k <;> rfl
    | some (some (.lst ts, true)), .ex c fs => rfl
    | some (some (.lst ts, true)), .bad => rfl
    | some (some (.non, true)), r => cases r <;> rfl
    | some (some (.bl _, true)), r => cases r <;> rfl
    | some (some (.int _, true)), r => cases r <;> rfl
    | some (some (.str _, true)), r => cases r <;> rfl
    | some (some (.tup _, true)), r => cases r <;> rfl
    | some (some (.dic _, true)), r => cases r <;> rfl
    | some (some (.dit _, true)), r => cases r <;> rfl
    | some (some (.exc _ _, true)), r => cases r <;> rfl
    | some (some (.scr _, true)), r => cases r <;> rfl
    | some (some (.ob _, true)), r => cases r <;> rfl
  | ex c fs => rfl
  | bad => rfl
@[simp] theorem ap_sFor {g : T → Lo → Option Lo} {di : Lo → R (List T)} : sFor di g s ev = flFor g s (di ev) ev := by unfold sFor; cases di ev <;> rfl
@[simp] theorem flFor_ok {g : T → Lo → Option Lo} : flFor g s (.ok ts) ev = forL g s ts ev := Eq.trans rfl rfl
@[simp] theorem flFor_ex {g : T → Lo → Option Lo} : flFor g s (.ex x fs) ev = .ex x fs ev := Eq.trans rfl rfl
@[simp] theorem gNm_ap : gNm i t ev = some (ev.set i (some (t, false))) := Eq.trans rfl rfl
@[simp] theorem gTp_ap {gs : List T → Lo → Option Lo} : gTp n gs (.tup ts) ev = if ts.length = n then gs ts ev else none := Eq.trans rfl rfl
@[simp] theorem gTp_ap2 {gs : List T → Lo → Option Lo} : gTp n gs (.lst ts) ev = if ts.length = n then gs ts ev else none := Eq.trans rfl rfl
@[simp] theorem gCons_ap {g : T → Lo → Option Lo} {gs : List T → Lo → Option Lo} : gCons g gs (t :: ts) ev = (g t ev).bind (gs ts) := Eq.trans rfl rfl
@[simp] theorem gNil_ap : gNil [] ev = some ev := Eq.trans rfl rfl
@[simp] theorem fin_nx : fin (.nx ev) = .ok .non := Eq.trans rfl rfl
@[simp] theorem fin_rt : fin (.rt t) = .ok t := Eq.trans rfl rfl
@[simp] theorem fin_ex : fin (.ex x fs ev) = .ex x fs := Eq.trans rfl rfl
end
/-! places of slots -/
section
variable {α : Type} {l : List α} {y a0 a1 a2 a3 a4 a5 a6 a7 a8 a9 a10 a11 a12 a13 a14 a15 a16 a17 a18 a19 a20 a21 a22 a23 a24 a25 a26 a27 a28 a29 a30 a31 a32 a33 a34 a35 a36 a37 a38 a39 : α}
@[simp high] theorem ix0 : (a0 :: l)[0]? = some a0 := Eq.trans rfl rfl
@[simp high] theorem st0 : (a0 :: l).set 0 y = y :: l := Eq.trans rfl rfl
@[simp high] theorem ix1 : (a0 :: a1 :: l)[1]? = some a1 := Eq.trans rfl rfl
@[simp high] theorem st1 : (a0 :: a1 :: l).set 1 y = a0 :: y :: l := Eq.trans rfl rfl
@[simp high] theorem ix2 : (a0 :: a1 :: a2 :: l)[2]? = some a2 := Eq.trans rfl rfl
@[simp high] theorem st2 : (a0 :: a1 :: a2 :: l).set 2 y = a0 :: a1 :: y :: l := Eq.trans rfl rfl
@[simp high] theorem ix3 : (a0 :: a1 :: a2 :: a3 :: l)[3]? = some a3 := Eq.trans rfl rfl
@[simp high] theorem st3 : (a0 :: a1 :: a2 :: a3 :: l).set 3 y = a0 :: a1 :: a2 :: y :: l := Eq.trans rfl rfl
@[simp high] theorem ix4 : (a0 :: a1 :: a2 :: a3 :: a4 :: l)[4]? = some a4 := Eq.trans rfl rfl
@[simp high] theorem st4 : (a0 :: a1 :: a2 :: a3 :: a4 :: l).set 4 y = a0 :: a1 :: a2 :: a3 :: y :: l := Eq.trans rfl rfl
@[simp high] theorem ix5 : (a0 :: a1 :: a2 :: a3 :: a4 :: a5 :: l)[5]? = some a5 := Eq.trans rfl rfl
@[simp high] theorem st5 : (a0 :: a1 :: a2 :: a3 :: a4 :: a5 :: l).set 5 y = a0 :: a1 :: a2 :: a3 :: a4 :: y :: l := Eq.trans rfl rfl
@[simp high] theorem ix6 : (a0 :: a1 :: a2 :: a3 :: a4 :: a5 :: a6 :: l)[6]? = some a6 := Eq.trans rfl rfl
@[simp high] theorem st6 : (a0 :: a1 :: a2 :: a3 :: a4 :: a5 :: a6 :: l).set 6 y = a0 :: a1 :: a2 :: a3 :: a4 :: a5 :: y :: l := Eq.trans rfl rfl
@[simp high] theorem ix7 : (a0 :: a1 :: a2 :: a3 :: a4 :: a5 :: a6 :: a7 :: l)[7]? = some a7 := Eq.trans rfl rfl
@[simp high] theorem st7 : (a0 :: a1 :: a2 :: a3 :: a4 :: a5 :: a6 :: a7 :: l).set 7 y = a0 :: a1 :: a2 :: a3 :: a4 :: a5 :: a6 :: y :: l := Eq.trans rfl rfl
@[simp high] theorem ix8 : (a0 :: a1 :: a2 :: a3 :: a4 :: a5 :: a6 :: a7 :: a8 :: l)[8]? = some a8 := Eq.trans rfl rfl
@[simp high] theorem st8 : (a0 :: a1 :: a2 :: a3 :: a4 :: a5 :: a6 :: a7 :: a8 :: l).set 8 y = a0 :: a1 :: a2 :: a3 :: a4 :: a5 :: a6 :: a7 :: y :: l := Eq.trans rfl rfl
@[simp high] theorem ix9 : (a0 :: a1 :: a2 :: a3 :: a4 :: a5 :: a6 :: a7 :: a8 :: a9 :: l)[9]? = some a9 := Eq.trans rfl rfl
@[simp high] theorem st9 : (a0 :: a1 :: a2 :: a3 :: a4 :: a5 :: a6 :: a7 :: a8 :: a9 :: l).set 9 y = a0 :: a1 :: a2 :: a3 :: a4 :: a5 :: a6 :: a7 :: a8 :: y :: l := Eq.trans rfl rfl
@[simp high] theorem ix10 : (a0 :: a1 :: a2 :: a3 :: a4 :: a5 :: a6 :: a7 :: a8 :: a9 :: a10 :: l)[10]? = some a10 := Eq.trans rfl rfl
@[simp high] theorem st10 : (a0 :: a1 :: a2 :: a3 :: a4 :: a5 :: a6 :: a7 :: a8 :: a9 :: a10 :: l).set 10 y = a0 :: a1 :: a2 :: a3 :: a4 :: a5 :: a6 :: a7 :: a8 :: a9 :: y :: l := Eq.trans rfl rfl
@[simp high] theorem ix11 : (a0 :: a1 :: a2 :: a3 :: a4 :: a5 :: a6 :: a7 :: a8 :: a9 :: a10 :: a11 :: l)[11]? = some a11 := Eq.trans rfl rfl
@[simp high] theorem st11 : (a0 :: a1 :: a2 :: a3 :: a4 :: a5 :: a6 :: a7 :: a8 :: a9 :: a10 :: a11 :: l).set 11 y = a0 :: a1 :: a2 :: a3 :: a4 :: a5 :: a6 :: a7 :: a8 :: a9 :: a10 :: y :: l := Eq.trans rfl rfl
@[simp high] theorem ix12 : (a0 :: a1 :: a2 :: a3 :: a4 :: a5 :: a6 :: a7 :: a8 :: a9 :: a10 :: a11 :: a12 :: l)[12]? = some a12 := Eq.trans rfl rfl
@[simp high] theorem st12 : (a0 :: a1 :: a2 :: a3 :: a4 :: a5 :: a6 :: a7 :: a8 :: a9 :: a10 :: a11 :: a12 :: l).set 12 y = a0 :: a1 :: a2 :: a3 :: a4 :: a5 :: a6 :: a7 :: a8 :: a9 :: a10 :: a11 :: y :: l := Eq.trans rfl rfl
@[simp high] theorem ix13 : (a0 :: a1 :: a2 :: a3 :: a4 :: a5 :: a6 :: a7 :: a8 :: a9 :: a10 :: a11 :: a12 :: a13 :: l)[13]? = some a13 := Eq.trans rfl rfl
@[simp high] theorem st13 : (a0 :: a1 :: a2 :: a3 :: a4 :: a5 :: a6 :: a7 :: a8 :: a9 :: a10 :: a11 :: a12 :: a13 :: l).set 13 y = a0 :: a1 :: a2 :: a3 :: a4 :: a5 :: a6 :: a7 :: a8 :: a9 :: a10 :: a11 :: a12 :: y :: l := Eq.trans rfl rfl
@[simp high] theorem ix14 : (a0 :: a1 :: a2 :: a3 :: a4 :: a5 :: a6 :: a7 :: a8 :: a9 :: a10 :: a11 :: a12 :: a13 :: a14 :: l)[14]? = some a14 := Eq.trans rfl rfl
@[simp high] theorem st14 : (a0 :: a1 :: a2 :: a3 :: a4 :: a5 :: a6 :: a7 :: a8 :: a9 :: a10 :: a11 :: a12 :: a13 :: a14 :: l).set 14 y = a0 :: a1 :: a2 :: a3 :: a4 :: a5 :: a6 :: a7 :: a8 :: a9 :: a10 :: a11 :: a12 :: a13 :: y :: l := Eq.trans rfl rfl
@[simp high] theorem ix15 : (a0 :: a1 :: a2 :: a3 :: a4 :: a5 :: a6 :: a7 :: a8 :: a9 :: a10 :: a11 :: a12 :: a13 :: a14 :: a15 :: l)[15]? = some a15 := Eq.trans rfl rfl
@[simp high] theorem st15 : (a0 :: a1 :: a2 :: a3 :: a4 :: a5 :: a6 :: a7 :: a8 :: a9 :: a10 :: a11 :: a12 :: a13 :: a14 :: a15 :: l).set 15 y = a0 :: a1 :: a2 :: a3 :: a4 :: a5 :: a6 :: a7 :: a8 :: a9 :: a10 :: a11 :: a12 :: a13 :: a14 :: y :: l := Eq.trans rfl rfl
@[simp high] theorem ix16 : (a0 :: a1 :: a2 :: a3 :: a4 :: a5 :: a6 :: a7 :: a8 :: a9 :: a10 :: a11 :: a12 :: a13 :: a14 :: a15 :: a16 :: l)[16]? = some a16 := Eq.trans rfl rfl
@[simp high] theorem st16 : (a0 :: a1 :: a2 :: a3 :: a4 :: a5 :: a6 :: a7 :: a8 :: a9 :: a10 :: a11 :: a12 :: a13 :: a14 :: a15 :: a16 :: l).set 16 y = a0 :: a1 :: a2 :: a3 :: a4 :: a5 :: a6 :: a7 :: a8 :: a9 :: a10 :: a11 :: a12 :: a13 :: a14 :: a15 :: y :: l := Eq.trans rfl rfl
@[simp high] theorem ix17 : (a0 :: a1 :: a2 :: a3 :: a4 :: a5 :: a6 :: a7 :: a8 :: a9 :: a10 :: a11 :: a12 :: a13 :: a14 :: a15 :: a16 :: a17 :: l)[17]? = some a17 := Eq.trans rfl rfl
@[simp high] theorem st17 : (a0 :: a1 :: a2 :: a3 :: a4 :: a5 :: a6 :: a7 :: a8 :: a9 :: a10 :: a11 :: a12 :: a13 :: a14 :: a15 :: a16 :: a17 :: l).set 17 y = a0 :: a1 :: a2 :: a3 :: a4 :: a5 :: a6 :: a7 :: a8 :: a9 :: a10 :: a11 :: a12 :: a13 :: a14 :: a15 :: a16 :: y :: l := Eq.trans rfl rfl
@[simp high] theorem ix18 : (a0 :: a1 :: a2 :: a3 :: a4 :: a5 :: a6 :: a7 :: a8 :: a9 :: a10 :: a11 :: a12 :: a13 :: a14 :: a15 :: a16 :: a17 :: a18 :: l)[18]? = some a18 := Eq.trans rfl rfl
@[simp high] theorem st18 : (a0 :: a1 :: a2 :: a3 :: a4 :: a5 :: a6 :: a7 :: a8 :: a9 :: a10 :: a11 :: a12 :: a13 :: a14 :: a15 :: a16 :: a17 :: a18 :: l).set 18 y = a0 :: a1 :: a2 :: a3 :: a4 :: a5 :: a6 :: a7 :: a8 :: a9 :: a10 :: a11 :: a12 :: a13 :: a14 :: a15 :: a16 :: a17 :: y :: l := Eq.trans rfl rfl
@[simp high] theorem ix19 : (a0 :: a1 :: a2 :: a3 :: a4 :: a5 :: a6 :: a7 :: a8 :: a9 :: a10 :: a11 :: a12 :: a13 :: a14 :: a15 :: a16 :: a17 :: a18 :: a19 :: l)[19]? = some a19 := Eq.trans rfl rfl
@[simp high] theorem st19 : (a0 :: a1 :: a2 :: a3 :: a4 :: a5 :: a6 :: a7 :: a8 :: a9 :: a10 :: a11 :: a12 :: a13 :: a14 :: a15 :: a16 :: a17 :: a18 :: a19 :: l).set 19 y = a0 :: a1 :: a2 :: a3 :: a4 :: a5 :: a6 :: a7 :: a8 :: a9 :: a10 :: a11 :: a12 :: a13 :: a14 :: a15 :: a16 :: a17 :: a18 :: y :: l := Eq.trans rfl rfl
@[simp high] theorem ix20 : (a0 :: a1 :: a2 :: a3 :: a4 :: a5 :: a6 :: a7 :: a8 :: a9 :: a10 :: a11 :: a12 :: a13 :: a14 :: a15 :: a16 :: a17 :: a18 :: a19 :: a20 :: l)[20]? = some a20 := Eq.trans rfl rfl
@[simp high] theorem st20 : (a0 :: a1 :: a2 :: a3 :: a4 :: a5 :: a6 :: a7 :: a8 :: a9 :: a10 :: a11 :: a12 :: a13 :: a14 :: a15 :: a16 :: a17 :: a18 :: a19 :: a20 :: l).set 20 y = a0 :: a1 :: a2 :: a3 :: a4 :: a5 :: a6 :: a7 :: a8 :: a9 :: a10 :: a11 :: a12 :: a13 :: a14 :: a15 :: a16 :: a17 :: a18 :: a19 :: y :: l := Eq.trans rfl rfl
@[simp high] theorem ix21 : (a0 :: a1 :: a2 :: a3 :: a4 :: a5 :: a6 :: a7 :: a8 :: a9 :: a10 :: a11 :: a12 :: a13 :: a14 :: a15 :: a16 :: a17 :: a18 :: a19 :: a20 :: a21 :: l)[21]? = some a21 := Eq.trans rfl rfl
@[simp high] theorem st21 : (a0 :: a1 :: a2 :: a3 :: a4 :: a5 :: a6 :: a7 :: a8 :: a9 :: a10 :: a11 :: a12 :: a13 :: a14 :: a15 :: a16 :: a17 :: a18 :: a19 :: a20 :: a21 :: l).set 21 y = a0 :: a1 :: a2 :: a3 :: a4 :: a5 :: a6 :: a7 :: a8 :: a9 :: a10 :: a11 :: a12 :: a13 :: a14 :: a15 :: a16 :: a17 :: a18 :: a19 :: a20 :: y :: l := Eq.trans rfl rfl
@[simp high] theorem ix22 : (a0 :: a1 :: a2 :: a3 :: a4 :: a5 :: a6 :: a7 :: a8 :: a9 :: a10 :: a11 :: a12 :: a13 :: a14 :: a15 :: a16 :: a17 :: a18 :: a19 :: a20 :: a21 :: a22 :: l)[22]? = some a22 := Eq.trans rfl rfl
@[simp high] theorem st22 : (a0 :: a1 :: a2 :: a3 :: a4 :: a5 :: a6 :: a7 :: a8 :: a9 :: a10 :: a11 :: a12 :: a13 :: a14 :: a15 :: a16 :: a17 :: a18 :: a19 :: a20 :: a21 :: a22 :: l).set 22 y = a0 :: a1 :: a2 :: a3 :: a4 :: a5 :: a6 :: a7 :: a8 :: a9 :: a10 :: a11 :: a12 :: a13 :: a14 :: a15 :: a16 :: a17 :: a18 :: a19 :: a20 :: a21 :: y :: l := Eq.trans rfl rfl
@[simp high] theorem ix23 : (a0 :: a1 :: a2 :: a3 :: a4 :: a5 :: a6 :: a7 :: a8 :: a9 :: a10 :: a11 :: a12 :: a13 :: a14 :: a15 :: a16 :: a17 :: a18 :: a19 :: a20 :: a21 :: a22 :: a23 :: l)[23]? = some a23 := Eq.trans rfl rfl
@[simp high] theorem st23 : (a0 :: a1 :: a2 :: a3 :: a4 :: a5 :: a6 :: a7 :: a8 :: a9 :: a10 :: a11 :: a12 :: a13 :: a14 :: a15 :: a16 :: a17 :: a18 :: a19 :: a20 :: a21 :: a22 :: a23 :: l).set 23 y = a0 :: a1 :: a2 :: a3 :: a4 :: a5 :: a6 :: a7 :: a8 :: a9 :: a10 :: a11 :: a12 :: a13 :: a14 :: a15 :: a16 :: a17 :: a18 :: a19 :: a20 :: a21 :: a22 :: y :: l := Eq.trans rfl rfl
@[simp high] theorem ix24 : (a0 :: a1 :: a2 :: a3 :: a4 :: a5 :: a6 :: a7 :: a8 :: a9 :: a10 :: a11 :: a12 :: a13 :: a14 :: a15 :: a16 :: a17 :: a18 :: a19 :: a20 :: a21 :: a22 :: a23 :: a24 :: l)[24]? = some a24 := Eq.trans rfl rfl
@[simp high] theorem st24 : (a0 :: a1 :: a2 :: a3 :: a4 :: a5 :: a6 :: a7 :: a8 :: a9 :: a10 :: a11 :: a12 :: a13 :: a14 :: a15 :: a16 :: a17 :: a18 :: a19 :: a20 :: a21 :: a22 :: a23 :: a24 :: l).set 24 y = a0 :: a1 :: a2 :: a3 :: a4 :: a5 :: a6 :: a7 :: a8 :: a9 :: a10 :: a11 :: a12 :: a13 :: a14 :: a15 :: a16 :: a17 :: a18 :: a19 :: a20 :: a21 :: a22 :: a23 :: y :: l := Eq.trans rfl rfl
@[simp high] theorem ix25 : (a0 :: a1 :: a2 :: a3 :: a4 :: a5 :: a6 :: a7 :: a8 :: a9 :: a10 :: a11 :: a12 :: a13 :: a14 :: a15 :: a16 :: a17 :: a18 :: a19 :: a20 :: a21 :: a22 :: a23 :: a24 :: a25 :: l)[25]? = some a25 := Eq.trans rfl rfl
@[simp high] theorem st25 : (a0 :: a1 :: a2 :: a3 :: a4 :: a5 :: a6 :: a7 :: a8 :: a9 :: a10 :: a11 :: a12 :: a13 :: a14 :: a15 :: a16 :: a17 :: a18 :: a19 :: a20 :: a21 :: a22 :: a23 :: a24 :: a25 :: l).set 25 y = a0 :: a1 :: a2 :: a3 :: a4 :: a5 :: a6 :: a7 :: a8 :: a9 :: a10 :: a11 :: a12 :: a13 :: a14 :: a15 :: a16 :: a17 :: a18 :: a19 :: a20 :: a21 :: a22 :: a23 :: a24 :: y :: l := Eq.trans rfl rfl
@[simp high] theorem ix26 : (a0 :: a1 :: a2 :: a3 :: a4 :: a5 :: a6 :: a7 :: a8 :: a9 :: a10 :: a11 :: a12 :: a13 :: a14 :: a15 :: a16 :: a17 :: a18 :: a19 :: a20 :: a21 :: a22 :: a23 :: a24 :: a25 :: a26 :: l)[26]? = some a26 := Eq.trans rfl rfl
@[simp high] theorem st26 : (a0 :: a1 :: a2 :: a3 :: a4 :: a5 :: a6 :: a7 :: a8 :: a9 :: a10 :: a11 :: a12 :: a13 :: a14 :: a15 :: a16 :: a17 :: a18 :: a19 :: a20 :: a21 :: a22 :: a23 :: a24 :: a25 :: a26 :: l).set 26 y = a0 :: a1 :: a2 :: a3 :: a4 :: a5 :: a6 :: a7 :: a8 :: a9 :: a10 :: a11 :: a12 :: a13 :: a14 :: a15 :: a16 :: a17 :: a18 :: a19 :: a20 :: a21 :: a22 :: a23 :: a24 :: a25 :: y :: l := Eq.trans rfl rfl
@[simp high] theorem ix27 : (a0 :: a1 :: a2 :: a3 :: a4 :: a5 :: a6 :: a7 :: a8 :: a9 :: a10 :: a11 :: a12 :: a13 :: a14 :: a15 :: a16 :: a17 :: a18 :: a19 :: a20 :: a21 :: a22 :: a23 :: a24 :: a25 :: a26 :: a27 :: l)[27]? = some a27 := Eq.trans rfl rfl
@[simp high] theorem st27 : (a0 :: a1 :: a2 :: a3 :: a4 :: a5 :: a6 :: a7 :: a8 :: a9 :: a10 :: a11 :: a12 :: a13 :: a14 :: a15 :: a16 :: a17 :: a18 :: a19 :: a20 :: a21 :: a22 :: a23 :: a24 :: a25 :: a26 :: a27 :: l).set 27 y = a0 :: a1 :: a2 :: a3 :: a4 :: a5 :: a6 :: a7 :: a8 :: a9 :: a10 :: a11 :: a12 :: a13 :: a14 :: a15 :: a16 :: a17 :: a18 :: a19 :: a20 :: a21 :: a22 :: a23 :: a24 :: a25 :: a26 :: y :: l := Eq.trans rfl rfl
@[simp high] theorem ix28 : (a0 :: a1 :: a2 :: a3 :: a4 :: a5 :: a6 :: a7 :: a8 :: a9 :: a10 :: a11 :: a12 :: a13 :: a14 :: a15 :: a16 :: a17 :: a18 :: a19 :: a20 :: a21 :: a22 :: a23 :: a24 :: a25 :: a26 :: a27 :: a28 :: l)[28]? = some a28 := Eq.trans rfl rfl
@[simp high] theorem st28 : (a0 :: a1 :: a2 :: a3 :: a4 :: a5 :: a6 :: a7 :: a8 :: a9 :: a10 :: a11 :: a12 :: a13 :: a14 :: a15 :: a16 :: a17 :: a18 :: a19 :: a20 :: a21 :: a22 :: a23 :: a24 :: a25 :: a26 :: a27 :: a28 :: l).set 28 y = a0 :: a1 :: a2 :: a3 :: a4 :: a5 :: a6 :: a7 :: a8 :: a9 :: a10 :: a11 :: a12 :: a13 :: a14 :: a15 :: a16 :: a17 :: a18 :: a19 :: a20 :: a21 :: a22 :: a23 :: a24 :: a25 :: a26 :: a27 :: y :: l := Eq.trans rfl rfl
@[simp high] theorem ix29 : (a0 :: a1 :: a2 :: a3 :: a4 :: a5 :: a6 :: a7 :: a8 :: a9 :: a10 :: a11 :: a12 :: a13 :: a14 :: a15 :: a16 :: a17 :: a18 :: a19 :: a20 :: a21 :: a22 :: a23 :: a24 :: a25 :: a26 :: a27 :: a28 :: a29 :: l)[29]? = some a29 := Eq.trans rfl rfl
@[simp high] theorem st29 : (a0 :: a1 :: a2 :: a3 :: a4 :: a5 :: a6 :: a7 :: a8 :: a9 :: a10 :: a11 :: a12 :: a13 :: a14 :: a15 :: a16 :: a17 :: a18 :: a19 :: a20 :: a21 :: a22 :: a23 :: a24 :: a25 :: a26 :: a27 :: a28 :: a29 :: l).set 29 y = a0 :: a1 :: a2 :: a3 :: a4 :: a5 :: a6 :: a7 :: a8 :: a9 :: a10 :: a11 :: a12 :: a13 :: a14 :: a15 :: a16 :: a17 :: a18 :: a19 :: a20 :: a21 :: a22 :: a23 :: a24 :: a25 :: a26 :: a27 :: a28 :: y :: l := Eq.trans rfl rfl
@[simp high] theorem ix30 : (a0 :: a1 :: a2 :: a3 :: a4 :: a5 :: a6 :: a7 :: a8 :: a9 :: a10 :: a11 :: a12 :: a13 :: a14 :: a15 :: a16 :: a17 :: a18 :: a19 :: a20 :: a21 :: a22 :: a23 :: a24 :: a25 :: a26 :: a27 :: a28 :: a29 :: a30 :: l)[30]? = some a30 := Eq.trans rfl rfl
@[simp high] theorem st30 : (a0 :: a1 :: a2 :: a3 :: a4 :: a5 :: a6 :: a7 :: a8 :: a9 :: a10 :: a11 :: a12 :: a13 :: a14 :: a15 :: a16 :: a17 :: a18 :: a19 :: a20 :: a21 :: a22 :: a23 :: a24 :: a25 :: a26 :: a27 :: a28 :: a29 :: a30 :: l).set 30 y = a0 :: a1 :: a2 :: a3 :: a4 :: a5 :: a6 :: a7 :: a8 :: a9 :: a10 :: a11 :: a12 :: a13 :: a14 :: a15 :: a16 :: a17 :: a18 :: a19 :: a20 :: a21 :: a22 :: a23 :: a24 :: a25 :: a26 :: a27 :: a28 :: a29 :: y :: l := Eq.trans rfl rfl
@[simp high] theorem ix31 : (a0 :: a1 :: a2 :: a3 :: a4 :: a5 :: a6 :: a7 :: a8 :: a9 :: a10 :: a11 :: a12 :: a13 :: a14 :: a15 :: a16 :: a17 :: a18 :: a19 :: a20 :: a21 :: a22 :: a23 :: a24 :: a25 :: a26 :: a27 :: a28 :: a29 :: a30 :: a31 :: l)[31]? = some a31 := Eq.trans rfl rfl
@[simp high] theorem st31 : (a0 :: a1 :: a2 :: a3 :: a4 :: a5 :: a6 :: a7 :: a8 :: a9 :: a10 :: a11 :: a12 :: a13 :: a14 :: a15 :: a16 :: a17 :: a18 :: a19 :: a20 :: a21 :: a22 :: a23 :: a24 :: a25 :: a26 :: a27 :: a28 :: a29 :: a30 :: a31 :: l).set 31 y = a0 :: a1 :: a2 :: a3 :: a4 :: a5 :: a6 :: a7 :: a8 :: a9 :: a10 :: a11 :: a12 :: a13 :: a14 :: a15 :: a16 :: a17 :: a18 :: a19 :: a20 :: a21 :: a22 :: a23 :: a24 :: a25 :: a26 :: a27 :: a28 :: a29 :: a30 :: y :: l := Eq.trans rfl rfl
@[simp high] theorem ix32 : (a0 :: a1 :: a2 :: a3 :: a4 :: a5 :: a6 :: a7 :: a8 :: a9 :: a10 :: a11 :: a12 :: a13 :: a14 :: a15 :: a16 :: a17 :: a18 :: a19 :: a20 :: a21 :: a22 :: a23 :: a24 :: a25 :: a26 :: a27 :: a28 :: a29 :: a30 :: a31 :: a32 :: l)[32]? = some a32 := Eq.trans rfl rfl
@[simp high] theorem st32 : (a0 :: a1 :: a2 :: a3 :: a4 :: a5 :: a6 :: a7 :: a8 :: a9 :: a10 :: a11 :: a12 :: a13 :: a14 :: a15 :: a16 :: a17 :: a18 :: a19 :: a20 :: a21 :: a22 :: a23 :: a24 :: a25 :: a26 :: a27 :: a28 :: a29 :: a30 :: a31 :: a32 :: l).set 32 y = a0 :: a1 :: a2 :: a3 :: a4 :: a5 :: a6 :: a7 :: a8 :: a9 :: a10 :: a11 :: a12 :: a13 :: a14 :: a15 :: a16 :: a17 :: a18 :: a19 :: a20 :: a21 :: a22 :: a23 :: a24 :: a25 :: a26 :: a27 :: a28 :: a29 :: a30 :: a31 :: y :: l := Eq.trans rfl rfl
@[simp high] theorem ix33 : (a0 :: a1 :: a2 :: a3 :: a4 :: a5 :: a6 :: a7 :: a8 :: a9 :: a10 :: a11 :: a12 :: a13 :: a14 :: a15 :: a16 :: a17 :: a18 :: a19 :: a20 :: a21 :: a22 :: a23 :: a24 :: a25 :: a26 :: a27 :: a28 :: a29 :: a30 :: a31 :: a32 :: a33 :: l)[33]? = some a33 := Eq.trans rfl rfl
@[simp high] theorem st33 : (a0 :: a1 :: a2 :: a3 :: a4 :: a5 :: a6 :: a7 :: a8 :: a9 :: a10 :: a11 :: a12 :: a13 :: a14 :: a15 :: a16 :: a17 :: a18 :: a19 :: a20 :: a21 :: a22 :: a23 :: a24 :: a25 :: a26 :: a27 :: a28 :: a29 :: a30 :: a31 :: a32 :: a33 :: l).set 33 y = a0 :: a1 :: a2 :: a3 :: a4 :: a5 :: a6 :: a7 :: a8 :: a9 :: a10 :: a11 :: a12 :: a13 :: a14 :: a15 :: a16 :: a17 :: a18 :: a19 :: a20 :: a21 :: a22 :: a23 :: a24 :: a25 :: a26 :: a27 :: a28 :: a29 :: a30 :: a31 :: a32 :: y :: l := Eq.trans rfl rfl
@[simp high] theorem ix34 : (a0 :: a1 :: a2 :: a3 :: a4 :: a5 :: a6 :: a7 :: a8 :: a9 :: a10 :: a11 :: a12 :: a13 :: a14 :: a15 :: a16 :: a17 :: a18 :: a19 :: a20 :: a21 :: a22 :: a23 :: a24 :: a25 :: a26 :: a27 :: a28 :: a29 :: a30 :: a31 :: a32 :: a33 :: a34 :: l)[34]? = some a34 := Eq.trans rfl rfl
@[simp high] theorem st34 : (a0 :: a1 :: a2 :: a3 :: a4 :: a5 :: a6 :: a7 :: a8 :: a9 :: a10 :: a11 :: a12 :: a13 :: a14 :: a15 :: a16 :: a17 :: a18 :: a19 :: a20 :: a21 :: a22 :: a23 :: a24 :: a25 :: a26 :: a27 :: a28 :: a29 :: a30 :: a31 :: a32 :: a33 :: a34 :: l).set 34 y = a0 :: a1 :: a2 :: a3 :: a4 :: a5 :: a6 :: a7 :: a8 :: a9 :: a10 :: a11 :: a12 :: a13 :: a14 :: a15 :: a16 :: a17 :: a18 :: a19 :: a20 :: a21 :: a22 :: a23 :: a24 :: a25 :: a26 :: a27 :: a28 :: a29 :: a30 :: a31 :: a32 :: a33 :: y :: l := Eq.trans rfl rfl
@[simp high] theorem ix35 : (a0 :: a1 :: a2 :: a3 :: a4 :: a5 :: a6 :: a7 :: a8 :: a9 :: a10 :: a11 :: a12 :: a13 :: a14 :: a15 :: a16 :: a17 :: a18 :: a19 :: a20 :: a21 :: a22 :: a23 :: a24 :: a25 :: a26 :: a27 :: a28 :: a29 :: a30 :: a31 :: a32 :: a33 :: a34 :: a35 :: l)[35]? = some a35 := Eq.trans rfl rfl
@[simp high] theorem st35 : (a0 :: a1 :: a2 :: a3 :: a4 :: a5 :: a6 :: a7 :: a8 :: a9 :: a10 :: a11 :: a12 :: a13 :: a14 :: a15 :: a16 :: a17 :: a18 :: a19 :: a20 :: a21 :: a22 :: a23 :: a24 :: a25 :: a26 :: a27 :: a28 :: a29 :: a30 :: a31 :: a32 :: a33 :: a34 :: a35 :: l).set 35 y = a0 :: a1 :: a2 :: a3 :: a4 :: a5 :: a6 :: a7 :: a8 :: a9 :: a10 :: a11 :: a12 :: a13 :: a14 :: a15 :: a16 :: a17 :: a18 :: a19 :: a20 :: a21 :: a22 :: a23 :: a24 :: a25 :: a26 :: a27 :: a28 :: a29 :: a30 :: a31 :: a32 :: a33 :: a34 :: y :: l := Eq.trans rfl rfl
@[simp high] theorem ix36 : (a0 :: a1 :: a2 :: a3 :: a4 :: a5 :: a6 :: a7 :: a8 :: a9 :: a10 :: a11 :: a12 :: a13 :: a14 :: a15 :: a16 :: a17 :: a18 :: a19 :: a20 :: a21 :: a22 :: a23 :: a24 :: a25 :: a26 :: a27 :: a28 :: a29 :: a30 :: a31 :: a32 :: a33 :: a34 :: a35 :: a36 :: l)[36]? = some a36 := Eq.trans rfl rfl
@[simp high] theorem st36 : (a0 :: a1 :: a2 :: a3 :: a4 :: a5 :: a6 :: a7 :: a8 :: a9 :: a10 :: a11 :: a12 :: a13 :: a14 :: a15 :: a16 :: a17 :: a18 :: a19 :: a20 :: a21 :: a22 :: a23 :: a24 :: a25 :: a26 :: a27 :: a28 :: a29 :: a30 :: a31 :: a32 :: a33 :: a34 :: a35 :: a36 :: l).set 36 y = a0 :: a1 :: a2 :: a3 :: a4 :: a5 :: a6 :: a7 :: a8 :: a9 :: a10 :: a11 :: a12 :: a13 :: a14 :: a15 :: a16 :: a17 :: a18 :: a19 :: a20 :: a21 :: a22 :: a23 :: a24 :: a25 :: a26 :: a27 :: a28 :: a29 :: a30 :: a31 :: a32 :: a33 :: a34 :: a35 :: y :: l := Eq.trans rfl rfl
@[simp high] theorem ix37 : (a0 :: a1 :: a2 :: a3 :: a4 :: a5 :: a6 :: a7 :: a8 :: a9 :: a10 :: a11 :: a12 :: a13 :: a14 :: a15 :: a16 :: a17 :: a18 :: a19 :: a20 :: a21 :: a22 :: a23 :: a24 :: a25 :: a26 :: a27 :: a28 :: a29 :: a30 :: a31 :: a32 :: a33 :: a34 :: a35 :: a36 :: a37 :: l)[37]? = some a37 := Eq.trans rfl rfl
@[simp high] theorem st37 : (a0 :: a1 :: a2 :: a3 :: a4 :: a5 :: a6 :: a7 :: a8 :: a9 :: a10 :: a11 :: a12 :: a13 :: a14 :: a15 :: a16 :: a17 :: a18 :: a19 :: a20 :: a21 :: a22 :: a23 :: a24 :: a25 :: a26 :: a27 :: a28 :: a29 :: a30 :: a31 :: a32 :: a33 :: a34 :: a35 :: a36 :: a37 :: l).set 37 y = a0 :: a1 :: a2 :: a3 :: a4 :: a5 :: a6 :: a7 :: a8 :: a9 :: a10 :: a11 :: a12 :: a13 :: a14 :: a15 :: a16 :: a17 :: a18 :: a19 :: a20 :: a21 :: a22 :: a23 :: a24 :: a25 :: a26 :: a27 :: a28 :: a29 :: a30 :: a31 :: a32 :: a33 :: a34 :: a35 :: a36 :: y :: l := Eq.trans rfl rfl
@[simp high] theorem ix38 : (a0 :: a1 :: a2 :: a3 :: a4 :: a5 :: a6 :: a7 :: a8 :: a9 :: a10 :: a11 :: a12 :: a13 :: a14 :: a15 :: a16 :: a17 :: a18 :: a19 :: a20 :: a21 :: a22 :: a23 :: a24 :: a25 :: a26 :: a27 :: a28 :: a29 :: a30 :: a31 :: a32 :: a33 :: a34 :: a35 :: a36 :: a37 :: a38 :: l)[38]? = some a38 := Eq.trans rfl rfl
@[simp high] theorem st38 : (a0 :: a1 :: a2 :: a3 :: a4 :: a5 :: a6 :: a7 :: a8 :: a9 :: a10 :: a11 :: a12 :: a13 :: a14 :: a15 :: a16 :: a17 :: a18 :: a19 :: a20 :: a21 :: a22 :: a23 :: a24 :: a25 :: a26 :: a27 :: a28 :: a29 :: a30 :: a31 :: a32 :: a33 :: a34 :: a35 :: a36 :: a37 :: a38 :: l).set 38 y = a0 :: a1 :: a2 :: a3 :: a4 :: a5 :: a6 :: a7 :: a8 :: a9 :: a10 :: a11 :: a12 :: a13 :: a14 :: a15 :: a16 :: a17 :: a18 :: a19 :: a20 :: a21 :: a22 :: a23 :: a24 :: a25 :: a26 :: a27 :: a28 :: a29 :: a30 :: a31 :: a32 :: a33 :: a34 :: a35 :: a36 :: a37 :: y :: l := Eq.trans rfl rfl
@[simp high] theorem ix39 : (a0 :: a1 :: a2 :: a3 :: a4 :: a5 :: a6 :: a7 :: a8 :: a9 :: a10 :: a11 :: a12 :: a13 :: a14 :: a15 :: a16 :: a17 :: a18 :: a19 :: a20 :: a21 :: a22 :: a23 :: a24 :: a25 :: a26 :: a27 :: a28 :: a29 :: a30 :: a31 :: a32 :: a33 :: a34 :: a35 :: a36 :: a37 :: a38 :: a39 :: l)[39]? = some a39 := Eq.trans rfl rfl
@[simp high] theorem st39 : (a0 :: a1 :: a2 :: a3 :: a4 :: a5 :: a6 :: a7 :: a8 :: a9 :: a10 :: a11 :: a12 :: a13 :: a14 :: a15 :: a16 :: a17 :: a18 :: a19 :: a20 :: a21 :: a22 :: a23 :: a24 :: a25 :: a26 :: a27 :: a28 :: a29 :: a30 :: a31 :: a32 :: a33 :: a34 :: a35 :: a36 :: a37 :: a38 :: a39 :: l).set 39 y = a0 :: a1 :: a2 :: a3 :: a4 :: a5 :: a6 :: a7 :: a8 :: a9 :: a10 :: a11 :: a12 :: a13 :: a14 :: a15 :: a16 :: a17 :: a18 :: a19 :: a20 :: a21 :: a22 :: a23 :: a24 :: a25 :: a26 :: a27 :: a28 :: a29 :: a30 :: a31 :: a32 :: a33 :: a34 :: a35 :: a36 :: a37 :: a38 :: y :: l := Eq.trans rfl rfl
end
/-! operators -/
section
variable {i j : Int} {t u : T} {ts us : List T} {o : Bool}
@[simp] theorem addT_int : addT (.int i) (.int j) = some (.int (i + j)) := Eq.trans rfl rfl
@[simp] theorem addT_lst : addT (.lst ts) (.lst us) = if ts.length + us.length ≤ sizeLine then some (.lst (ts ++ us)) else none := Eq.trans rfl rfl
@[simp] theorem addT_tup : addT (.tup ts) (.tup us) = if ts.length + us.length ≤ sizeLine then some (.tup (ts ++ us)) else none := Eq.trans rfl rfl
@[simp] theorem subT_int : subT (.int i) (.int j) = some (.int (i - j)) := Eq.trans rfl rfl
@[simp] theorem negT_int : negT (.int i) = some (.int (-i)) := Eq.trans rfl rfl
theorem mulT_int : mulT (.int i) (.int j) = if i.natAbs.log2 + j.natAbs.log2 < 1000000 then some (.int (i * j)) else none := rfl
theorem mulT_lst : mulT (.lst ts) (.int j) = if -(2 ^ 63) ≤ j ∧ j < 2 ^ 63 ∧ ts.length * j.toNat ≤ sizeLine then some (.lst (List.replicate j.toNat ts).flatten) else none := rfl
theorem divT_int : divT (.int i) (.int j) = if 0 < j ∧ j.natAbs.log2 < 9000 then some (.int (i / j)) else none := rfl
theorem modT_int : modT (.int i) (.int j) = if 0 < j then some (.int (i % j)) else none := rfl
theorem powT_int : powT (.int i) (.int j) = if 0 ≤ j ∧ j ≤ 1000000 ∧ i.natAbs < 2 ^ 64 then some (.int (i ^ j.toNat)) else none := rfl
@[simp] theorem cmpT_int {p : Int → Int → Bool} : cmpT p (.int i) (.int j) = some (.bl (p i j)) := Eq.trans rfl rfl
@[simp] theorem ixT_lst : ixT (.lst ts) (.int i) = atI ts i := Eq.trans rfl rfl
@[simp] theorem ixT_tup : ixT (.tup ts) (.int i) = atI ts i := Eq.trans rfl rfl
@[simp] theorem lenL_lst : lenL [.lst ts] = some (.int ts.length) := Eq.trans rfl rfl
@[simp] theorem lenL_tup : lenL [.tup ts] = some (.int ts.length) := Eq.trans rfl rfl
@[simp] theorem lenL_scr {ns : List Int} : lenL [.scr ns] = some (.int ns.length) := Eq.trans rfl rfl
@[simp] theorem maxL_int : maxL [.int i, .int j] = some (.int (if j > i then j else i)) := Eq.trans rfl rfl
@[simp] theorem minL_int : minL [.int i, .int j] = some (.int (if j < i then j else i)) := Eq.trans rfl rfl
@[simp] theorem isNonT_ap : isNonT t = some (.bl (isNonB t)) := Eq.trans rfl rfl
@[simp] theorem notNonT_ap : notNonT t = some (.bl (!isNonB t)) := Eq.trans rfl rfl
@[simp] theorem isiL_ap {m : String} : isiL m [t] = isiT m t := Eq.trans rfl rfl
theorem rng1_int : rng1 (.int i) = if -(2 ^ 62) ≤ i ∧ i < 2 ^ 62 then some (rngT i.toNat) else none := rfl
theorem rng2_int : rng2 [.int i, .int j] = if -(2 ^ 62) ≤ i ∧ i < 2 ^ 62 ∧ -(2 ^ 62) ≤ j ∧ j < 2 ^ 62 then some (rngF i (j - i).toNat) else none := rfl
@[simp] theorem enumT_lst : enumT (.lst ts) = some (enumL ts) := Eq.trans rfl rfl
@[simp] theorem enumT_scr {ns : List Int} : enumT (.scr ns) = some (enumL (ns.map T.int)) := Eq.trans rfl rfl
@[simp] theorem zipT_lst : zipT [.lst ts, .lst us] = some ((ts.zip us).map fun p => T.tup [p.1, p.2]) := Eq.trans rfl rfl
@[simp] theorem itemsT_lst : itemsT (.lst ts) = some ts := Eq.trans rfl rfl
@[simp] theorem itemsT_tup : itemsT (.tup ts) = some ts := Eq.trans rfl rfl
@[simp] theorem itemsT_scr {ns : List Int} : itemsT (.scr ns) = some (ns.map T.int) := Eq.trans rfl rfl
@[simp] theorem sliceT_lst {lo hi : Option Int} : sliceT (.lst ts) lo hi = some (.lst (cut ts lo hi)) := Eq.trans rfl rfl
@[simp] theorem sliceT_tup {lo hi : Option Int} : sliceT (.tup ts) lo hi = some (.tup (cut ts lo hi)) := Eq.trans rfl rfl
@[simp] theorem sliceT_scr {ns : List Int} {lo hi : Option Int} : sliceT (.scr ns) lo hi = some (.lst ((cut ns lo hi).map .int)) := Eq.trans rfl rfl
@[simp] theorem isMut_lst : isMut (.lst ts) = true := Eq.trans rfl rfl
@[simp] theorem isMut_tup : isMut (.tup ts) = false := Eq.trans rfl rfl
@[simp] theorem isMut_int : isMut (.int i) = false := Eq.trans rfl rfl
@[simp] theorem isMut_bl : isMut (.bl o) = false := Eq.trans rfl rfl
@[simp] theorem isMut_non : isMut .non = false := Eq.trans rfl rfl
@[simp] theorem isMut_str {z : Str} : isMut (.str z) = false := Eq.trans rfl rfl
@[simp] theorem isMut_dic {z : List (Key × T)} : isMut (.dic z) = true := Eq.trans rfl rfl
@[simp] theorem ofO_if {α : Type} {c : Prop} [Decidable c] {x : Option α} : ofO (if c then x else none) = if c then ofO x else .bad := by split <;> rfl
end
/-! loops -/
/-- what holds ahead of each turn, and of what the loop tells -/
theorem forL_post {g : T → Lo → Option Lo} {body : Lo → Fl} {ts : List T} (I : Nat → Lo → Prop) (Post : Fl → Prop) :
    ∀ (k : Nat) (ev : Lo), I k ev → (∀ (i : Nat) (h : i < ts.length) (e : Lo), I i e → ∃ e1, g ts[i] e = some e1 ∧ match body e1 with
      | .nx e2 => I (i + 1) e2
      | .ct e2 => I (i + 1) e2
      | .bk e2 => Post (.nx e2)
      | .bad => False
      | r => Post r) → (∀ e, I ts.length e → Post (.nx e)) → k ≤ ts.length → Post (forL g body (ts.drop k) ev) := by
  intro k ev h0 hs he hk
  by_cases hlt : k < ts.length
  · rw [List.drop_eq_getElem_cons hlt]
    obtain ⟨e1, h1, h2⟩ := hs k hlt ev h0
    unfold forL
    simp only [h1]
    cases eb : body e1 with
    | nx e2 => rw [eb] at h2; exact forL_post I Post (k + 1) e2 h2 hs he hlt
    | ct e2 => rw [eb] at h2; exact forL_post I Post (k + 1) e2 h2 hs he hlt
    | bk e2 => rw [eb] at h2; exact h2
    | rt t => rw [eb] at h2; exact h2
    | ex c fs e2 => rw [eb] at h2; exact h2
    | bad => rw [eb] at h2; exact h2.elim
  · have e : k = ts.length := by omega
    subst e
    rw [List.drop_length]
    exact he ev h0
termination_by k => ts.length - k
/-- what a flow goes on by -/
def Fl.to (P : Lo → Prop) : Fl → Prop
  | .nx e => P e
  | .ct e => P e
  | _ => False
@[simp] theorem Fl.to_nx {P : Lo → Prop} {e : Lo} : Fl.to P (.nx e) = P e := Eq.trans rfl rfl
@[simp] theorem Fl.to_ct {P : Lo → Prop} {e : Lo} : Fl.to P (.ct e) = P e := Eq.trans rfl rfl
/-- a loop that goes through -/
theorem forL_go {g : T → Lo → Option Lo} {body : Lo → Fl} {ts : List T} (I : Nat → Lo → Prop) {ev : Lo} (h0 : I 0 ev) (hs : ∀ (i : Nat) (h : i < ts.length) (e : Lo), I i e → ∃ e1, g ts[i] e = some e1 ∧ (body e1).to (I (i + 1))) :
    ∃ e', forL g body ts ev = .nx e' ∧ I ts.length e' := by
  have := forL_post (g := g) (body := body) (ts := ts) I (fun r => ∃ e', r = .nx e' ∧ I ts.length e') 0 ev h0 (fun i h e z => by
    obtain ⟨e1, h1, h3⟩ := hs i h e z
    refine ⟨e1, h1, ?_⟩
    cases eb : body e1 with
    | nx e2 => rw [eb] at h3; exact h3
    | ct e2 => rw [eb] at h3; exact h3
    | bk e2 => rw [eb] at h3; exact h3.elim
    | rt t => rw [eb] at h3; exact h3.elim
    | ex c fs e2 => rw [eb] at h3; exact h3.elim
    | bad => rw [eb] at h3; exact h3.elim) (fun e z => ⟨e, rfl, z⟩) (Nat.zero_le _)
  rwa [List.drop_zero] at this
end DL

set_option maxHeartbeats 1000000
/-! how more of the functions of trees are reckoned; loops as folds -/
namespace DL
open PySem PySem.Spec PyProof.Rows L2
section
variable {i j : Int} {o : Bool} {z : Str} {ts us : List T} {ns : List Int} {kd : List (Key × T)} {t u : T} {ev e : Lo} {d : Lo → Fl} {w : List Nat} {s : Lo → Fl}
@[simp] theorem geX_int : geX (.int i) (.int j) = some (.bl (decide (j ≤ i))) := Eq.trans rfl rfl
@[simp] theorem isi_non_bool : isiT "bool" .non = some (.bl false) := Eq.trans rfl rfl
@[simp] theorem isi_non_int : isiT "int" .non = some (.bl false) := Eq.trans rfl rfl
@[simp] theorem isi_non_str : isiT "str" .non = some (.bl false) := Eq.trans rfl rfl
@[simp] theorem isi_non_list : isiT "list" .non = some (.bl false) := Eq.trans rfl rfl
@[simp] theorem isi_non_tuple : isiT "tuple" .non = some (.bl false) := Eq.trans rfl rfl
@[simp] theorem isi_non_dict : isiT "dict" .non = some (.bl false) := Eq.trans rfl rfl
@[simp] theorem isi_bl_bool : isiT "bool" (.bl o) = some (.bl true) := Eq.trans rfl rfl
@[simp] theorem isi_bl_int : isiT "int" (.bl o) = some (.bl true) := Eq.trans rfl rfl
@[simp] theorem isi_bl_str : isiT "str" (.bl o) = some (.bl false) := Eq.trans rfl rfl
@[simp] theorem isi_bl_list : isiT "list" (.bl o) = some (.bl false) := Eq.trans rfl rfl
@[simp] theorem isi_bl_tuple : isiT "tuple" (.bl o) = some (.bl false) := Eq.trans rfl rfl
@[simp] theorem isi_bl_dict : isiT "dict" (.bl o) = some (.bl false) := Eq.trans rfl rfl
@[simp] theorem isi_int_bool : isiT "bool" (.int i) = some (.bl false) := Eq.trans rfl rfl
@[simp] theorem isi_int_int : isiT "int" (.int i) = some (.bl true) := Eq.trans rfl rfl
@[simp] theorem isi_int_str : isiT "str" (.int i) = some (.bl false) := Eq.trans rfl rfl
@[simp] theorem isi_int_list : isiT "list" (.int i) = some (.bl false) := Eq.trans rfl rfl
@[simp] theorem isi_int_tuple : isiT "tuple" (.int i) = some (.bl false) := Eq.trans rfl rfl
@[simp] theorem isi_int_dict : isiT "dict" (.int i) = some (.bl false) := Eq.trans rfl rfl
@[simp] theorem isi_str_bool : isiT "bool" (.str z) = some (.bl false) := Eq.trans rfl rfl
@[simp] theorem isi_str_int : isiT "int" (.str z) = some (.bl false) := Eq.trans rfl rfl
@[simp] theorem isi_str_str : isiT "str" (.str z) = some (.bl true) := Eq.trans rfl rfl
@[simp] theorem isi_str_list : isiT "list" (.str z) = some (.bl false) := Eq.trans rfl rfl
@[simp] theorem isi_str_tuple : isiT "tuple" (.str z) = some (.bl false) := Eq.trans rfl rfl
@[simp] theorem isi_str_dict : isiT "dict" (.str z) = some (.bl false) := Eq.trans rfl rfl
@[simp] theorem isi_lst_bool : isiT "bool" (.lst ts) = some (.bl false) := Eq.trans rfl rfl
@[simp] theorem isi_lst_int : isiT "int" (.lst ts) = some (.bl false) := Eq.trans rfl rfl
@[simp] theorem isi_lst_str : isiT "str" (.lst ts) = some (.bl false) := Eq.trans rfl rfl
@[simp] theorem isi_lst_list : isiT "list" (.lst ts) = some (.bl true) := Eq.trans rfl rfl
@[simp] theorem isi_lst_tuple : isiT "tuple" (.lst ts) = some (.bl false) := Eq.trans rfl rfl
@[simp] theorem isi_lst_dict : isiT "dict" (.lst ts) = some (.bl false) := Eq.trans rfl rfl
@[simp] theorem isi_scr_bool : isiT "bool" (.scr ns) = some (.bl false) := Eq.trans rfl rfl
@[simp] theorem isi_scr_int : isiT "int" (.scr ns) = some (.bl false) := Eq.trans rfl rfl
@[simp] theorem isi_scr_str : isiT "str" (.scr ns) = some (.bl false) := Eq.trans rfl rfl
@[simp] theorem isi_scr_list : isiT "list" (.scr ns) = some (.bl true) := Eq.trans rfl rfl
@[simp] theorem isi_scr_tuple : isiT "tuple" (.scr ns) = some (.bl false) := Eq.trans rfl rfl
@[simp] theorem isi_scr_dict : isiT "dict" (.scr ns) = some (.bl false) := Eq.trans rfl rfl
@[simp] theorem isi_tup_bool : isiT "bool" (.tup ts) = some (.bl false) := Eq.trans rfl rfl
@[simp] theorem isi_tup_int : isiT "int" (.tup ts) = some (.bl false) := Eq.trans rfl rfl
@[simp] theorem isi_tup_str : isiT "str" (.tup ts) = some (.bl false) := Eq.trans rfl rfl
@[simp] theorem isi_tup_list : isiT "list" (.tup ts) = some (.bl false) := Eq.trans rfl rfl
@[simp] theorem isi_tup_tuple : isiT "tuple" (.tup ts) = some (.bl true) := Eq.trans rfl rfl
@[simp] theorem isi_tup_dict : isiT "dict" (.tup ts) = some (.bl false) := Eq.trans rfl rfl
@[simp] theorem isi_dic_bool : isiT "bool" (.dic kd) = some (.bl false) := Eq.trans rfl rfl
@[simp] theorem isi_dic_int : isiT "int" (.dic kd) = some (.bl false) := Eq.trans rfl rfl
@[simp] theorem isi_dic_str : isiT "str" (.dic kd) = some (.bl false) := Eq.trans rfl rfl
@[simp] theorem isi_dic_list : isiT "list" (.dic kd) = some (.bl false) := Eq.trans rfl rfl
@[simp] theorem isi_dic_tuple : isiT "tuple" (.dic kd) = some (.bl false) := Eq.trans rfl rfl
@[simp] theorem isi_dic_dict : isiT "dict" (.dic kd) = some (.bl true) := Eq.trans rfl rfl
@[simp] theorem ap_sWp : sWp w d ev = d (wipeL w ev) := Eq.trans rfl rfl
@[simp] theorem ap_sWe : sWe w d ev = (d ev).wp w := Eq.trans rfl rfl
@[simp] theorem wp_nx : (Fl.nx ev).wp w = .nx (wipeL w ev) := Eq.trans rfl rfl
@[simp] theorem wp_bk : (Fl.bk ev).wp w = .bk (wipeL w ev) := Eq.trans rfl rfl
@[simp] theorem wp_ct : (Fl.ct ev).wp w = .ct (wipeL w ev) := Eq.trans rfl rfl
@[simp] theorem wp_rt : (Fl.rt t).wp w = .rt t := Eq.trans rfl rfl
@[simp] theorem wp_ex {c : Str} {fs : List (Str × T)} : (Fl.ex c fs ev).wp w = .ex c fs ev := Eq.trans rfl rfl
@[simp] theorem wp_bad : (Fl.bad).wp w = .bad := Eq.trans rfl rfl
@[simp] theorem wipe_nil : wipeL [] ev = ev := Eq.trans rfl rfl
@[simp] theorem wipe_cons {v : Nat} {vs : List Nat} : wipeL (v :: vs) ev = (wipeL vs ev).set v none := Eq.trans rfl rfl
def flFz (i : Nat) : Fl → Fl
  | .nx e => .nx (relI i e)
  | r => r
@[simp] theorem ap_sFz {n : Nat} : sFz n d ev = flFz n (d ev) := by unfold sFz flFz; cases d ev <;> rfl
@[simp] theorem flFz_nx {n : Nat} : flFz n (.nx ev) = .nx (relI n ev) := Eq.trans rfl rfl
def relV (n : Nat) (ev : Lo) : Option (Option (T × Bool)) → Lo
  | some (some (t, true)) => ev.set n (some (t, false))
  | _ => ev
@[simp] theorem relI_ap {n : Nat} : relI n ev = relV n ev ev[n]? := by
  unfold relI relV
  generalize ev[n]? = q
  rcases q with _ | _ | ⟨t, _ | _⟩ <;> rfl
@[simp] theorem relV_t {n : Nat} : relV n ev (some (some (t, true))) = ev.set n (some (t, false)) := Eq.trans rfl rfl
@[simp] theorem relV_f {n : Nat} : relV n ev (some (some (t, false))) = ev := Eq.trans rfl rfl
def boB : R Bool → R Bool
  | .ok b => .ok b
  | _ => .bad
@[simp] theorem ap_dBorB {n : Nat} {q : Lo → R Bool} : dBorB n q ev = boB (q (relI n ev)) := by unfold dBorB boB; cases q (relI n ev) <;> rfl
@[simp] theorem boB_ok {b : Bool} : boB (.ok b) = .ok b := Eq.trans rfl rfl
def flFl : R T → R T
  | .ok t => if isMut t = true then .bad else .ok t
  | r => r
@[simp] theorem ap_dFl {a : Lo → R T} : dFl a ev = flFl (a ev) := by unfold dFl flFl; cases a ev <;> rfl
@[simp] theorem flFl_ok : flFl (.ok t) = if isMut t = true then .bad else .ok t := Eq.trans rfl rfl
def oFl : Option Lo → Fl
  | some e => .nx e
  | none => .bad
@[simp] theorem kAsg_ap {g : T → Lo → Option Lo} : kAsg g t ev = oFl (g t ev) := by unfold kAsg oFl; rfl
@[simp] theorem oFl_some : oFl (some ev) = .nx ev := Eq.trans rfl rfl
/-- numbers or none -/
def eO : Option Int → T
  | none => .non
  | some i => .int i
@[simp] theorem eO_none : eO none = .non := Eq.trans rfl rfl
@[simp] theorem eO_some : eO (some i) = .int i := Eq.trans rfl rfl
@[simp] theorem isMut_eO {x : Option Int} : isMut (eO x) = false := by cases x <;> rfl
@[simp] theorem isNonB_eO {x : Option Int} : isNonB (eO x) = x.isNone := by cases x <;> rfl
@[simp] theorem isNonB_int : isNonB (.int i) = false := Eq.trans rfl rfl
@[simp] theorem isNonB_non : isNonB .non = true := Eq.trans rfl rfl
@[simp] theorem isNonB_bl : isNonB (.bl o) = false := Eq.trans rfl rfl
@[simp] theorem isNonB_lst : isNonB (.lst ts) = false := Eq.trans rfl rfl
@[simp] theorem isNonB_tup : isNonB (.tup ts) = false := Eq.trans rfl rfl
@[simp] theorem isNonB_str : isNonB (.str z) = false := Eq.trans rfl rfl
/-! places in lists -/
theorem atI_cast {α : Type} (xs : List α) (n : Nat) : atI xs (n : Int) = xs[n]? := by
  unfold atI ixN
  by_cases h : n < xs.length
  · rw [if_pos (by omega), if_pos (by omega)]; simp
  · rw [if_pos (by omega), if_neg (by omega)]; simp; omega
@[simp] theorem atI_zero {α : Type} (xs : List α) : atI xs 0 = xs[0]? := atI_cast xs 0
@[simp] theorem atI_one {α : Type} (xs : List α) : atI xs 1 = xs[1]? := atI_cast xs 1
@[simp] theorem atI_lit {α : Type} (xs : List α) (n : Nat) : atI xs (no_index (OfNat.ofNat n : Int)) = xs[(OfNat.ofNat n : Nat)]? := atI_cast xs n
@[simp] theorem atI_castS {α : Type} (xs : List α) (n : Nat) : atI xs (n : Int) = xs[n]? := atI_cast xs n
@[simp] theorem atI_last {α : Type} (xs : List α) : atI xs (-1) = xs.getLast? := by
  unfold atI ixN
  rw [if_neg (by omega)]
  by_cases h : xs.length = 0
  · rw [if_neg (by omega)]
    have : xs = [] := List.length_eq_zero_iff.mp h
    subst this; rfl
  · rw [if_pos (by omega), List.getLast?_eq_getElem?]
    show xs[(-1 + (xs.length : Int)).toNat]? = _
    congr 1
    omega
/-! slices -/
theorem cut_none_some {α : Type} (xs : List α) (k : Nat) : cut xs none (some (k : Int)) = xs.take k := by
  unfold cut
  rw [HT.sIx_none, HT.sIx_nat]
  simp [List.take_eq_take_iff]
theorem cut_some_none {α : Type} (xs : List α) (k : Nat) : cut xs (some (k : Int)) none = xs.drop k := by
  unfold cut
  rw [HT.sIx_none, HT.sIx_nat]
  by_cases h : k ≤ xs.length
  · rw [Nat.min_eq_left h, List.take_of_length_le (by simp)]
  · rw [Nat.min_eq_right (by omega), List.drop_of_length_le (by omega), List.drop_of_length_le (by omega)]; simp
theorem cut_some_some {α : Type} (xs : List α) (a b : Nat) : cut xs (some (a : Int)) (some (b : Int)) = (xs.drop a).take (b - a) := by
  unfold cut
  rw [HT.sIx_nat, HT.sIx_nat]
  by_cases h : a ≤ xs.length
  · rw [Nat.min_eq_left h]
    by_cases h2 : b ≤ xs.length
    · rw [Nat.min_eq_left h2]
    · rw [Nat.min_eq_right (show xs.length ≤ b by omega), List.take_of_length_le (by simp), List.take_of_length_le (by simp; omega)]
  · rw [Nat.min_eq_right (show xs.length ≤ a by omega), List.drop_of_length_le (Nat.le_refl _), List.drop_of_length_le (by omega)]; simp
@[simp] theorem cut_ns {α : Type} (xs : List α) (k : Nat) : cut xs none (some (k : Int)) = xs.take k := cut_none_some xs k
@[simp] theorem cut_sn {α : Type} (xs : List α) (k : Nat) : cut xs (some (k : Int)) none = xs.drop k := cut_some_none xs k
@[simp] theorem cut_ss {α : Type} (xs : List α) (a b : Nat) : cut xs (some (a : Int)) (some (b : Int)) = (xs.drop a).take (b - a) := cut_some_some xs a b
@[simp] theorem cut_n0 {α : Type} (xs : List α) : cut xs none (some 0) = [] := cut_none_some xs 0
@[simp] theorem cut_n1 {α : Type} (xs : List α) : cut xs none (some 1) = xs.take 1 := cut_none_some xs 1
@[simp] theorem cut_nl {α : Type} (xs : List α) (n : Nat) : cut xs none (some (no_index (OfNat.ofNat n : Int))) = xs.take (OfNat.ofNat n) := cut_none_some xs n
@[simp] theorem cut_1n {α : Type} (xs : List α) : cut xs (some 1) none = xs.drop 1 := cut_some_none xs 1
@[simp] theorem cut_ln {α : Type} (xs : List α) (n : Nat) : cut xs (some (no_index (OfNat.ofNat n : Int))) none = xs.drop (OfNat.ofNat n) := cut_some_none xs n
@[simp] theorem cut_map {α β : Type} (f : α → β) (xs : List α) (l h : Option Int) : cut (xs.map f) l h = (cut xs l h).map f := by unfold cut; simp
/-! lists of truths, of numbers -/
@[simp] theorem bls_map {α : Type} (f : α → Bool) : ∀ xs : List α, bls (xs.map fun x => T.bl (f x)) = some (xs.map f)
  | [] => rfl
  | x :: xs => by rw [List.map_cons]; unfold bls; rw [bls_map f xs]; rfl
@[simp] theorem nums_map {α : Type} (f : α → Int) : ∀ xs : List α, nums (xs.map fun x => T.int (f x)) = some (xs.map f)
  | [] => rfl
  | x :: xs => by rw [List.map_cons]; unfold nums; rw [nums_map f xs]; rfl
@[simp] theorem nums_ints (xs : List Int) : nums (xs.map T.int) = some xs := by
  have := nums_map (fun x : Int => x) xs
  simpa using this
@[simp] theorem bls_nil : bls [] = some [] := Eq.trans rfl rfl
@[simp] theorem bls_cons : bls (.bl o :: ts) = (bls ts).map (o :: ·) := Eq.trans rfl rfl
@[simp] theorem nums_nil : nums [] = some [] := Eq.trans rfl rfl
@[simp] theorem nums_cons : nums (.int i :: ts) = (nums ts).map (i :: ·) := Eq.trans rfl rfl
@[simp] theorem allL_ap : allL [.lst ts] = (bls ts).map fun bs => .bl (bs.all id) := Eq.trans rfl rfl
@[simp] theorem anyL_ap : anyL [.lst ts] = (bls ts).map fun bs => .bl (bs.any id) := Eq.trans rfl rfl
@[simp] theorem sumL_ap : sumL [.lst ts] = (nums ts).map fun bs => .int bs.sum := Eq.trans rfl rfl
@[simp] theorem max1L_ap : max1L [.lst ts] = (nums ts).bind fun ns => (maxI ns).map .int := Eq.trans rfl rfl
@[simp] theorem min1L_ap : min1L [.lst ts] = (nums ts).bind fun ns => (minI ns).map .int := Eq.trans rfl rfl
@[simp] theorem intL_int : intL [.int i] = some (.int i) := Eq.trans rfl rfl
@[simp] theorem intL_bl : intL [.bl o] = some (.int (if o then 1 else 0)) := Eq.trans rfl rfl
@[simp] theorem listL_lst : listL [.lst ts] = some (.lst ts) := Eq.trans rfl rfl
@[simp] theorem listL_tup : listL [.tup ts] = some (.lst ts) := Eq.trans rfl rfl
@[simp] theorem tupleL_lst : tupleL [.lst ts] = some (.tup ts) := Eq.trans rfl rfl
@[simp] theorem tupleL_tup : tupleL [.tup ts] = some (.tup ts) := Eq.trans rfl rfl
@[simp] theorem revT_lst : revT (.lst ts) = some (.lst ts.reverse) := Eq.trans rfl rfl
@[simp] theorem revT_scr : revT (.scr ns) = some (.lst (ns.reverse.map .int)) := Eq.trans rfl rfl
@[simp] theorem rev1T_lst : rev1T (.lst ts) = some (.lst (ts.drop 1).reverse) := Eq.trans rfl rfl
@[simp] theorem rev1T_scr : rev1T (.scr ns) = some (.lst ((ns.drop 1).reverse.map .int)) := Eq.trans rfl rfl
@[simp] theorem ixT_scr : ixT (.scr ns) (.int i) = (atI ns i).map T.int := Eq.trans rfl rfl
@[simp] theorem isB_ap {n : Bool → Bool} {p : Bool} : isBT n (.bl o) (.bl p) = some (.bl (n (decide (o = p)))) := Eq.trans rfl rfl
/-! in -/
theorem any_eO (x : Option Int) (xs : List (Option Int)) : (xs.map eO).any (fun y => eqF y (eO x)) = decide (x ∈ xs) := by
  induction xs with
  | nil => rfl
  | cons y ys ih =>
    rw [List.map_cons, List.any_cons, ih]
    have e : eqF (eO y) (eO x) = decide (x = y) := by
      cases y with
      | none => cases x <;> rfl
      | some a =>
        cases x with
        | none => rfl
        | some b =>
          show (a == b) = decide (some b = some a)
          rw [Bool.eq_iff_iff, beq_iff_eq, decide_eq_true_iff]
          exact ⟨fun h => by rw [h], fun h => (Option.some.inj h).symm⟩
    rw [e]
    by_cases h : x = y <;> simp [h]
@[simp] theorem flT_eO {x : Option Int} : flT (eO x) = true := by cases x <;> rfl
theorem all_eO (xs : List (Option Int)) : (xs.map eO).all flT = true := by
  induction xs with
  | nil => rfl
  | cons y ys ih => rw [List.map_cons, List.all_cons, ih, flT_eO]; rfl
@[simp] theorem inT_eO (x : Option Int) (xs : List (Option Int)) : inT (eO x) (.lst (xs.map eO)) = some (.bl (decide (x ∈ xs))) := by
  show (if flT (eO x) = true ∧ (xs.map eO).all flT = true then some (T.bl (id ((xs.map eO).any fun y => eqF y (eO x)))) else none) = _
  rw [if_pos ⟨flT_eO, all_eO xs⟩, any_eO]; rfl
@[simp] theorem inT_non (xs : List (Option Int)) : inT .non (.lst (xs.map eO)) = some (.bl (decide (none ∈ xs))) := inT_eO none xs
theorem inG_non2 {n : Bool → Bool} (a b : Option Int) : inG n .non (.lst [eO a, eO b]) = some (.bl (n (decide (a = none ∨ b = none)))) := by
  cases a <;> cases b <;> rfl
@[simp] theorem inT_non2 (a b : Option Int) : inT .non (.lst [eO a, eO b]) = some (.bl (decide (a = none ∨ b = none))) := inG_non2 a b
@[simp] theorem ninT_non2 (a b : Option Int) : ninT .non (.lst [eO a, eO b]) = some (.bl (!decide (a = none ∨ b = none))) := inG_non2 a b
@[simp] theorem ninT_eO (x : Option Int) (xs : List (Option Int)) : ninT (eO x) (.lst (xs.map eO)) = some (.bl (!decide (x ∈ xs))) := by
  show (if flT (eO x) = true ∧ (xs.map eO).all flT = true then some (T.bl (not ((xs.map eO).any fun y => eqF y (eO x)))) else none) = _
  rw [if_pos ⟨flT_eO, all_eO xs⟩, any_eO]
@[simp] theorem ninT_non (xs : List (Option Int)) : ninT .non (.lst (xs.map eO)) = some (.bl (!decide (none ∈ xs))) := ninT_eO none xs
/-! equality -/
/-- flat things within n lists and tuples -/
def fkT : T → Bool
  | .non => true
  | .bl _ => true
  | .int _ => true
  | .str x => PyData.strOk x
  | _ => false
def kT : Nat → T → Bool
  | 0, t => fkT t
  | n + 1, .lst xs => xs.all (kT n)
  | n + 1, .tup xs => xs.all (kT n)
  | _ + 1, .scr _ => true
  | _ + 1, t => fkT t
theorem kfl : ∀ {t : T}, fkT t = true → pln t = true ∧ (py t).canLay0 = true ∧ (py t).depth = 0
  | .non, _ => ⟨rfl, rfl, rfl⟩
  | .bl _, _ => ⟨rfl, rfl, rfl⟩
  | .int _, _ => ⟨rfl, rfl, rfl⟩
  | .str x, h => ⟨rfl, h, rfl⟩
theorem canLay_ints : ∀ ns : List Int, PyData.canLayAll0 (ns.map PyData.int) = true
  | [] => rfl
  | n :: ns => by simp only [List.map_cons, PyData.canLayAll0, PyData.canLay0, canLay_ints ns]; rfl
theorem depth_ints : ∀ ns : List Int, PyData.depthAll (ns.map PyData.int) = 0
  | [] => rfl
  | n :: ns => by simp only [List.map_cons, PyData.depthAll, PyData.depth, depth_ints ns]; rfl
theorem kT_all {n : Nat} (ih : ∀ t, kT n t = true → pln t = true ∧ (py t).canLay0 = true ∧ (py t).depth ≤ n) : ∀ ts : List T, ts.all (kT n) = true → plns ts = true ∧ PyData.canLayAll0 (pys ts) = true ∧ PyData.depthAll (pys ts) ≤ n
  | [], _ => ⟨rfl, rfl, Nat.zero_le _⟩
  | t :: ts, h => by
    rw [List.all_cons, Bool.and_eq_true] at h
    obtain ⟨a1, a2, a3⟩ := ih t h.1
    obtain ⟨b1, b2, b3⟩ := kT_all ih ts h.2
    unfold plns pys PyData.canLayAll0 PyData.depthAll
    rw [a1, b1, a2, b2]
    exact ⟨rfl, rfl, Nat.max_le.mpr ⟨a3, b3⟩⟩
theorem kT_pl : ∀ (n : Nat) (t : T), kT n t = true → pln t = true ∧ (py t).canLay0 = true ∧ (py t).depth ≤ n
  | 0, t, h => by
    obtain ⟨a, b, c⟩ := kfl (t := t) (by unfold kT at h; exact h)
    exact ⟨a, b, Nat.le_of_eq c⟩
  | n + 1, t, h => by
    have fl : fkT t = true → pln t = true ∧ (py t).canLay0 = true ∧ (py t).depth ≤ n + 1 := fun h => by
      obtain ⟨a, b, c⟩ := kfl h
      exact ⟨a, b, by omega⟩
    cases t with
    | lst ts =>
      obtain ⟨a, b, c⟩ := kT_all (kT_pl n) ts (by unfold kT at h; exact h)
      unfold pln py PyData.canLay0 PyData.depth
      exact ⟨a, b, by omega⟩
    | tup ts =>
      obtain ⟨a, b, c⟩ := kT_all (kT_pl n) ts (by unfold kT at h; exact h)
      unfold pln py PyData.canLay0 PyData.depth
      exact ⟨a, b, by omega⟩
    | scr ns =>
      unfold pln py PyData.canLay0 PyData.depth
      rw [canLay_ints, depth_ints]
      exact ⟨rfl, rfl, by omega⟩
    | non => exact fl rfl
    | bl b => exact fl rfl
    | int b => exact fl rfl
    | str x => exact fl (by unfold kT at h; exact h)
    | dic x => unfold kT at h; cases h
    | dit x => unfold kT at h; cases h
    | exc c x => unfold kT at h; cases h
    | ob x => unfold kT at h; cases h
theorem kT_ok {n : Nat} {t : T} (h : kT n t = true) (hn : n ≤ 60) : okE t = true := by
  obtain ⟨a, b, c⟩ := kT_pl n t h
  unfold okE SeqAt.shaped
  rw [a, b]
  simp
  omega
theorem eqG_same {n : Nat} {f : Bool → Bool} {t : T} (h : kT n t = true) (hn : n ≤ 60) : eqG f t t = some (.bl (f true)) := by
  obtain ⟨a, b, c⟩ := kT_pl n t h
  cases t with
  | str x => show some (T.bl (f (decide (x = x)))) = _; rw [decide_eq_true rfl]
  | _ => 
    unfold eqG
    dsimp only
    rw [if_pos ⟨kT_ok h hn, kT_ok h hn⟩, SeqAt.eqv_refl _ b]
theorem eqT_same {t : T} (h : kT 12 t = true) : eqT t t = some (.bl true) := eqG_same h (by decide)
theorem neT_same {t : T} (h : kT 12 t = true) : neT t t = some (.bl false) := eqG_same h (by decide)
@[simp] theorem kT_eO {n : Nat} {x : Option Int} : kT n (eO x) = true := by cases n <;> cases x <;> rfl
@[simp] theorem kT_int {n : Nat} : kT n (.int i) = true := by cases n <;> rfl
@[simp] theorem kT_bl {n : Nat} : kT n (.bl o) = true := by cases n <;> rfl
@[simp] theorem kT_non {n : Nat} : kT n .non = true := by cases n <;> rfl
@[simp] theorem kT_lst {n : Nat} : kT (n + 1) (.lst ts) = ts.all (kT n) := by rw [kT]
@[simp] theorem kT_tup {n : Nat} : kT (n + 1) (.tup ts) = ts.all (kT n) := by rw [kT]
@[simp] theorem kT_scr {n : Nat} : kT (n + 1) (.scr ns) = true := by rw [kT]
theorem okE_eO {x : Option Int} : okE (eO x) = true := kT_ok (n := 0) (by simp) (by decide)
theorem eqv_eO (x y : Option Int) : PyData.eqv (py (eO x)) (py (eO y)) = decide (x = y) := by
  cases x <;> cases y <;> simp [eO, py, PyData.eqv]
  rename_i a b
  by_cases h : a = b <;> simp [h]
theorem eqG_eO {f : Bool → Bool} (x y : Option Int) : eqG f (eO x) (eO y) = some (.bl (f (decide (x = y)))) := by
  have : eqG f (eO x) (eO y) = if okE (eO x) = true ∧ okE (eO y) = true then some (.bl (f (PyData.eqv (py (eO x)) (py (eO y))))) else none := by
    cases x <;> cases y <;> rfl
  rw [this, if_pos ⟨okE_eO, okE_eO⟩, eqv_eO]
@[simp] theorem eqT_eO (x y : Option Int) : eqT (eO x) (eO y) = some (.bl (decide (x = y))) := eqG_eO x y
@[simp] theorem neT_eO (x y : Option Int) : neT (eO x) (eO y) = some (.bl (!decide (x = y))) := eqG_eO x y
@[simp] theorem eqT_eOi (x : Option Int) : eqT (eO x) (.int i) = some (.bl (decide (x = some i))) := eqG_eO x (some i)
@[simp] theorem neT_eOi (x : Option Int) : neT (eO x) (.int i) = some (.bl (!decide (x = some i))) := eqG_eO x (some i)
@[simp] theorem eqT_ieO (x : Option Int) : eqT (.int i) (eO x) = some (.bl (decide (some i = x))) := eqG_eO (some i) x
@[simp] theorem neT_ieO (x : Option Int) : neT (.int i) (eO x) = some (.bl (!decide (some i = x))) := eqG_eO (some i) x
theorem eqG_int {f : Bool → Bool} : eqG f (.int i) (.int j) = some (.bl (f (decide (i = j)))) := by
  have := eqG_eO (f := f) (some i) (some j)
  simpa using this
@[simp] theorem eqT_int : eqT (.int i) (.int j) = some (.bl (decide (i = j))) := eqG_int
@[simp] theorem neT_int : neT (.int i) (.int j) = some (.bl (!decide (i = j))) := eqG_int
theorem eqG_bl {f : Bool → Bool} {p q : Bool} : eqG f (.bl p) (.bl q) = some (.bl (f (decide (p = q)))) := by
  show (if okE (.bl p) = true ∧ okE (.bl q) = true then some (T.bl (f (PyData.eqv (py (.bl p)) (py (.bl q))))) else none) = _
  rw [if_pos ⟨kT_ok (n := 0) rfl (by decide), kT_ok (n := 0) rfl (by decide)⟩]
  cases p <;> cases q <;> rfl
@[simp] theorem eqT_bl {p q : Bool} : eqT (.bl p) (.bl q) = some (.bl (decide (p = q))) := eqG_bl
@[simp] theorem neT_bl {p q : Bool} : neT (.bl p) (.bl q) = some (.bl (!decide (p = q))) := eqG_bl
@[simp] theorem eqT_str {x y : Str} : eqT (.str x) (.str y) = some (.bl (decide (x = y))) := Eq.trans rfl rfl
@[simp] theorem neT_str {x y : Str} : neT (.str x) (.str y) = some (.bl (!decide (x = y))) := Eq.trans rfl rfl
theorem eqG_nil {f : Bool → Bool} (h : ts.all (kT 8) = true) : eqG f (.lst ts) (.lst []) = some (.bl (f ts.isEmpty)) := by
  show (if okE (.lst ts) = true ∧ okE (.lst []) = true then some (T.bl (f (PyData.eqv (py (.lst ts)) (py (.lst []))))) else none) = _
  rw [if_pos ⟨kT_ok (n := 9) (by rw [kT_lst]; exact h) (by decide), kT_ok (n := 1) rfl (by decide)⟩]
  cases ts <;> rfl
theorem eqT_nil (h : ts.all (kT 8) = true) : eqT (.lst ts) (.lst []) = some (.bl ts.isEmpty) := eqG_nil h
theorem neT_nil (h : ts.all (kT 8) = true) : neT (.lst ts) (.lst []) = some (.bl (!ts.isEmpty)) := eqG_nil h
theorem eqvAll_eO : ∀ xs ys : List (Option Int), PyData.eqvAll (pys (xs.map eO)) (pys (ys.map eO)) = decide (xs = ys)
  | [], [] => rfl
  | [], _ :: _ => rfl
  | _ :: _, [] => rfl
  | x :: xs, y :: ys => by
    show (PyData.eqv (py (eO x)) (py (eO y)) && PyData.eqvAll (pys (xs.map eO)) (pys (ys.map eO))) = _
    rw [eqv_eO, eqvAll_eO xs ys]
    by_cases h : x = y <;> simp [h]
theorem eqG_eOs {f : Bool → Bool} (xs ys : List (Option Int)) : eqG f (.lst (xs.map eO)) (.lst (ys.map eO)) = some (.bl (f (decide (xs = ys)))) := by
  have k : ∀ zs : List (Option Int), okE (.lst (zs.map eO)) = true := fun zs => kT_ok (n := 1) (by simp) (by decide)
  show (if okE (.lst (xs.map eO)) = true ∧ okE (.lst (ys.map eO)) = true then some (T.bl (f (PyData.eqvAll (pys (xs.map eO)) (pys (ys.map eO))))) else none) = _
  rw [if_pos ⟨k xs, k ys⟩, eqvAll_eO]
@[simp] theorem eqT_eOs (xs ys : List (Option Int)) : eqT (.lst (xs.map eO)) (.lst (ys.map eO)) = some (.bl (decide (xs = ys))) := eqG_eOs xs ys
@[simp] theorem neT_eOs (xs ys : List (Option Int)) : neT (.lst (xs.map eO)) (.lst (ys.map eO)) = some (.bl (!decide (xs = ys))) := eqG_eOs xs ys
theorem ints_eO (xs : List Int) : xs.map T.int = (xs.map some).map eO := by simp [List.map_map, Function.comp_def]
theorem eqG_ints {f : Bool → Bool} (xs ys : List Int) : eqG f (.lst (xs.map .int)) (.lst (ys.map .int)) = some (.bl (f (decide (xs = ys)))) := by
  rw [ints_eO, ints_eO, eqG_eOs]
  have e : decide (xs.map some = ys.map some) = decide (xs = ys) := by
    by_cases h : xs = ys
    · simp [h]
    · rw [decide_eq_false h, decide_eq_false fun z => h ?_]
      have := congrArg (List.filterMap id) z
      simpa [List.filterMap_map] using this
  rw [e]
@[simp] theorem eqT_ints (xs ys : List Int) : eqT (.lst (xs.map .int)) (.lst (ys.map .int)) = some (.bl (decide (xs = ys))) := eqG_ints xs ys
@[simp] theorem neT_ints (xs ys : List Int) : neT (.lst (xs.map .int)) (.lst (ys.map .int)) = some (.bl (!decide (xs = ys))) := eqG_ints xs ys
end
/-! loops as folds -/
section
variable {g : T → Lo → Option Lo} {body : Lo → Fl} {ts : List T} {ev e : Lo}
def turn (g : T → Lo → Option Lo) (body : Lo → Fl) (t : T) (ev : Lo) : Fl := match g t ev with
  | some e => body e
  | none => .bad
def tOpt (body : Lo → Fl) : Option Lo → Fl
  | some e => body e
  | none => .bad
@[simp] theorem turn_ap {t : T} : turn g body t ev = tOpt body (g t ev) := by unfold turn tOpt; rfl
@[simp] theorem tOpt_some : tOpt body (some e) = body e := Eq.trans rfl rfl
theorem forL_nil : forL g body [] ev = .nx ev := rfl
theorem forL_cons {t : T} : forL g body (t :: ts) ev = match turn g body t ev with
    | .nx e => forL g body ts e
    | .ct e => forL g body ts e
    | .bk e => .nx e
    | r => r := by
  show (match g t ev with
    | none => Fl.bad
    | some e => match body e with
      | .nx e' => forL g body ts e'
      | .ct e' => forL g body ts e'
      | .bk e' => .nx e'
      | r => r) = _
  unfold turn
  cases g t ev with
  | none => rfl
  | some e => rfl
/-- nothing changes, turn by turn -/
theorem forL_same (h : ∀ t ∈ ts, turn g body t ev = .nx ev) : forL g body ts ev = .nx ev := by
  induction ts with
  | nil => rfl
  | cons t ts ih =>
    rw [forL_cons, h t (by simp)]
    exact ih fun u hu => h u (by simp [hu])
variable {α σ ρ : Type}
/-- a state, turn by turn -/
theorem forL_fold (enc : α → T) (E : σ → Lo) (step : σ → α → σ) (I : σ → Prop) {xs : List α} {s0 : σ} (h0 : I s0) (h : ∀ s x, I s → x ∈ xs → I (step s x) ∧ turn g body (enc x) (E s) = .nx (E (step s x))) :
    forL g body (xs.map enc) (E s0) = .nx (E (xs.foldl step s0)) ∧ I (xs.foldl step s0) := by
  induction xs generalizing s0 with
  | nil => exact ⟨rfl, h0⟩
  | cons x xs ih =>
    obtain ⟨h1, h2⟩ := h s0 x h0 (by simp)
    rw [List.map_cons, forL_cons, h2]
    exact ih h1 fun s y hs hy => h s y hs (by simp [hy])
theorem forL_fold' (enc : α → T) (E : σ → Lo) (step : σ → α → σ) {xs : List α} {s0 : σ} (h : ∀ s x, x ∈ xs → turn g body (enc x) (E s) = .nx (E (step s x))) :
    forL g body (xs.map enc) (E s0) = .nx (E (xs.foldl step s0)) := (forL_fold enc E step (fun _ => True) trivial fun s x _ hx => ⟨trivial, h s x hx⟩).1
/-- over a range, by the turn's number -/
theorem forL_foldN (enc : Nat → T) (E : σ → Lo) (step : σ → Nat → σ) (I : Nat → σ → Prop) {n : Nat} {s0 : σ} (h0 : I 0 s0) (h : ∀ k s, I k s → k < n → I (k + 1) (step s k) ∧ turn g body (enc k) (E s) = .nx (E (step s k))) :
    forL g body ((List.range n).map enc) (E s0) = .nx (E ((List.range n).foldl step s0)) ∧ I n ((List.range n).foldl step s0) := by
  have key : ∀ k, k ≤ n → I k ((List.range k).foldl step s0) := fun k => by
    induction k with
    | zero => exact fun _ => h0
    | succ k ih => intro hk; rw [List.range_succ, List.foldl_append]; exact (h k _ (ih (by omega)) (by omega)).1
  have go : ∀ m k, k + m = n → forL g body (((List.range n).drop k).map enc) (E ((List.range k).foldl step s0)) = .nx (E ((List.range n).foldl step s0)) := fun m => by
    induction m with
    | zero => intro k e; have : k = n := by omega
              subst this; rw [List.drop_of_length_le (by simp)]; rfl
    | succ m ih =>
      intro k e
      rw [List.drop_eq_getElem_cons (by simp; omega), List.map_cons, forL_cons]
      have eg : (List.range n)[k]'(by simp; omega) = k := by simp
      rw [eg, (h k _ (key k (by omega)) (by omega)).2]
      have := ih (k + 1) (by omega)
      rw [List.range_succ, List.foldl_append] at this
      exact this
  have := go n 0 (by omega)
  rw [List.drop_zero] at this
  exact ⟨this, key n (Nat.le_refl _)⟩
/-- a list that grows by one thing a turn -/
theorem forL_app (enc : α → T) (E : List T → Lo) (f : α → T) {xs : List α} (h : ∀ x us, x ∈ xs → us.length < xs.length → turn g body (enc x) (E us) = .nx (E (us ++ [f x]))) :
    forL g body (xs.map enc) (E []) = .nx (E (xs.map f)) := by
  have key : ∀ (ys : List α) (us : List T), (∀ y ∈ ys, y ∈ xs) → us.length + ys.length = xs.length → forL g body (ys.map enc) (E us) = .nx (E (us ++ ys.map f)) := fun ys => by
    induction ys with
    | nil => intro us _ _; rw [List.map_nil, List.map_nil, List.append_nil]; rfl
    | cons y ys ih =>
      intro us hm hl
      rw [List.length_cons] at hl
      rw [List.map_cons, forL_cons, h y us (hm y (by simp)) (by omega)]
      have := ih (us ++ [f y]) (fun z hz => hm z (by simp [hz])) (by simp; omega)
      simp only [this, List.map_cons, List.append_assoc]; rfl
  have := key xs [] (fun _ h => h) (by simp)
  simpa using this
/-- a state or an answer -/
def runL (step : σ → α → σ ⊕ ρ) : List α → σ → σ ⊕ ρ
  | [], s => .inl s
  | x :: xs, s => match step s x with
    | .inl s' => runL step xs s'
    | .inr r => .inr r
theorem forL_run (enc : α → T) (E : σ → Lo) (ret : ρ → T) (step : σ → α → σ ⊕ ρ) (I : σ → Prop) {xs : List α} {s0 : σ} (h0 : I s0)
    (h : ∀ s x, I s → x ∈ xs → (∃ s', step s x = .inl s' ∧ I s' ∧ turn g body (enc x) (E s) = .nx (E s')) ∨ ∃ r, step s x = .inr r ∧ turn g body (enc x) (E s) = .rt (ret r)) :
    (∃ s', runL step xs s0 = .inl s' ∧ I s' ∧ forL g body (xs.map enc) (E s0) = .nx (E s')) ∨ ∃ r, runL step xs s0 = .inr r ∧ forL g body (xs.map enc) (E s0) = .rt (ret r) := by
  induction xs generalizing s0 with
  | nil => exact .inl ⟨s0, rfl, h0, rfl⟩
  | cons x xs ih =>
    rw [List.map_cons, forL_cons]
    unfold runL
    rcases h s0 x h0 (by simp) with ⟨s', e1, e2, e3⟩ | ⟨r, e1, e2⟩
    · rw [e1, e3]
      exact ih e2 fun s y hs hy => h s y hs (by simp [hy])
    · rw [e1, e2]
      exact .inr ⟨r, rfl, rfl⟩
/-- a search -/
theorem forL_all (enc : α → T) (p : α → Bool) {xs : List α} {r : T} (h : ∀ x ∈ xs, turn g body (enc x) ev = if p x = true then .nx ev else .rt r) :
    forL g body (xs.map enc) ev = if xs.all p = true then .nx ev else .rt r := by
  induction xs with
  | nil => rfl
  | cons x xs ih =>
    rw [List.map_cons, forL_cons, h x (by simp)]
    cases e : p x with
    | false => simp [e]
    | true => simp only [if_true]; rw [ih fun y hy => h y (by simp [hy]), List.all_cons, e]; simp
theorem whileL_step {c : Lo → R Bool} {n : Nat} : whileL c body (n + 1) ev = match c ev with
    | .ok true => (match body ev with
      | .nx e' => whileL c body n e'
      | .ct e' => whileL c body n e'
      | .bk e' => .nx e'
      | r => r)
    | .ok false => .nx ev
    | .ex x fs => .ex x fs ev
    | .bad => .bad := by
  show (c ev).fl ev _ = _
  cases c ev with
  | ok b => cases b <;> rfl
  | ex x fs => rfl
  | bad => rfl
/-- while: a state and a measure -/
theorem whileL_go {c : Lo → R Bool} (E : σ → Lo) (Q : Fl → Prop) (I : σ → Prop) (μ : σ → Nat)
    (h : ∀ s, I s → (c (E s) = .ok false ∧ Q (.nx (E s))) ∨ (c (E s) = .ok true ∧ ((∃ s', I s' ∧ μ s' < μ s ∧ body (E s) = .nx (E s')) ∨ (∃ t, body (E s) = .rt t ∧ Q (.rt t)) ∨ ∃ e, body (E s) = .bk e ∧ Q (.nx e)))) :
    ∀ (n : Nat) (s : σ), I s → μ s < n → Q (whileL c body n (E s))
  | 0, _, _, hn => absurd hn (by omega)
  | n + 1, s, hs, hn => by
    rw [whileL_step]
    rcases h s hs with ⟨e1, q⟩ | ⟨e1, ⟨s', i', lt, e2⟩ | ⟨t, e2, q⟩ | ⟨e', e2, q⟩⟩
    · rw [e1]; exact q
    · rw [e1]; simp only [e2]
      exact whileL_go E Q I μ h n s' i' (by omega)
    · rw [e1]; simp only [e2]; exact q
    · rw [e1]; simp only [e2]; exact q
@[simp] theorem ap_sWhile {c : Lo → R Bool} {n : Nat} : sWhile n c body ev = whileL c body n ev := Eq.trans rfl rfl
/-! comprehensions -/
variable {c : Lo → R Bool} {de : Lo → R T} {vs : List Nat} {di : Lo → R (List T)}
def cturn (g : T → Lo → Option Lo) (c : Lo → R Bool) (de : Lo → R T) (ev : Lo) (t : T) : R (Option T) := match g t ev with
  | none => .bad
  | some e => match c e with
    | .ok true => (match de e with
      | .ok u => .ok (some u)
      | _ => .bad)
    | .ok false => .ok none
    | _ => .bad
def cT2 : R T → R (Option T)
  | .ok u => .ok (some u)
  | _ => .bad
def cT1 (de : Lo → R T) (e : Lo) : R Bool → R (Option T)
  | .ok true => cT2 (de e)
  | .ok false => .ok none
  | _ => .bad
def cT0 (c : Lo → R Bool) (de : Lo → R T) : Option Lo → R (Option T)
  | none => .bad
  | some e => cT1 de e (c e)
theorem cturn_ap {t : T} : cturn g c de ev t = cT0 c de (g t ev) := by
  unfold cturn cT0
  cases g t ev with
  | none => rfl
  | some e =>
    dsimp only
    unfold cT1 cT2
    cases c e with
    | bad => rfl
    | ex _ _ => rfl
    | ok b => cases b with
      | false => rfl
      | true => cases de e <;> rfl
@[simp] theorem cT0_some : cT0 c de (some e) = cT1 de e (c e) := Eq.trans rfl rfl
@[simp] theorem cT1_t : cT1 de e (.ok true) = cT2 (de e) := Eq.trans rfl rfl
@[simp] theorem cT1_f : cT1 de e (.ok false) = .ok none := Eq.trans rfl rfl
@[simp] theorem cT2_ok {u : T} : cT2 (.ok u) = .ok (some u) := Eq.trans rfl rfl
theorem compL_fm (enc : α → T) (f : α → Option T) {xs : List α} (h : ∀ x ∈ xs, cturn g c de ev (enc x) = .ok (f x)) : compL g c de ev (xs.map enc) = .ok (xs.filterMap f) := by
  induction xs with
  | nil => rfl
  | cons x xs ih =>
    have h1 := h x (by simp)
    have h2 := ih fun y hy => h y (by simp [hy])
    rw [List.map_cons]
    unfold compL
    unfold cturn at h1
    cases e1 : g (enc x) ev with
    | none => rw [e1] at h1; cases h1
    | some e =>
      rw [e1] at h1
      dsimp only at h1 ⊢
      cases e2 : c e with
      | bad => rw [e2] at h1; cases h1
      | ex _ _ => rw [e2] at h1; cases h1
      | ok b =>
        rw [e2] at h1
        cases b with
        | false =>
          dsimp only at h1 ⊢
          rw [h2, List.filterMap_cons]
          cases h1' : f x with
          | none => rfl
          | some u => rw [h1'] at h1; cases h1
        | true =>
          dsimp only at h1 ⊢
          cases e3 : de e with
          | bad => rw [e3] at h1; cases h1
          | ex _ _ => rw [e3] at h1; cases h1
          | ok u =>
            rw [e3] at h1
            dsimp only at h1 ⊢
            rw [h2, List.filterMap_cons]
            cases h1' : f x with
            | none => rw [h1'] at h1; cases h1
            | some u' => rw [h1'] at h1; cases h1; rfl
theorem compL_map (enc f : α → T) {xs : List α} (h : ∀ x ∈ xs, cturn g c de ev (enc x) = .ok (some (f x))) : compL g c de ev (xs.map enc) = .ok (xs.map f) := by
  rw [compL_fm enc (fun x => some (f x)) h, List.filterMap_eq_map']
theorem compL_flt (enc f : α → T) (p : α → Bool) {xs : List α} (h : ∀ x ∈ xs, cturn g c de ev (enc x) = .ok (if p x = true then some (f x) else none)) : compL g c de ev (xs.map enc) = .ok ((xs.filter p).map f) := by
  rw [compL_fm enc (fun x => if p x = true then some (f x) else none) h]
  congr 1
  clear h
  induction xs with
  | nil => rfl
  | cons x xs ih =>
    rw [List.filterMap_cons, List.filter_cons]
    cases p x with
    | true => simp [ih]
    | false => simp [ih]
def cmb : R (Option T) → R (List T) → R (List T)
  | .ok (some u), .ok us => .ok (u :: us)
  | .ok none, r => r
  | _, _ => .bad
theorem cmb_s {u : T} {us : List T} : cmb (.ok (some u)) (.ok us) = .ok (u :: us) := Eq.trans rfl rfl
theorem cmb_n {r : R (List T)} : cmb (.ok none) r = r := Eq.trans rfl rfl
/-- over written lists -/
theorem compL_nil : compL g c de ev [] = .ok [] := Eq.trans rfl rfl
theorem compL_c1 {t u : T} {us : List T} (h : cturn g c de ev t = .ok (some u)) (k : compL g c de ev ts = .ok us) : compL g c de ev (t :: ts) = .ok (u :: us) := by
  unfold compL
  unfold cturn at h
  cases e1 : g t ev with
  | none => rw [e1] at h; cases h
  | some e =>
    rw [e1] at h
    dsimp only at h ⊢
    cases e2 : c e with
    | bad => rw [e2] at h; cases h
    | ex _ _ => rw [e2] at h; cases h
    | ok b =>
      rw [e2] at h
      cases b with
      | false => cases h
      | true =>
        dsimp only at h ⊢
        cases e3 : de e with
        | bad => rw [e3] at h; cases h
        | ex _ _ => rw [e3] at h; cases h
        | ok u' => rw [e3] at h; cases h; rw [k]
def apCo (g : T → Lo → Option Lo) (c : Lo → R Bool) (de : Lo → R T) (ev : Lo) : R (List T) → R T
  | .ok ts => (match compL g c de ev ts with
    | .ok us => if us.length ≤ sizeLine then .ok (.lst us) else .bad
    | _ => .bad)
  | .ex x fs => .ex x fs
  | .bad => .bad
@[simp] theorem ap_dComp : dComp vs di g c de ev = apCo g c de (wipeL vs ev) (di ev) := by unfold dComp apCo; cases di ev <;> rfl
def fitL : R (List T) → R T
  | .ok us => if us.length ≤ sizeLine then .ok (.lst us) else .bad
  | _ => .bad
@[simp] theorem apCo_ok : apCo g c de ev (.ok ts) = fitL (compL g c de ev ts) := by
  show (match compL g c de ev ts with
    | .ok us => if us.length ≤ sizeLine then R.ok (T.lst us) else .bad
    | _ => .bad) = _
  cases compL g c de ev ts <;> rfl
@[simp] theorem fitL_ap {us : List T} : fitL (.ok us) = if us.length ≤ sizeLine then .ok (.lst us) else .bad := Eq.trans rfl rfl
theorem fitL_ok {us : List T} (h : us.length ≤ 100000) : fitL (.ok us) = .ok (.lst us) := if_pos (Nat.le_trans h (by decide))
@[simp] theorem ap_dYes : dYes ev = .ok true := Eq.trans rfl rfl
/-! what is walked, as written lists -/
theorem enumL_map (enc : α → T) (xs : List α) : enumL (xs.map enc) = xs.zipIdx.map fun p => T.tup [.int p.2, enc p.1] := by
  unfold enumL
  rw [List.zipIdx_map, List.map_map]; rfl
theorem zip_map (enc : α → T) (enc' : σ → T) (xs : List α) (ys : List σ) : ((xs.map enc).zip (ys.map enc')).map (fun p => T.tup [p.1, p.2]) = (xs.zip ys).map fun p => T.tup [enc p.1, enc' p.2] := by
  rw [List.zip_map, List.map_map]; rfl
end
end DL

set_option maxHeartbeats 2000000
/-! what the laws draw -/
namespace DL
open PySem PySem.Spec PyProof.Rows L2
theorem log_lt {n k : Nat} (h : n < 2 ^ k) (hk : 0 < k) : n.log2 < k := by
  by_cases e : n = 0
  · subst e; simpa using hk
  · exact (Nat.log2_lt e).mpr h
@[simp] theorem mulT_ok {a b : Int} (h : -(1000000000000000000000000000000000000000000000000000000000000000000000000000000000000000000) < a ∧ a < 1000000000000000000000000000000000000000000000000000000000000000000000000000000000000000000 ∧ -(1000000000000000000000000000000000000000000000000000000000000000000000000000000000000000000) < b ∧ b < 1000000000000000000000000000000000000000000000000000000000000000000000000000000000000000000) : mulT (.int a) (.int b) = some (.int (a * b)) := by
  have h1 : a.natAbs.log2 < 300 := log_lt (Nat.lt_of_lt_of_le (m := 1000000000000000000000000000000000000000000000000000000000000000000000000000000000000000000) (by omega) (by decide +kernel)) (by decide)
  have h2 : b.natAbs.log2 < 300 := log_lt (Nat.lt_of_lt_of_le (m := 1000000000000000000000000000000000000000000000000000000000000000000000000000000000000000000) (by omega) (by decide +kernel)) (by decide)
  rw [mulT_int, if_pos (by omega)]
@[simp] theorem divT_ok {a b : Int} (h : 0 < b ∧ b < 1000000000000000000000000000000000000000000000000000000000000000000000000000000000000000000) : divT (.int a) (.int b) = some (.int (a / b)) := by
  have h2 : b.natAbs.log2 < 300 := log_lt (Nat.lt_of_lt_of_le (m := 1000000000000000000000000000000000000000000000000000000000000000000000000000000000000000000) (by omega) (by decide +kernel)) (by decide)
  rw [divT_int, if_pos ⟨h.1, by omega⟩]
@[simp] theorem modT_ok {a b : Int} (h : 0 < b) : modT (.int a) (.int b) = some (.int (a % b)) := by rw [modT_int, if_pos h]
@[simp] theorem powT_ok {a b : Int} (h : 0 ≤ b ∧ b ≤ 1000000 ∧ -18446744073709551616 < a ∧ a < 18446744073709551616) : powT (.int a) (.int b) = some (.int (a ^ b.toNat)) := by
  rw [powT_int, if_pos ⟨h.1, h.2.1, by omega⟩]
@[simp] theorem rng1_ok {a : Int} (h : -1000000000 ≤ a ∧ a ≤ 1000000000) : rng1 (.int a) = some (rngT a.toNat) := by rw [rng1_int, if_pos (by omega)]
@[simp] theorem rng2_ok {a b : Int} (h : -1000000000 ≤ a ∧ a ≤ 1000000000 ∧ -1000000000 ≤ b ∧ b ≤ 1000000000) : rng2 [.int a, .int b] = some (rngF a (b - a).toNat) := by rw [rng2_int, if_pos (by omega)]
@[simp] theorem mulT_lk {ts : List T} {k : Int} (h : -1000000000 ≤ k ∧ k ≤ 1000000000) (hl : ts.length * k.toNat ≤ 10000) : mulT (.lst ts) (.int k) = some (.lst (List.replicate k.toNat ts).flatten) := by rw [mulT_lst, if_pos ⟨by omega, by omega, Nat.le_trans hl (by decide)⟩]
theorem size_le {n : Nat} (h : n ≤ 100000) : n ≤ sizeLine := Nat.le_trans h (by decide)
theorem size_lt {n : Nat} (h : n ≤ 100000) : n < sizeLine := Nat.lt_of_le_of_lt h (by decide)
@[simp] theorem size_leE {n : Nat} (h : n ≤ 100000) : (n ≤ sizeLine) = True := eq_true (size_le h)
@[simp] theorem size_ltE {n : Nat} (h : n ≤ 100000) : (n < sizeLine) = True := eq_true (size_lt h)
theorem ints_at {ds : List Int} {i : Nat} (h : i < ds.length) : (ds.map T.int)[i]? = some (T.int (ds.getD i 0)) := by
  rw [List.getElem?_map, List.getD_eq_getElem?_getD, List.getElem?_eq_getElem h]; rfl
theorem range_at {α : Type} (f : Nat → α) {n i : Nat} (h : i < n) : ((List.range n).map f)[i]? = some (f i) := by
  rw [List.getElem?_map, List.getElem?_range h]; rfl
theorem rngT_eq (n : Nat) : rngT n = (List.range n).map fun (i : Nat) => T.int (i : Int) := rfl
theorem rngF_eq (a : Int) (n : Nat) : rngF a n = (List.range n).map fun (i : Nat) => T.int (a + (i : Int)) := rfl
end DL
namespace Pg
open PySem L2 DL
def rnd (n s : Int) (i : Nat) : Int := (((n % 2147483629 + 7919 * s + 1) ^ 3 % 2147483647 + 104729 * ((i : Int) + 1)) * ((i : Int) + 3) % 2147483629) ^ 5 % 2147483647 * 48271 % 2147483629 / 16
def drawStep (zs : List Int) (n s : Int) (st : Int × List Int) (i : Nat) : Int × List Int :=
  if 1000000000000000000 ≤ n ∧ 0 < st.1 then (st.1 / zs.getD i 1, st.2 ++ [st.1 % zs.getD i 1]) else (st.1, st.2 ++ [rnd n s i % zs.getD i 1])
def cellN (c : Int) : Int := if -1 - c > c then -1 - c else c
def drawn (c s : Int) (zs : List Int) : List Int := ((List.range zs.length).foldl (drawStep zs (cellN c) s) (cellN c, [])).2
theorem drawn_step {c s : Int} {zs : List Int} (hz : ∀ z ∈ zs, 0 < z) : ∀ k, k ≤ zs.length → ∃ left ds, (List.range k).foldl (drawStep zs (cellN c) s) (cellN c, []) = (left, ds) ∧ ds.length = k ∧ ∀ i (h : i < ds.length) (h2 : i < zs.length), 0 ≤ ds[i] ∧ ds[i] < zs[i]
  | 0, _ => ⟨_, _, rfl, rfl, fun i h => by simp at h⟩
  | k + 1, hk => by
    obtain ⟨left, ds, e, hl, hb⟩ := drawn_step (c := c) (s := s) hz k (by omega)
    rw [List.range_succ, List.foldl_append, e]
    have hz' := hz zs[k] (List.getElem_mem (by omega))
    have eg : zs.getD k 1 = zs[k] := by rw [List.getD_eq_getElem?_getD, List.getElem?_eq_getElem (by omega)]; rfl
    have app : ∀ d : Int, 0 ≤ d → d < zs[k] → ∀ i (h : i < (ds ++ [d]).length) (h2 : i < zs.length), 0 ≤ (ds ++ [d])[i] ∧ (ds ++ [d])[i] < zs[i] := fun d d1 d2 i h h2 => by
      by_cases hi : i < ds.length
      · rw [List.getElem_append_left hi]; exact hb i hi h2
      · have : i = k := by simp at h; omega
        subst this
        rw [List.getElem_append_right (by omega)]
        simp [hl]; exact ⟨d1, d2⟩
    show ∃ left' ds', drawStep zs (cellN c) s (left, ds) k = (left', ds') ∧ _
    unfold drawStep
    rw [eg]
    split
    · exact ⟨_, _, rfl, by simp [hl], app _ (Int.emod_nonneg _ (by omega)) (Int.emod_lt_of_pos _ hz')⟩
    · exact ⟨_, _, rfl, by simp [hl], app _ (Int.emod_nonneg _ (by omega)) (Int.emod_lt_of_pos _ hz')⟩
theorem drawn_len {c s : Int} {zs : List Int} (hz : ∀ z ∈ zs, 0 < z) : (drawn c s zs).length = zs.length := by
  obtain ⟨left, ds, e, hl, hb⟩ := drawn_step (c := c) (s := s) hz zs.length (Nat.le_refl _)
  unfold drawn; rw [e]; exact hl
theorem drawn_lt {c s : Int} {zs : List Int} (hz : ∀ z ∈ zs, 0 < z) {i : Nat} (h : i < (drawn c s zs).length) (h2 : i < zs.length) : 0 ≤ (drawn c s zs)[i] ∧ (drawn c s zs)[i] < zs[i] := by
  obtain ⟨left, ds, e, hl, hb⟩ := drawn_step (c := c) (s := s) hz zs.length (Nat.le_refl _)
  have e2 : drawn c s zs = ds := by unfold drawn; rw [e]
  have h' : i < ds.length := by rw [← e2]; exact h
  have := hb i h' h2
  simp only [e2]
  exact this
theorem drawn_at {c s : Int} {zs : List Int} (hz : ∀ z ∈ zs, 0 < z) (i : Nat) (h : i < zs.length) : 0 ≤ (drawn c s zs).getD i 0 ∧ (drawn c s zs).getD i 0 < zs.getD i 0 := by
  have hl := drawn_len (c := c) (s := s) hz
  have := drawn_lt (c := c) (s := s) hz (i := i) (by omega) h
  rw [List.getD_eq_getElem?_getD, List.getD_eq_getElem?_getD, List.getElem?_eq_getElem (by omega), List.getElem?_eq_getElem h]
  exact this
theorem numbers_eq (c s : Int) (zs : List Int) (hs : -1000000 ≤ s ∧ s ≤ 1000000) (hz : ∀ z ∈ zs, 0 < z ∧ z < 1000000000000000000000000000000000000000000000000000000000000000000000000000000000000000000) (hl : zs.length ≤ 1000) :
    dn__law_numbers [.int c, .int s, .lst (zs.map .int)] = .ok (.lst ((drawn c s zs).map .int)) := by
  have hz1 : ∀ z ∈ zs, 0 < z := fun z h => (hz z h).1
  rw [eq__law_numbers]
  unfold b__law_numbers
  simp (disch := omega)
  have e1 : (if c < -1 - c then -1 - c else c) = cellN c := by unfold cellN; rfl
  rw [e1, rngT_eq]
  have F := forL_foldN (g := gNm 6) (body := b__law_numbers_p1) (fun (i : Nat) => T.int (i : Int)) (fun st : Int × List Int => [some (.int c, false), some (.int s, false), some (.lst (zs.map .int), false), some (.int (cellN c), false), some (.int st.1, false), some (.lst (st.2.map .int), true), none, none])
    (drawStep zs (cellN c) s) (fun k st => st.2.length = k) (n := zs.length) (s0 := (cellN c, [])) rfl fun k st hst hk => ?_
  · have F1 := F.1
    simp only [List.map_nil] at F1
    rw [F1]
    simp [drawn]
  · obtain ⟨left, ds⟩ := st
    have hst : ds.length = k := hst
    have hz' := hz zs[k] (List.getElem_mem hk)
    have eg : zs.getD k 1 = zs[k] := by rw [List.getD_eq_getElem?_getD, List.getElem?_eq_getElem (by omega)]; rfl
    have ei : (zs.map T.int)[k]? = some (T.int zs[k]) := by rw [List.getElem?_map, List.getElem?_eq_getElem hk]; rfl
    have hsz : ds.length < sizeLine := size_lt (by omega)
    unfold drawStep b__law_numbers_p1
    rw [eg]
    generalize zs[k] = z at *
    clear hz hz1
    by_cases hc : (1000000000000000000 : Int) ≤ cellN c
    · by_cases hc2 : 0 < left
      · simp (disch := omega) [ei, hc, hc2, hst]
      · simp (disch := omega) [ei, hc, hc2, hst, rnd]
    · simp (disch := omega) [ei, hc, hst, rnd]
end Pg

/-! mathematics of rows of least costs, plain -/
namespace BK
def oadd : Option Int → Option Int → Option Int
  | some a, some b => some (a + b)
  | _, _ => none
def omin : Option Int → Option Int → Option Int
  | none, b => b
  | a, none => a
  | some a, some b => some (if b < a then b else a)
/-- no more than; none is above all -/
def Le (a b : Option Int) : Prop := ∀ y, b = some y → ∃ x, a = some x ∧ x ≤ y
theorem Le.refl (a : Option Int) : Le a a := fun y h => ⟨y, h, Int.le_refl _⟩
theorem Le.trans {a b c : Option Int} (h : Le a b) (k : Le b c) : Le a c := fun y e => by
  obtain ⟨x, e1, h1⟩ := k y e
  obtain ⟨z, e2, h2⟩ := h x e1
  exact ⟨z, e2, by omega⟩
theorem Le.nn (a : Option Int) : Le a Option.none := fun y h => by cases h
theorem Le.sm {a b : Int} (h : a ≤ b) : Le (some a) (some b) := fun y e => by cases e; exact ⟨a, rfl, h⟩
theorem Le.of_some {a b : Int} (h : Le (some a) (some b)) : a ≤ b := by
  obtain ⟨x, e, h⟩ := h b rfl
  cases e; exact h
theorem Le.antisymm {a b : Option Int} (h : Le a b) (k : Le b a) : a = b := by
  cases a with
  | none =>
    cases b with
    | none => rfl
    | some y => obtain ⟨x, e, _⟩ := h y rfl; cases e
  | some x =>
    cases b with
    | none => obtain ⟨y, e, _⟩ := k x rfl; cases e
    | some y => exact congrArg _ (Int.le_antisymm h.of_some k.of_some)
theorem le_none {a : Option Int} (h : Le .none a) : a = .none := by
  cases a with
  | none => rfl
  | some y => obtain ⟨x, e, _⟩ := h y rfl; cases e
theorem omin_le1 (a b : Option Int) : Le (omin a b) a := fun y e => by
  subst e
  cases b with
  | none => exact ⟨y, rfl, Int.le_refl _⟩
  | some z => refine ⟨if z < y then z else y, rfl, ?_⟩; split <;> omega
theorem omin_le2 (a b : Option Int) : Le (omin a b) b := fun y e => by
  subst e
  cases a with
  | none => exact ⟨y, rfl, Int.le_refl _⟩
  | some z => refine ⟨if y < z then y else z, rfl, ?_⟩; split <;> omega
theorem le_omin {a b c : Option Int} (h : Le c a) (k : Le c b) : Le c (omin a b) := fun y e => by
  cases a with
  | none => exact k y e
  | some x =>
    cases b with
    | none => exact h y e
    | some z =>
      have e : some (if z < x then z else x) = some y := e
      cases e
      split
      · exact k z rfl
      · exact h x rfl
theorem omin_or (a b : Option Int) : omin a b = a ∨ omin a b = b := by
  cases a with
  | none => exact .inr rfl
  | some x =>
    cases b with
    | none => exact .inl rfl
    | some z =>
      show some (if z < x then z else x) = some x ∨ some (if z < x then z else x) = some z
      split
      · exact .inr rfl
      · exact .inl rfl
theorem oadd_le {a b c d : Option Int} (h : Le a b) (k : Le c d) : Le (oadd a c) (oadd b d) := fun y e => by
  cases b with
  | none => cases e
  | some p =>
    cases d with
    | none => cases e
    | some q =>
      cases e
      obtain ⟨x, e1, h1⟩ := h p rfl
      obtain ⟨z, e2, h2⟩ := k q rfl
      subst e1 e2
      exact ⟨x + z, rfl, by omega⟩
theorem oadd_none (a : Option Int) : oadd a none = none := by cases a <;> rfl
theorem none_oadd (a : Option Int) : oadd none a = none := rfl
theorem oadd_assoc (a b c : Option Int) : oadd (oadd a b) c = oadd a (oadd b c) := by
  cases a with
  | none => rfl
  | some x => cases b with
    | none => rfl
    | some y => cases c with
      | none => rfl
      | some z => exact congrArg some (Int.add_assoc x y z)
theorem oadd_comm (a b : Option Int) : oadd a b = oadd b a := by
  cases a with
  | none => exact (oadd_none b).symm
  | some x => cases b with
    | none => rfl
    | some y => exact congrArg some (Int.add_comm x y)
theorem oadd_zero (a : Option Int) : oadd a (some 0) = a := by
  cases a with
  | none => rfl
  | some x => exact congrArg some (Int.add_zero x)
theorem zero_oadd (a : Option Int) : oadd (some 0) a = a := by rw [oadd_comm, oadd_zero]
/-- sums over days from a to a + n -/
def osum (f : Nat → Option Int) (a : Nat) : Nat → Option Int
  | 0 => some 0
  | n + 1 => oadd (osum f a n) (f (a + n))
theorem osum_le {f g : Nat → Option Int} {a : Nat} : ∀ {n : Nat}, (∀ i, a ≤ i → i < a + n → Le (f i) (g i)) → Le (osum f a n) (osum g a n)
  | 0, _ => Le.refl _
  | n + 1, h => oadd_le (osum_le fun i h1 h2 => h i h1 (by omega)) (h (a + n) (by omega) (by omega))
theorem osum_congr {f g : Nat → Option Int} {a : Nat} : ∀ {n : Nat}, (∀ i, a ≤ i → i < a + n → f i = g i) → osum f a n = osum g a n
  | 0, _ => rfl
  | n + 1, h => by
    show oadd _ _ = oadd _ _
    rw [osum_congr fun i h1 h2 => h i h1 (by omega), h (a + n) (by omega) (by omega)]
theorem osum_add (f : Nat → Option Int) (a m : Nat) : ∀ n, osum f a (m + n) = oadd (osum f a m) (osum f (a + m) n)
  | 0 => by rw [Nat.add_zero]; exact (oadd_zero _).symm
  | n + 1 => by
    show oadd (osum f a (m + n)) (f (a + (m + n))) = oadd _ (oadd (osum f (a + m) n) (f (a + m + n)))
    rw [osum_add f a m n, oadd_assoc, Nat.add_assoc]

/-! ### the row of least costs -/
section
variable (L : Nat → Int) (z : Nat → Bool) (c : Nat → Nat → Option Int)
/-- rows and the best of a day that is lit: of i days that may be lit, of j wants -/
def Tb (R : Nat → Option Int) (i : Nat) : Nat → Option Int
  | 0 => none
  | j + 1 => oadd (omin (Tb R i j) (R j)) (c i j)
def R0 : Nat → Option Int
  | 0 => some 0
  | j + 1 => if z j = true then R0 j else none
def Rw : Nat → Nat → Option Int
  | 0 => R0 z
  | i + 1 => fun j => omin (Rw i j) (oadd (Tb c (Rw i) i j) (some (L i)))
/-- what a set of lit days of the first i costs -/
def mn (S : Nat → Bool) : Nat → Nat → Option Int
  | 0, v => if z v = true then some 0 else none
  | i + 1, v => if S i = true then omin (mn S i v) (c i v) else mn S i v
def lt (S : Nat → Bool) : Nat → Int
  | 0 => 0
  | i + 1 => lt S i + if S i = true then L i else 0
def sc (S : Nat → Bool) (i j : Nat) : Option Int := oadd (some (lt L S i)) (osum (mn z c S i) 0 j)
/-- what is not wanted costs nothing; where a later day is no dearer for a want, it is so for each later want -/
structure Dom : Prop where
  free : ∀ i v, z v = true → c i v = some 0
  dom : ∀ s i v v', s < i → v < v' → z v = false → c i v ≠ none → Le (c i v) (c s v) → Le (c i v') (c s v')
variable {L z c}
theorem T_le {R : Nat → Option Int} {i k : Nat} : ∀ {n : Nat}, 0 < n → Le (Tb c R i (k + n)) (oadd (R k) (osum (c i) k n))
  | 0, h => absurd h (by omega)
  | 1, _ => by
    show Le (oadd (omin (Tb c R i k) (R k)) (c i k)) (oadd (R k) (oadd (some 0) (c i (k + 0))))
    rw [zero_oadd]
    exact oadd_le (omin_le2 _ _) (Le.refl _)
  | n + 2, _ => by
    show Le (oadd (omin (Tb c R i (k + (n + 1))) (R (k + (n + 1)))) (c i (k + (n + 1)))) (oadd (R k) (oadd (osum (c i) k (n + 1)) (c i (k + (n + 1)))))
    rw [← oadd_assoc]
    exact oadd_le ((omin_le1 _ _).trans (T_le (by omega))) (Le.refl _)
theorem T_is {R : Nat → Option Int} {i : Nat} : ∀ {j : Nat}, Tb c R i j = none ∨ ∃ k n, j = k + n ∧ 0 < n ∧ Tb c R i j = oadd (R k) (osum (c i) k n)
  | 0 => .inl rfl
  | j + 1 => by
    show oadd (omin (Tb c R i j) (R j)) (c i j) = none ∨ _
    rcases omin_or (Tb c R i j) (R j) with h | h
    · rcases T_is (R := R) (i := i) (j := j) with h2 | ⟨k, n, e, hn, h2⟩
      · left; rw [h, h2]; rfl
      · right
        refine ⟨k, n + 1, by omega, by omega, ?_⟩
        show oadd (omin (Tb c R i j) (R j)) (c i j) = oadd (R k) (oadd (osum (c i) k n) (c i (k + n)))
        rw [h, h2, oadd_assoc, e]
    · right
      refine ⟨j, 1, rfl, by omega, ?_⟩
      show oadd (omin (Tb c R i j) (R j)) (c i j) = oadd (R j) (oadd (some 0) (c i (j + 0)))
      rw [h, zero_oadd]; rfl
theorem mn_free (D : Dom z c) {S : Nat → Bool} {v : Nat} (h : z v = true) : ∀ i, mn z c S i v = some 0
  | 0 => if_pos h
  | i + 1 => by
    show (if S i = true then omin (mn z c S i v) (c i v) else mn z c S i v) = some 0
    rw [mn_free D h i, D.free i v h]
    split <;> rfl
theorem le_mn {S : Nat → Bool} {v i : Nat} {a : Option Int} (hz : z v = false) : ∀ {n : Nat}, n ≤ i → (∀ s, s < n → S s = true → Le a (c s v)) → Le a (mn z c S n v)
  | 0, _, _ => by
    show Le a (if z v = true then some 0 else none)
    rw [hz]; exact Le.nn _
  | n + 1, hn, h => by
    have ih := le_mn (S := S) (i := i) (a := a) hz (n := n) (by omega) fun s h1 h2 => h s (by omega) h2
    show Le a (if S n = true then omin (mn z c S n v) (c n v) else mn z c S n v)
    split
    · rename_i hs; exact le_omin ih (h n (by omega) hs)
    · exact ih
theorem mn_le {S : Nat → Bool} {v s : Nat} (hs : S s = true) : ∀ {i : Nat}, s < i → Le (mn z c S i v) (c s v)
  | 0, h => by omega
  | i + 1, h => by
    show Le (if S i = true then omin (mn z c S i v) (c i v) else mn z c S i v) _
    by_cases e : s = i
    · subst e; rw [if_pos hs]; exact omin_le2 _ _
    · have ih := mn_le (v := v) hs (i := i) (by omega)
      split
      · exact (omin_le1 _ _).trans ih
      · exact ih
theorem lt_nonneg (hL : ∀ i, 0 ≤ L i) {S : Nat → Bool} : ∀ i, 0 ≤ lt L S i
  | 0 => Int.le_refl _
  | i + 1 => by
    have := lt_nonneg hL (S := S) i
    have := hL i
    show 0 ≤ lt L S i + if S i = true then L i else 0
    split <;> omega
theorem R0_is : ∀ j, R0 z j = osum (fun v => if z v = true then some 0 else none) 0 j
  | 0 => rfl
  | j + 1 => by
    show (if z j = true then R0 z j else none) = oadd (osum _ 0 j) (if z (0 + j) = true then some 0 else none)
    rw [← R0_is j, Nat.zero_add]
    split
    · exact (oadd_zero _).symm
    · exact (oadd_none _).symm
/-- no set of lit days costs less than the row tells -/
theorem Rw_le (D : Dom z c) (hL : ∀ i, 0 ≤ L i) (S : Nat → Bool) : ∀ i j, Le (Rw L z c i j) (sc L z c S i j)
  | 0, j => by
    show Le (R0 z j) (oadd (some 0) (osum (fun v => if z v = true then some 0 else none) 0 j))
    rw [zero_oadd, R0_is]; exact Le.refl _
  | i + 1, j => by
    show Le (omin (Rw L z c i j) (oadd (Tb c (Rw L z c i) i j) (some (L i)))) (sc L z c S (i + 1) j)
    by_cases hS : S i = true
    · have hl : lt L S (i + 1) = lt L S i + L i := by show lt L S i + (if S i = true then L i else 0) = _; rw [if_pos hS]
      have hm : ∀ v, mn z c S (i + 1) v = omin (mn z c S i v) (c i v) := fun v => by
        show (if S i = true then omin (mn z c S i v) (c i v) else mn z c S i v) = _; rw [if_pos hS]
      -- the first want for which day i is the best
      have key : (∀ v, v < j → mn z c S (i + 1) v = mn z c S i v) ∨ ∃ k, k < j ∧ (∀ v, v < k → mn z c S (i + 1) v = mn z c S i v) ∧ ∀ v, k ≤ v → Le (c i v) (mn z c S (i + 1) v) := by
        have step : ∀ n, n ≤ j → (∀ v, v < n → mn z c S (i + 1) v = mn z c S i v) ∨ ∃ k, k < n ∧ (∀ v, v < k → mn z c S (i + 1) v = mn z c S i v) ∧ ∀ v, k ≤ v → Le (c i v) (mn z c S (i + 1) v) := fun n => by
          induction n with
          | zero => exact fun _ => .inl fun v h => by omega
          | succ n ih =>
            intro hn
            rcases ih (by omega) with h | ⟨k, h1, h2⟩
            · by_cases he : mn z c S (i + 1) n = mn z c S i n
              · exact .inl fun v hv => by
                  by_cases e : v = n
                  · rw [e]; exact he
                  · exact h v (by omega)
              · refine .inr ⟨n, by omega, h, fun v hv => ?_⟩
                have hz : z n = false := by
                  cases e : z n with
                  | false => rfl
                  | true => rw [mn_free D e, mn_free D e] at he; exact absurd rfl he
                have e1 : mn z c S (i + 1) n = c i n := by
                  rcases omin_or (mn z c S i n) (c i n) with q | q
                  · rw [hm, q] at he; exact absurd rfl he
                  · rw [hm, q]
                have hn0 : c i n ≠ none := fun q => he (by rw [hm, q]; cases mn z c S i n <;> rfl)
                have hle : Le (c i n) (mn z c S i n) := by rw [← e1, hm]; exact omin_le1 _ _
                have hz2 : z v = true ∨ z v = false := by cases z v <;> simp
                rcases hz2 with hz2 | hz2
                · rw [mn_free D hz2, D.free i v hz2]; exact Le.refl _
                · rw [hm]
                  refine le_omin (le_mn hz2 (Nat.le_refl i) fun s hs hSs => ?_) (Le.refl _)
                  by_cases e : n = v
                  · subst e; exact hle.trans (mn_le hSs hs)
                  · exact D.dom s i n v hs (by omega) hz hn0 (hle.trans (mn_le hSs hs))
            · exact .inr ⟨k, by omega, h2⟩
        exact step j (Nat.le_refl _)
      rcases key with h | ⟨k, hk, h1, h2⟩
      · refine (omin_le1 _ _).trans ((Rw_le D hL S i j).trans ?_)
        unfold sc
        rw [hl, osum_congr (f := mn z c S (i + 1)) (g := mn z c S i) fun v _ hv => h v (by omega)]
        exact oadd_le (Le.sm (by have := hL i; omega)) (Le.refl _)
      · refine (omin_le2 _ _).trans ?_
        have ej : j = k + (j - k) := by omega
        have e3 : osum (mn z c S (i + 1)) 0 j = oadd (osum (mn z c S (i + 1)) 0 k) (osum (mn z c S (i + 1)) k (j - k)) := by
          conv => lhs; rw [ej]
          rw [osum_add, Nat.zero_add]
        have e4 : sc L z c S (i + 1) j = oadd (oadd (oadd (some (lt L S i)) (osum (mn z c S i) 0 k)) (osum (mn z c S (i + 1)) k (j - k))) (some (L i)) := by
          unfold sc
          rw [hl, e3, osum_congr (f := mn z c S (i + 1)) (g := mn z c S i) fun v _ hv => h1 v (by omega)]
          have : some (lt L S i + L i) = oadd (some (lt L S i)) (some (L i)) := rfl
          rw [this, oadd_assoc (some (lt L S i)), oadd_comm (some (L i)), oadd_assoc (some (lt L S i)) (osum _ _ _), oadd_assoc (some (lt L S i))]
        rw [e4]
        refine oadd_le ?_ (Le.refl _)
        have hT : Le (Tb c (Rw L z c i) i j) (oadd (Rw L z c i k) (osum (c i) k (j - k))) := by
          conv => lhs; rw [ej]
          exact T_le (by omega)
        exact hT.trans (oadd_le (Rw_le D hL S i k) (osum_le fun v hv _ => h2 v hv))
    · have hl : lt L S (i + 1) = lt L S i := by show lt L S i + (if S i = true then L i else 0) = _; rw [if_neg hS]; omega
      have hm : ∀ v, mn z c S (i + 1) v = mn z c S i v := fun v => by
        show (if S i = true then omin (mn z c S i v) (c i v) else mn z c S i v) = _; rw [if_neg hS]
      refine (omin_le1 _ _).trans ((Rw_le D hL S i j).trans ?_)
      unfold sc
      rw [hl, osum_congr (f := mn z c S (i + 1)) (g := mn z c S i) fun v _ _ => hm v]
      exact Le.refl _
theorem mn_congr {S S' : Nat → Bool} {v : Nat} : ∀ {i : Nat}, (∀ s, s < i → S s = S' s) → mn z c S i v = mn z c S' i v
  | 0, _ => rfl
  | i + 1, h => by
    show (if S i = true then omin (mn z c S i v) (c i v) else mn z c S i v) = if S' i = true then omin (mn z c S' i v) (c i v) else mn z c S' i v
    rw [h i (by omega), mn_congr fun s hs => h s (by omega)]
theorem lt_congr {S S' : Nat → Bool} : ∀ {i : Nat}, (∀ s, s < i → S s = S' s) → lt L S i = lt L S' i
  | 0, _ => rfl
  | i + 1, h => by
    show lt L S i + (if S i = true then L i else 0) = lt L S' i + if S' i = true then L i else 0
    rw [h i (by omega), lt_congr fun s hs => h s (by omega)]
/-- some set of lit days costs just that -/
theorem Rw_is (D : Dom z c) : ∀ i j, ∃ S : Nat → Bool, Le (sc L z c S i j) (Rw L z c i j)
  | 0, j => ⟨fun _ => false, by
    show Le (oadd (some 0) (osum (fun v => if z v = true then some 0 else none) 0 j)) (R0 z j)
    rw [zero_oadd, R0_is]; exact Le.refl _⟩
  | i + 1, j => by
    show ∃ S : Nat → Bool, Le (sc L z c S (i + 1) j) (omin (Rw L z c i j) (oadd (Tb c (Rw L z c i) i j) (some (L i))))
    rcases omin_or (Rw L z c i j) (oadd (Tb c (Rw L z c i) i j) (some (L i))) with h | h
    · obtain ⟨S, hS⟩ := Rw_is D i j
      refine ⟨fun s => S s && decide (s < i), ?_⟩
      rw [h]
      refine Le.trans ?_ hS
      have hs : ∀ s, s < i → (S s && decide (s < i)) = S s := fun s hs => by simp [hs]
      have hl : lt L (fun s => S s && decide (s < i)) (i + 1) = lt L S i := by
        show lt L _ i + (if (S i && decide (i < i)) = true then L i else 0) = _
        rw [lt_congr hs]; simp
      have hm : ∀ v, mn z c (fun s => S s && decide (s < i)) (i + 1) v = mn z c S i v := fun v => by
        show (if (S i && decide (i < i)) = true then _ else mn z c _ i v) = _
        rw [mn_congr hs]; simp
      unfold sc
      rw [hl, osum_congr (g := mn z c S i) fun v _ _ => hm v]
      exact Le.refl _
    · rw [h]
      rcases T_is (c := c) (R := Rw L z c i) (i := i) (j := j) with h2 | ⟨k, n, ej, hn, h2⟩
      · exact ⟨fun _ => false, by rw [h2]; exact Le.nn _⟩
      · obtain ⟨S, hS⟩ := Rw_is D i k
        refine ⟨fun s => S s || decide (s = i), ?_⟩
        rw [h2]
        have hs : ∀ s, s < i → (S s || decide (s = i)) = S s := fun s hs => by
          have : ¬ s = i := by omega
          simp [this]
        have hl : lt L (fun s => S s || decide (s = i)) (i + 1) = lt L S i + L i := by
          show lt L _ i + (if (S i || decide (i = i)) = true then L i else 0) = _
          rw [lt_congr hs]; simp
        have hm : ∀ v, mn z c (fun s => S s || decide (s = i)) (i + 1) v = omin (mn z c S i v) (c i v) := fun v => by
          show (if (S i || decide (i = i)) = true then omin (mn z c _ i v) (c i v) else mn z c _ i v) = _
          rw [mn_congr hs]; simp
        subst ej
        unfold sc at hS ⊢
        rw [hl, osum_add, Nat.zero_add]
        have e5 : oadd (oadd (Rw L z c i k) (osum (c i) k n)) (some (L i)) = oadd (some (L i)) (oadd (Rw L z c i k) (osum (c i) k n)) := oadd_comm _ _
        have e6 : ∀ a b : Option Int, oadd (some (lt L S i + L i)) (oadd a b) = oadd (some (L i)) (oadd (oadd (some (lt L S i)) a) b) := fun a b => by
          have : some (lt L S i + L i) = oadd (some (L i)) (some (lt L S i)) := congrArg some (Int.add_comm _ _)
          rw [this, oadd_assoc, oadd_assoc]
        rw [e5, e6]
        refine oadd_le (Le.refl _) (oadd_le ((oadd_le (Le.refl _) (osum_le fun v _ _ => ?_)).trans hS) (osum_le fun v _ _ => ?_))
        · rw [hm]; exact omin_le1 _ _
        · rw [hm]; exact omin_le2 _ _
/-- one more lit day, for a stretch -/
theorem Rw_ext (D : Dom z c) (hL : ∀ i, 0 ≤ L i) {n b f m : Nat} (hb : b < n) : Le (Rw L z c n (f + m)) (oadd (oadd (Rw L z c n f) (some (L b))) (osum (c b) f m)) := by
  obtain ⟨S, hS⟩ := Rw_is (L := L) D n f
  let S' : Nat → Bool := fun s => S s || decide (s = b)
  refine (Rw_le D hL S' n (f + m)).trans ?_
  have hl : ∀ i, lt L S' i ≤ lt L S i + if b < i then L b else 0 := fun i => by
    induction i with
    | zero => show (0 : Int) ≤ 0 + if b < 0 then L b else 0; simp
    | succ i ih =>
      show lt L S' i + (if S' i = true then L i else 0) ≤ lt L S i + (if S i = true then L i else 0) + if b < i + 1 then L b else 0
      have := hL i
      have := hL b
      by_cases e : i = b
      · subst e
        have h1 : S' i = true := by simp [S']
        rw [if_pos h1, if_pos (Nat.lt_succ_self _)]
        rw [if_neg (Nat.lt_irrefl _)] at ih
        split <;> omega
      · have h1 : S' i = S i := by simp [S', e]
        rw [h1]
        by_cases h2 : b < i
        · rw [if_pos h2] at ih; rw [if_pos (show b < i + 1 by omega)]; omega
        · rw [if_neg h2] at ih; rw [if_neg (show ¬ b < i + 1 by omega)]; omega
  have hl' := hl n
  rw [if_pos hb] at hl'
  have hm : ∀ i v, Le (mn z c S' i v) (mn z c S i v) := fun i v => by
    induction i with
    | zero => exact Le.refl _
    | succ i ih =>
      show Le (if S' i = true then omin (mn z c S' i v) (c i v) else mn z c S' i v) (if S i = true then omin (mn z c S i v) (c i v) else mn z c S i v)
      by_cases h1 : S i = true
      · have h2 : S' i = true := by simp [S', h1]
        rw [if_pos h1, if_pos h2]
        exact le_omin ((omin_le1 _ _).trans ih) (omin_le2 _ _)
      · rw [if_neg h1]
        split
        · exact (omin_le1 _ _).trans ih
        · exact ih
  have hSb : S' b = true := by simp [S']
  unfold sc at hS ⊢
  rw [osum_add, Nat.zero_add, ← oadd_assoc]
  refine oadd_le ?_ (osum_le fun v _ _ => mn_le hSb hb)
  have : Le (oadd (some (lt L S' n)) (osum (mn z c S' n) 0 f)) (oadd (some (lt L S n + L b)) (osum (mn z c S n) 0 f)) := oadd_le (Le.sm hl') (osum_le fun v _ _ => hm n v)
  refine this.trans ?_
  have e : some (lt L S n + L b) = oadd (some (L b)) (some (lt L S n)) := congrArg some (Int.add_comm _ _)
  rw [e, oadd_assoc, oadd_comm]
  exact oadd_le hS (Le.refl _)
end
end BK

namespace BK
structure Day where
  want : Int
  loaf : Int
  keep : Int
  fine : Option Int
structure Good where
  days : List Day
  life : Option Int
instance : Inhabited Day := ⟨⟨0, 0, 0, none⟩⟩
def Day.ok (d : Day) : Prop := 0 ≤ d.want ∧ d.want ≤ 1000000000 ∧ 0 ≤ d.loaf ∧ d.loaf ≤ 1000000000 ∧ 0 ≤ d.keep ∧ d.keep ≤ 1000000000 ∧ ∀ f, d.fine = some f → 0 ≤ f ∧ f ≤ 1000000000
def Good.ok (g : Good) (n : Nat) : Prop := g.days.length = n ∧ (∀ d ∈ g.days, d.ok) ∧ ∀ l, g.life = some l → 0 ≤ l ∧ l ≤ 40
def slice {α : Type} (xs : List α) (a b : Nat) : List α := (xs.drop a).take (b - a)
/-- the sum of a list's numbers, none where one is none -/
def osumL (xs : List (Option Int)) : Option Int := if none ∈ xs then none else some (xs.map fun x => x.getD 0).sum
def Good.keeps (g : Good) (b v : Nat) : Int := ((slice g.days b v).map Day.keep).sum
def Good.fines (g : Good) (b v : Nat) : Option Int := osumL ((slice g.days v b).map Day.fine)
/-- whether so many nights are more than a life -/
def longB (life : Option Int) (x : Int) : Bool := match life with
  | none => false
  | some l => decide (l < x)
def Good.nights (g : Good) (b v : Nat) : Option Int :=
  if b ≤ v then (if longB g.life ((v : Int) - b) = true then none else some (g.keeps b v)) else g.fines b v
def Good.day (g : Good) (i : Nat) : Day := g.days.getD i default
def Good.price (g : Good) (b v : Nat) : Option Int := (g.nights b v).map fun n => (g.day b).loaf + n
/-- what a day's want costs, baked on a day -/
def Good.cost (g : Good) (b v : Nat) : Option Int := if (g.day v).want = 0 then some 0 else (g.price b v).map fun p => (g.day v).want * p
def pre (f : Day → Int) (xs : List Day) (i : Nat) : Int := ((xs.take i).map f).sum
theorem slice_sum (f : Day → Int) (xs : List Day) {a b : Nat} (h : a ≤ b) : ((slice xs a b).map f).sum = pre f xs b - pre f xs a := by
  unfold slice pre
  have e : b = a + (b - a) := by omega
  have e2 : xs.take b = xs.take a ++ (xs.drop a).take (b - a) := by
    conv => lhs; rw [e]
    exact List.take_add
  rw [e2, List.map_append, List.sum_append]
  omega
theorem slice_mem {xs : List Day} {a b : Nat} {d : Day} : d ∈ slice xs a b ↔ ∃ i, a ≤ i ∧ i < b ∧ xs[i]? = some d := by
  unfold slice
  rw [List.mem_iff_getElem?]
  constructor
  · rintro ⟨i, h⟩
    rw [List.getElem?_take] at h
    by_cases hi : i < b - a
    · rw [if_pos hi, List.getElem?_drop] at h
      exact ⟨a + i, by omega, by omega, h⟩
    · rw [if_neg hi] at h; cases h
  · rintro ⟨i, h1, h2, h3⟩
    refine ⟨i - a, ?_⟩
    rw [List.getElem?_take, if_pos (by omega), List.getElem?_drop]
    have e : a + (i - a) = i := by omega
    rw [e]; exact h3
theorem sum_nonneg {xs : List Int} (h : ∀ x ∈ xs, 0 ≤ x) : 0 ≤ xs.sum := by
  induction xs with
  | nil => exact Int.le_refl _
  | cons x xs ih =>
    rw [List.sum_cons]
    have := h x (by simp)
    have := ih fun y hy => h y (by simp [hy])
    omega
theorem pre_mono {f : Day → Int} {xs : List Day} (hf : ∀ d ∈ xs, 0 ≤ f d) {a b : Nat} (h : a ≤ b) : pre f xs a ≤ pre f xs b := by
  have e := slice_sum f xs h
  have : 0 ≤ ((slice xs a b).map f).sum := sum_nonneg fun x hx => by
    obtain ⟨d, h1, h2⟩ := List.mem_map.mp hx
    subst h2
    exact hf d (List.mem_of_mem_drop (List.mem_of_mem_take h1))
  omega
def Good.pres (g : Good) (v b : Nat) : Prop := ∀ i d, v ≤ i → i < b → g.days[i]? = some d → d.fine ≠ none
theorem fines_eq (g : Good) {b v : Nat} (h : v ≤ b) : (g.pres v b → g.fines b v = some (pre (fun d => d.fine.getD 0) g.days b - pre (fun d => d.fine.getD 0) g.days v)) ∧ (¬ g.pres v b → g.fines b v = none) := by
  unfold Good.fines osumL
  have key : none ∈ (slice g.days v b).map Day.fine ↔ ¬ g.pres v b := by
    constructor
    · intro hm hp
      obtain ⟨d, h1, h2⟩ := List.mem_map.mp hm
      obtain ⟨i, q1, q2, q3⟩ := slice_mem.mp h1
      exact hp i d q1 q2 q3 h2
    · intro hp
      apply Classical.byContradiction
      intro hm
      refine hp fun i d q1 q2 q3 e => hm (List.mem_map.mpr ⟨d, slice_mem.mpr ⟨i, q1, q2, q3⟩, e⟩)
  constructor
  · intro hp
    rw [if_neg (fun z => (key.mp z) hp), ← slice_sum _ _ h, List.map_map]
    rfl
  · intro hp
    rw [if_pos (key.mpr hp)]
/-- a price by sums of nights -/
inductive Good.Pr (g : Good) (b v : Nat) : Option Int → Prop
  | ahead (h : b ≤ v) (hl : ∀ l, g.life = some l → (v : Int) - b ≤ l) : Good.Pr g b v (some ((g.day b).loaf + (pre Day.keep g.days v - pre Day.keep g.days b)))
  | old (h : b ≤ v) (l : Int) (hl : g.life = some l) (hx : l < (v : Int) - b) : Good.Pr g b v none
  | late (h : v < b) (hp : g.pres v b) : Good.Pr g b v (some ((g.day b).loaf + (pre (fun d => d.fine.getD 0) g.days b - pre (fun d => d.fine.getD 0) g.days v)))
  | never (h : v < b) (hp : ¬ g.pres v b) : Good.Pr g b v none
theorem price_pr (g : Good) (b v : Nat) : g.Pr b v (g.price b v) := by
  unfold Good.price Good.nights
  by_cases h : b ≤ v
  · rw [if_pos h]
    have e : g.keeps b v = pre Day.keep g.days v - pre Day.keep g.days b := slice_sum _ _ h
    cases hl : g.life with
    | none =>
      rw [if_neg (by simp [longB]), e]
      exact .ahead h fun l e2 => by rw [hl] at e2; cases e2
    | some l =>
      by_cases hx : l < (v : Int) - b
      · rw [if_pos (by simp [longB, hx])]
        exact .old h l hl hx
      · rw [if_neg (by simp [longB, hx]), e]
        exact .ahead h fun l2 e2 => by rw [hl] at e2; cases e2; omega
  · rw [if_neg h]
    by_cases hp : g.pres v b
    · rw [(fines_eq g (by omega)).1 hp]
      exact .late (by omega) hp
    · rw [(fines_eq g (by omega)).2 hp]
      exact .never (by omega) hp
theorem pres_sub {g : Good} {v b v' b' : Nat} (h : g.pres v b) (h1 : v ≤ v') (h2 : b' ≤ b) : g.pres v' b' := fun i d q1 q2 q3 => h i d (by omega) (by omega) q3
/-- loaves exchanged between two days have prices, and come to no more -/
theorem crossing {g : Good} {n : Nat} (ok : g.ok n) {b1 b2 v1 v2 : Nat} (hb : b1 < b2) (hv : v1 < v2) {x y : Int} (hx : g.price b1 v2 = some x) (hy : g.price b2 v1 = some y) :
    ∃ x' y', g.price b1 v1 = some x' ∧ g.price b2 v2 = some y' ∧ x' + y' ≤ x + y := by
  have mk : ∀ {a b : Nat}, a ≤ b → pre Day.keep g.days a ≤ pre Day.keep g.days b := fun h => pre_mono (fun d hd => (ok.2.1 d hd).2.2.2.2.1) h
  have mf : ∀ {a b : Nat}, a ≤ b → pre (fun d => d.fine.getD 0) g.days a ≤ pre (fun d => d.fine.getD 0) g.days b := fun h => pre_mono (fun d hd => by
    cases e : d.fine with
    | none => show (0 : Int) ≤ (none : Option Int).getD 0; exact Int.le_refl _
    | some f => exact ((ok.2.1 d hd).2.2.2.2.2.2 f e).1) h
  have p12 := price_pr g b1 v2
  have p21 := price_pr g b2 v1
  have p11 := price_pr g b1 v1
  have p22 := price_pr g b2 v2
  rw [hx] at p12
  rw [hy] at p21
  generalize e11 : g.price b1 v1 = o11 at p11 ⊢
  generalize e22 : g.price b2 v2 = o22 at p22 ⊢
  cases p12 with
  | ahead h12 l12 =>
    cases p21 with
    | ahead h21 l21 =>
      cases p11 with
      | ahead h11 l11 =>
        cases p22 with
        | ahead h22 l22 => exact ⟨_, _, rfl, rfl, by omega⟩
        | old h22 l hl hlx => have := l12 l hl; omega
        | late h22 q22 => omega
        | never h22 q22 => omega
      | old h11 l hl hlx => have := l12 l hl; omega
      | late h11 q11 => omega
      | never h11 q11 => omega
    | late h21 q21 =>
      have k0 := mk (a := b1) (b := v2) h12
      have f0 := mf (a := v1) (b := b2) (by omega)
      cases p11 with
      | ahead h11 l11 =>
        have k1 := mk (a := b1) (b := v1) h11
        have k2 := mk (a := v1) (b := v2) (by omega)
        cases p22 with
        | ahead h22 l22 =>
          have k3 := mk (a := v1) (b := b2) (by omega)
          have k4 := mk (a := b2) (b := v2) h22
          exact ⟨_, _, rfl, rfl, by omega⟩
        | old h22 l hl hlx => have := l12 l hl; omega
        | late h22 q22 =>
          have f1 := mf (a := v1) (b := v2) (by omega)
          have f2 := mf (a := v2) (b := b2) (by omega)
          exact ⟨_, _, rfl, rfl, by omega⟩
        | never h22 q22 => exact absurd (pres_sub q21 (by omega) (by omega)) q22
      | old h11 l hl hlx => have := l12 l hl; omega
      | late h11 q11 =>
        have f1 := mf (a := v1) (b := b1) (by omega)
        have f2 := mf (a := b1) (b := b2) (by omega)
        cases p22 with
        | ahead h22 l22 =>
          have k3 := mk (a := b1) (b := b2) (by omega)
          have k4 := mk (a := b2) (b := v2) h22
          exact ⟨_, _, rfl, rfl, by omega⟩
        | old h22 l hl hlx => have := l12 l hl; omega
        | late h22 q22 =>
          have f3 := mf (a := b1) (b := v2) (by omega)
          exact ⟨_, _, rfl, rfl, by omega⟩
        | never h22 q22 => exact absurd (pres_sub q21 (by omega) (by omega)) q22
      | never h11 q11 => exact absurd (pres_sub q21 (by omega) (by omega)) q11
  | late h12 q12 =>
    cases p21 with
    | ahead h21 l21 => omega
    | late h21 q21 =>
      cases p11 with
      | ahead h11 l11 => omega
      | old h11 l hl hlx => omega
      | late h11 q11 =>
        cases p22 with
        | ahead h22 l22 => omega
        | old h22 l hl hlx => omega
        | late h22 q22 => exact ⟨_, _, rfl, rfl, by omega⟩
        | never h22 q22 => exact absurd (pres_sub q21 (by omega) (by omega)) q22
      | never h11 q11 => exact absurd (pres_sub q21 (by omega) (by omega)) q11
theorem want_nonneg {g : Good} {n : Nat} (ok : g.ok n) (i : Nat) : 0 ≤ (g.day i).want := by
  unfold Good.day
  rw [List.getD_eq_getElem?_getD]
  cases e : g.days[i]? with
  | none => exact Int.le_refl _
  | some d => exact (ok.2.1 d (List.mem_of_getElem? e)).1
/-- days without a want -/
def Good.zw (g : Good) (i : Nat) : Bool := decide ((g.day i).want = 0)
theorem cost_dom {g : Good} {n : Nat} (ok : g.ok n) : Dom g.zw g.cost where
  free := fun i v h => by
    unfold Good.zw at h
    unfold Good.cost
    rw [if_pos (of_decide_eq_true h)]
  dom := fun s i v v' hs hv hz hc hle => by
    have w0 : 0 < (g.day v).want := by
      have := want_nonneg ok v
      unfold Good.zw at hz
      have := of_decide_eq_false hz
      omega
    unfold Good.cost at hc hle ⊢
    rw [if_neg (by omega)] at hc hle
    rw [if_neg (by omega)] at hle
    by_cases h0 : (g.day v').want = 0
    · rw [if_pos h0, if_pos h0]; exact Le.refl _
    · rw [if_neg h0, if_neg h0]
      have w1 : 0 < (g.day v').want := by
        have := want_nonneg ok v'
        omega
      intro y e
      obtain ⟨q, hq, eq⟩ := Option.map_eq_some_iff.mp e
      cases hr : g.price i v with
      | none => rw [hr] at hc; exact absurd rfl hc
      | some r =>
        obtain ⟨x', y', h1, h2, h3⟩ := crossing ok hs hv hq hr
        rw [hr, h1] at hle
        have h4 : (g.day v).want * r ≤ (g.day v).want * x' := hle.of_some
        have h5 : r ≤ x' := Int.le_of_mul_le_mul_left h4 w0
        refine ⟨(g.day v').want * y', by rw [h2]; rfl, ?_⟩
        rw [← eq]
        exact Int.mul_le_mul_of_nonneg_left (by omega) (Int.le_of_lt w1)
end BK

set_option maxHeartbeats 2000000
/-! numbers, days, bakeries -/
namespace Pg
open PySem L2 DL
def wholeB : T → Bool
  | .int _ => true
  | _ => false
def withinB (t : T) (a b : Int) : Bool := match t with
  | .int i => decide (a ≤ i) && decide (i ≤ b)
  | _ => false
/-- a thing whose kind is known -/
def kn : T → Bool
  | .non => true
  | .bl _ => true
  | .int _ => true
  | .str _ => true
  | .lst _ => true
  | .tup _ => true
  | .dic _ => true
  | .scr _ => true
  | _ => false
section
variable {i : Int} {o : Bool} {z : Str} {ts : List T} {ns : List Int} {kd : List (Key × T)} {x : Option Int}
@[simp] theorem kn_non : kn .non = true := Eq.trans rfl rfl
@[simp] theorem kn_bl : kn (.bl o) = true := Eq.trans rfl rfl
@[simp] theorem kn_int : kn (.int i) = true := Eq.trans rfl rfl
@[simp] theorem kn_str : kn (.str z) = true := Eq.trans rfl rfl
@[simp] theorem kn_lst : kn (.lst ts) = true := Eq.trans rfl rfl
@[simp] theorem kn_tup : kn (.tup ts) = true := Eq.trans rfl rfl
@[simp] theorem kn_dic : kn (.dic kd) = true := Eq.trans rfl rfl
@[simp] theorem kn_scr : kn (.scr ns) = true := Eq.trans rfl rfl
@[simp] theorem kn_eO : kn (eO x) = true := by cases x <;> rfl
@[simp] theorem whole_int : wholeB (.int i) = true := Eq.trans rfl rfl
@[simp] theorem whole_non : wholeB .non = false := Eq.trans rfl rfl
@[simp] theorem whole_bl : wholeB (.bl o) = false := Eq.trans rfl rfl
@[simp] theorem whole_str : wholeB (.str z) = false := Eq.trans rfl rfl
@[simp] theorem whole_lst : wholeB (.lst ts) = false := Eq.trans rfl rfl
@[simp] theorem whole_tup : wholeB (.tup ts) = false := Eq.trans rfl rfl
@[simp] theorem whole_dic : wholeB (.dic kd) = false := Eq.trans rfl rfl
@[simp] theorem whole_scr : wholeB (.scr ns) = false := Eq.trans rfl rfl
@[simp] theorem within_int {a b : Int} : withinB (.int i) a b = (decide (a ≤ i) && decide (i ≤ b)) := Eq.trans rfl rfl
@[simp] theorem within_non {a b : Int} : withinB .non a b = false := Eq.trans rfl rfl
@[simp] theorem within_bl {a b : Int} : withinB (.bl o) a b = false := Eq.trans rfl rfl
@[simp] theorem within_str {a b : Int} : withinB (.str z) a b = false := Eq.trans rfl rfl
@[simp] theorem within_lst {a b : Int} : withinB (.lst ts) a b = false := Eq.trans rfl rfl
@[simp] theorem within_tup {a b : Int} : withinB (.tup ts) a b = false := Eq.trans rfl rfl
@[simp] theorem within_dic {a b : Int} : withinB (.dic kd) a b = false := Eq.trans rfl rfl
@[simp] theorem within_scr {a b : Int} : withinB (.scr ns) a b = false := Eq.trans rfl rfl
end
theorem is_whole_eq {t : T} (h : kn t = true) : dn_is_whole [t] = .ok (.bl (wholeB t)) := by
  rw [eq_is_whole]; unfold b_is_whole
  cases t <;> first | (simp; done) | exact Bool.noConfusion h
theorem is_within_eq {t : T} (h : kn t = true) (a b : Int) : dn_is_within [t, .int a, .int b] = .ok (.bl (withinB t a b)) := by
  rw [eq_is_within]; unfold b_is_within
  cases t <;> first
    | (simp [is_whole_eq]; done)
    | (rename_i i; by_cases h1 : a ≤ i <;> simp [is_whole_eq, h1]; done)
    | exact Bool.noConfusion h
theorem is_number_eq {t : T} (h : kn t = true) : dn_is_number [t] = .ok (.bl (withinB t 0 1000000000)) := by
  rw [eq_is_number]; unfold b_is_number
  simp [is_within_eq h]
def cel (ns : List Int) (k : Nat) : Int := ns.getD k 0
theorem cell_at_eq (ns : List Int) (k : Nat) : dn__law_cell_at [.scr ns, .int k] = .ok (.int (cel ns k)) := by
  rw [eq__law_cell_at]; unfold b__law_cell_at cel
  by_cases h : k < ns.length
  · have e : ns[k]? = some ns[k] := List.getElem?_eq_getElem h
    have h2 : (k : Int) < ns.length := by omega
    simp [h2, e, h]
  · have h2 : ¬ (k : Int) < ns.length := by omega
    simp [h2, h]
theorem cell_at_eqL (ns : List Int) (k : Nat) : dn__law_cell_at [.lst (ns.map .int), .int k] = .ok (.int (cel ns k)) := by
  rw [eq__law_cell_at]; unfold b__law_cell_at cel
  by_cases h : k < ns.length
  · have e : ns[k]? = some ns[k] := List.getElem?_eq_getElem h
    have h2 : (k : Int) < ns.length := by omega
    simp [h2, e, h]
  · have h2 : ¬ (k : Int) < ns.length := by omega
    simp [h2, h]
end Pg

set_option maxHeartbeats 2000000
/-! days and bakeries that are drawn -/
namespace BK
structure Bakery where
  lights : List Int
  bound : Option Int
  goods : List Good
def numOk (i : Int) : Prop := 0 ≤ i ∧ i ≤ 1000000000
structure Bakery.ok (b : Bakery) : Prop where
  l1 : 1 ≤ b.lights.length
  l2 : b.lights.length ≤ 40
  ls : ∀ l ∈ b.lights, numOk l
  bd : ∀ k, b.bound = some k → 1 ≤ k ∧ k ≤ 1000000000
  g1 : 1 ≤ b.goods.length
  g2 : b.goods.length ≤ 2
  gs : ∀ g ∈ b.goods, g.ok b.lights.length
end BK
namespace Pg
open PySem L2 DL BK
def eD (d : Day) : T := .tup [.int d.want, .int d.loaf, .int d.keep, eO d.fine]
def eG (g : Good) : T := .tup [.lst (g.days.map eD), eO g.life]
def eB (b : Bakery) : T := .tup [.lst (b.lights.map .int), eO b.bound, .lst (b.goods.map eG)]
section
variable {g : Good} {b : Bakery} {d : Day}
@[simp] theorem isMut_eD : isMut (eD d) = false := Eq.trans rfl rfl
@[simp] theorem isMut_eG : isMut (eG g) = false := Eq.trans rfl rfl
@[simp] theorem isMut_eB : isMut (eB b) = false := Eq.trans rfl rfl
@[simp] theorem kn_eD : kn (eD d) = true := Eq.trans rfl rfl
@[simp] theorem kn_eG : kn (eG g) = true := Eq.trans rfl rfl
@[simp] theorem kn_eB : kn (eB b) = true := Eq.trans rfl rfl
end
def dayOf (ds : List Int) (late : Bool) : Int × Day := match ds with
  | [w, l, lo, k, f, n, r] => (l, ⟨if n = 0 then 0 else w, lo, k, if r < 2 ∨ late = false then none else some f⟩)
  | _ => (0, ⟨0, 0, 0, none⟩)
theorem law_day_eq (ds : List Int) (late : Bool) (h : ds.length = 7) : dn__law_day [.lst (ds.map .int), .bl late] = .ok (.tup [.int (dayOf ds late).1, eD (dayOf ds late).2]) := by
  match ds, h with
  | [w, l, lo, k, f, n, r], _ =>
    rw [eq__law_day]; unfold b__law_day
    simp only [List.map_cons, List.map_nil]
    by_cases h1 : n = 0
    · by_cases h2 : r < 2
      · simp (disch := omega) [h1, h2, dayOf, eD]
      · cases late <;> simp (disch := omega) [h1, h2, dayOf, eD]
    · by_cases h2 : r < 2
      · simp (disch := omega) [h1, h2, dayOf, eD]
      · cases late <;> simp (disch := omega) [h1, h2, dayOf, eD]
/-- a script, as it is handed in or put together -/
inductive Scr : T → List Int → Prop
  | scr (ns : List Int) : Scr (.scr ns) ns
  | lst (ns : List Int) : Scr (.lst (ns.map .int)) ns
theorem Scr.cell {S : T} {ns : List Int} (h : Scr S ns) (k : Nat) : dn__law_cell_at [S, .int k] = .ok (.int (cel ns k)) := by
  cases h with
  | scr => exact cell_at_eq ns k
  | lst => exact cell_at_eqL ns k
theorem Scr.len {S : T} {ns : List Int} (h : Scr S ns) : lenL [S] = some (.int ns.length) := by
  cases h with
  | scr => rfl
  | lst => simp
def sizes7 (wide : Bool) : List Int := (if wide then [1000000001, 1000000001, 1000000001, 1000000001, 1000000001] else [5, 13, 6, 4, 4]) ++ [4, 5]
def wideOf (ns : List Int) (salt : Int) : Bool := decide ((drawn (cel ns 0) salt [3]).getD 0 0 = 0)
def daysStep (ns : List Int) (salt : Int) (late : Bool) (st : List Int × List Day) (k : Nat) : List Int × List Day :=
  let r := dayOf (drawn (cel ns (1 + k)) (salt + (1 + k)) (sizes7 (wideOf ns salt))) late
  (st.1 ++ [r.1], st.2 ++ [r.2])
def daysMany (ns : List Int) (upto : Nat) : Nat := max 2 (min upto ns.length) - 1
def daysOf (ns : List Int) (upto : Nat) (salt : Int) (late : Bool) : List Int × List Day := (List.range (daysMany ns upto)).foldl (daysStep ns salt late) ([], [])
theorem sizes7_pos (w : Bool) : ∀ z ∈ sizes7 w, 0 < z ∧ z < 1000000000000000000000000000000000000000000000000000000000000000000000000000000000000000000 := by
  cases w <;> simp [sizes7]
theorem sizes7_len (w : Bool) : (sizes7 w).length = 7 := by cases w <;> rfl
theorem dayOf_ok (c s : Int) (w late : Bool) : numOk (dayOf (drawn c s (sizes7 w)) late).1 ∧ (dayOf (drawn c s (sizes7 w)) late).2.ok := by
  have hz : ∀ z ∈ sizes7 w, 0 < z := fun z h => (sizes7_pos w z h).1
  have hl : (drawn c s (sizes7 w)).length = 7 := by rw [drawn_len hz, sizes7_len]
  have hb := fun i (h : i < 7) => drawn_at (c := c) (s := s) hz i (by rw [sizes7_len]; exact h)
  generalize drawn c s (sizes7 w) = ds at *
  match ds, hl with
  | [a, l, lo, k, f, n, r], _ =>
    have h0 := hb 0 (by decide)
    have h1 := hb 1 (by decide)
    have h2 := hb 2 (by decide)
    have h3 := hb 3 (by decide)
    have h4 := hb 4 (by decide)
    unfold dayOf numOk Day.ok
    dsimp only
    cases w
    · simp [sizes7] at h0 h1 h2 h3 h4
      refine ⟨by omega, ?_, ?_, by omega, by omega, by omega, by omega, fun x hx => ?_⟩
      · split <;> omega
      · split <;> omega
      · split at hx
        · cases hx
        · cases hx; omega
    · simp [sizes7] at h0 h1 h2 h3 h4
      refine ⟨by omega, ?_, ?_, by omega, by omega, by omega, by omega, fun x hx => ?_⟩
      · split <;> omega
      · split <;> omega
      · split at hx
        · cases hx
        · cases hx; omega
theorem daysOf_ok (ns : List Int) (upto : Nat) (salt : Int) (late : Bool) : (daysOf ns upto salt late).1.length = daysMany ns upto ∧ (daysOf ns upto salt late).2.length = daysMany ns upto ∧ (∀ l ∈ (daysOf ns upto salt late).1, numOk l) ∧ ∀ d ∈ (daysOf ns upto salt late).2, d.ok := by
  have key : ∀ n, let r := (List.range n).foldl (daysStep ns salt late) ([], []); r.1.length = n ∧ r.2.length = n ∧ (∀ l ∈ r.1, numOk l) ∧ ∀ d ∈ r.2, d.ok := fun n => by
    induction n with
    | zero => simp
    | succ n ih =>
      rw [List.range_succ, List.foldl_append]
      generalize (List.range n).foldl (daysStep ns salt late) ([], []) = r at *
      obtain ⟨ls, ds⟩ := r
      obtain ⟨a, b, c, d⟩ := ih
      have q := dayOf_ok (cel ns (1 + n)) (salt + (1 + n)) (wideOf ns salt) late
      simp only [List.foldl_cons, List.foldl_nil, daysStep]
      refine ⟨by simp at a ⊢; omega, by simp at b ⊢; omega, fun l hl => ?_, fun l hl => ?_⟩
      · rcases List.mem_append.mp hl with h | h
        · exact c l h
        · rw [List.mem_singleton.mp h]; exact q.1
      · rcases List.mem_append.mp hl with h | h
        · exact d l h
        · rw [List.mem_singleton.mp h]; exact q.2
  exact key (daysMany ns upto)
theorem days_loop {S : T} {ns : List Int} (hS : Scr S ns) (upto : Nat) (hu : upto ≤ 1000) (salt : Int) (hs : -900000 ≤ salt ∧ salt ≤ 900000) (late : Bool) :
    forL (gNm 9) b__law_days_p1 ((List.range (daysMany ns upto)).map fun (i : Nat) => T.int (1 + (i : Int))) [some (S, false), some (T.int 1, false), some (T.int upto, false), some (T.int salt, false), some (T.bl late, false), some (T.bl (wideOf ns salt), false), some (.lst ((sizes7 (wideOf ns salt)).map .int), false), some (.lst [], true), some (.lst [], true), none, none, none]
    = .nx [some (S, false), some (T.int 1, false), some (T.int upto, false), some (T.int salt, false), some (T.bl late, false), some (T.bl (wideOf ns salt), false), some (.lst ((sizes7 (wideOf ns salt)).map .int), false), some (.lst ((daysOf ns upto salt late).1.map .int), true), some (.lst ((daysOf ns upto salt late).2.map eD), true), none, none, none] := by
  have hm : daysMany ns upto ≤ 1000 := by unfold daysMany; omega
  have F := forL_foldN (g := gNm 9) (body := b__law_days_p1) (fun (i : Nat) => T.int (1 + (i : Int))) (fun st : List Int × List Day => [some (S, false), some (T.int 1, false), some (T.int upto, false), some (T.int salt, false), some (T.bl late, false), some (T.bl (wideOf ns salt), false), some (.lst ((sizes7 (wideOf ns salt)).map .int), false), some (.lst (st.1.map .int), true), some (.lst (st.2.map eD), true), none, none, none])
    (daysStep ns salt late) (fun k st => st.1.length = k ∧ st.2.length = k) (n := daysMany ns upto) (s0 := ([], [])) ⟨rfl, rfl⟩ fun k st hst hk => ?_
  · exact F.1
  · obtain ⟨ls, ds⟩ := st
    obtain ⟨h1, h2⟩ := hst
    dsimp only at h1 h2
    have hc := hS.cell (1 + k)
    have hz := sizes7_pos (wideOf ns salt)
    have hn := numbers_eq (cel ns (1 + k)) (salt + (1 + k)) (sizes7 (wideOf ns salt)) (by omega) hz (by rw [sizes7_len]; omega)
    have hl : (drawn (cel ns (1 + k)) (salt + (1 + k)) (sizes7 (wideOf ns salt))).length = 7 := by rw [drawn_len fun z h => (hz z h).1, sizes7_len]
    have hd := law_day_eq _ late hl
    have hc' : dn__law_cell_at [S, T.int (1 + (k : Int))] = .ok (.int (cel ns (1 + k))) := hc
    unfold daysStep b__law_days_p1
    simp (disch := omega) [hc', hn, hd, h1, h2, -List.getD_eq_getElem?_getD]
theorem law_days_eq {S : T} {ns : List Int} (hS : Scr S ns) (hl : ns.length ≤ 1000) (upto : Nat) (hu : upto ≤ 1000) (salt : Int) (hs : -900000 ≤ salt ∧ salt ≤ 900000) (late : Bool) :
    dn__law_days [S, .int 1, .int upto, .int salt, .bl late] = .ok (.tup [.lst ((daysOf ns upto salt late).1.map .int), .lst ((daysOf ns upto salt late).2.map eD)]) := by
  rw [eq__law_days]; unfold b__law_days
  have c0 := hS.cell 0
  have n0 := numbers_eq (cel ns 0) salt [3] (by omega) (by simp) (by simp)
  have l0 : (drawn (cel ns 0) salt [3]).length = 1 := drawn_len (by simp)
  have w0 := ints_at (ds := drawn (cel ns 0) salt [3]) (i := 0) (by omega)
  have L := days_loop hS upto hu salt hs late
  have hw : ∃ w, w = wideOf ns salt := ⟨_, rfl⟩
  obtain ⟨w, hw⟩ := hw
  have wd : decide ((drawn (cel ns 0) salt [3]).getD 0 0 = 0) = w := hw.symm
  simp only [List.map_cons, List.map_nil] at n0
  have c0' : dn__law_cell_at [S, .int 0] = .ok (.int (cel ns 0)) := c0
  have m5 : mulT (.lst [.int 1000000001]) (.int 5) = some (.lst [.int 1000000001, .int 1000000001, .int 1000000001, .int 1000000001, .int 1000000001]) := by rw [mulT_lk (by omega) (by decide)]; rfl
  rw [← hw] at L
  have hr : ∀ n, n = daysMany ns upto → rngF 1 n = (List.range (daysMany ns upto)).map fun (i : Nat) => T.int (1 + (i : Int)) := fun n e => by rw [e, rngF_eq]
  cases w
  · simp [sizes7] at L
    simp (disch := omega) [c0', n0, w0, wd, hS.len, m5, -List.getD_eq_getElem?_getD]
    rw [hr _ ?h]
    case h => unfold daysMany; split <;> split <;> omega
    rw [L]
    simp (disch := omega)
  · simp [sizes7] at L
    simp (disch := omega) [c0', n0, w0, wd, hS.len, m5, -List.getD_eq_getElem?_getD]
    rw [hr _ ?h]
    case h => unfold daysMany; split <;> split <;> omega
    rw [L]
    simp (disch := omega)
end Pg

set_option maxHeartbeats 2000000
namespace Pg
open PySem L2 DL BK
theorem drawn_ex (c s : Int) (zs : List Int) (hz : ∀ z ∈ zs, 0 < z) : ∃ ds, drawn c s zs = ds ∧ ds.length = zs.length ∧ ∀ i, i < zs.length → 0 ≤ ds.getD i 0 ∧ ds.getD i 0 < zs.getD i 0 :=
  ⟨_, rfl, drawn_len hz, fun i h => drawn_at hz i h⟩
def livesL : List T := [.non, .non, .int 0, .int 1, .int 2, .int 3, .int 4, .int 5, .int 7, .int 11, .int 23, .int 40]
theorem lives_ok (j : Int) (h0 : 0 ≤ j) (h1 : j < 12) : ∃ life : Option Int, atI livesL j = some (eO life) ∧ ∀ l, life = some l → 0 ≤ l ∧ l ≤ 40 := by
  have : j = 0 ∨ j = 1 ∨ j = 2 ∨ j = 3 ∨ j = 4 ∨ j = 5 ∨ j = 6 ∨ j = 7 ∨ j = 8 ∨ j = 9 ∨ j = 10 ∨ j = 11 := by omega
  rcases this with e | e | e | e | e | e | e | e | e | e | e | e <;> subst e
  · exact ⟨none, rfl, fun l h => by cases h⟩
  · exact ⟨none, rfl, fun l h => by cases h⟩
  all_goals exact ⟨some _, rfl, fun l h => by cases h; decide⟩
theorem daysMany_pos (ns : List Int) (upto : Nat) : 1 ≤ daysMany ns upto := by unfold daysMany; omega
theorem daysMany_le (ns : List Int) (upto k : Nat) (h : upto ≤ k + 1) (hk : 1 ≤ k) : daysMany ns upto ≤ k := by unfold daysMany; omega
/-- a plain bakery that is drawn -/
theorem law_bakery_ok {S : T} {ns : List Int} (hS : Scr S ns) (hl : ns.length ≤ 1000) (upto : Nat) (hu : upto ≤ 41) (salt : Int) (hs : -900000 ≤ salt ∧ salt ≤ 900000) :
    ∃ (ls : List Int) (g : Good), dn__law_bakery [S, .int upto, .int salt] = .ok (eB ⟨ls, none, [g]⟩) ∧ (⟨ls, none, [g]⟩ : Bakery).ok ∧ ls.length = daysMany ns upto := by
  have c0 := hS.cell 0
  have c0' : dn__law_cell_at [S, .int 0] = .ok (.int (cel ns 0)) := c0
  have n0 := numbers_eq (cel ns 0) salt [3, 12, 2] (by omega) (by simp) (by simp)
  obtain ⟨ds, hd, hdl, hdb⟩ := drawn_ex (cel ns 0) salt [3, 12, 2] (by simp)
  rw [hd] at n0
  match ds, hdl with
  | [a, b, c], _ =>
    have b1 := hdb 1 (by simp)
    simp at b1
    obtain ⟨life, hlf, hlo⟩ := lives_ok b b1.1 b1.2
    unfold livesL at hlf
    have D := law_days_eq hS hl upto (by omega) salt hs (decide (c = 1))
    obtain ⟨q1, q2, q3, q4⟩ := daysOf_ok ns upto salt (decide (c = 1))
    simp only [List.map_cons, List.map_nil] at n0
    refine ⟨(daysOf ns upto salt (decide (c = 1))).1, ⟨(daysOf ns upto salt (decide (c = 1))).2, life⟩, ?_, ⟨?_, ?_, q3, (fun k h => by cases h), by simp, by simp, fun g hg => ?_⟩, q1⟩
    · rw [eq__law_bakery]; unfold b__law_bakery
      simp (disch := omega) [c0', n0, D, hlf, eB, eG]
    · show 1 ≤ (daysOf ns upto salt (decide (c = 1))).1.length
      rw [q1]; exact daysMany_pos ns upto
    · show (daysOf ns upto salt (decide (c = 1))).1.length ≤ 40
      rw [q1]; exact daysMany_le ns upto 40 (by omega) (by omega)
    · rw [List.mem_singleton.mp hg]
      exact ⟨by show (daysOf ns upto salt (decide (c = 1))).2.length = (daysOf ns upto salt (decide (c = 1))).1.length; rw [q1, q2], q4, hlo⟩
theorem bounds_ok (j : Int) (h0 : 0 ≤ j) (h1 : j < 9) : ∃ bd : Option Int, atI [T.non, .int 1, .int 2, .int 3, .int 4, .int 5, .int 6, .int 1000000000, .int 12] j = some (eO bd) ∧ ∀ l, bd = some l → 1 ≤ l ∧ l ≤ 1000000000 := by
  have : j = 0 ∨ j = 1 ∨ j = 2 ∨ j = 3 ∨ j = 4 ∨ j = 5 ∨ j = 6 ∨ j = 7 ∨ j = 8 := by omega
  rcases this with e | e | e | e | e | e | e | e | e <;> subst e
  · exact ⟨none, rfl, fun l h => by cases h⟩
  all_goals exact ⟨some _, rfl, fun l h => by cases h; decide⟩
/-- a bakery of one or two goods that is drawn -/
theorem law_two_ok (ns : List Int) (hl : ns.length ≤ 63) (upto : Nat) (hu : upto ≤ 41) (salt : Int) (hs : -800000 ≤ salt ∧ salt ≤ 800000) :
    ∃ B : Bakery, dn__law_two [.scr ns, .int upto, .int salt] = .ok (eB B) ∧ B.ok ∧ B.lights.length = daysMany ns upto := by
  have hS := Scr.scr ns
  have c0' : dn__law_cell_at [.scr ns, .int 0] = .ok (.int (cel ns 0)) := hS.cell 0
  have n0 := numbers_eq (cel ns 0) salt [3, 12, 2, 12, 3, 2, 9] (by omega) (by simp) (by simp)
  obtain ⟨ds, hd, hdl, hdb⟩ := drawn_ex (cel ns 0) salt [3, 12, 2, 12, 3, 2, 9] (by simp)
  rw [hd] at n0
  match ds, hdl with
  | [a, b, c, d, e, f, k], _ =>
    have b1 := hdb 1 (by simp)
    have b3 := hdb 3 (by simp)
    have b6 := hdb 6 (by simp)
    simp at b1 b3 b6
    obtain ⟨life, hlf, hlo⟩ := lives_ok b b1.1 b1.2
    obtain ⟨life2, hlf2, hlo2⟩ := lives_ok d b3.1 b3.2
    obtain ⟨bd, hbd, hbo⟩ := bounds_ok k b6.1 b6.2
    unfold livesL at hlf hlf2
    have D := law_days_eq hS (by omega) upto (by omega) salt (by omega) (decide (c = 1))
    obtain ⟨q1, q2, q3, q4⟩ := daysOf_ok ns upto salt (decide (c = 1))
    simp only [List.map_cons, List.map_nil] at n0
    have hg1 : (⟨(daysOf ns upto salt (decide (c = 1))).2, life⟩ : Good).ok (daysOf ns upto salt (decide (c = 1))).1.length :=
      ⟨by show (daysOf ns upto salt (decide (c = 1))).2.length = (daysOf ns upto salt (decide (c = 1))).1.length; rw [q1, q2], q4, hlo⟩
    have p1 : 1 ≤ (daysOf ns upto salt (decide (c = 1))).1.length := by rw [q1]; exact daysMany_pos ns upto
    have p2 : (daysOf ns upto salt (decide (c = 1))).1.length ≤ 40 := by rw [q1]; exact daysMany_le ns upto 40 (by omega) (by omega)
    by_cases he : 0 < e
    · have e2 : (List.take 1 ns ++ (ns.drop 1).reverse).length = ns.length := by simp; omega
      have hS2 : Scr (.lst ((List.take 1 ns ++ (ns.drop 1).reverse).map .int)) _ := Scr.lst _
      have D2 := law_days_eq hS2 (by omega) upto (by omega) (salt + 70) (by omega) (decide (f = 1))
      obtain ⟨r1, r2, r3, r4⟩ := daysOf_ok (List.take 1 ns ++ (ns.drop 1).reverse) upto (salt + 70) (decide (f = 1))
      have em : daysMany (List.take 1 ns ++ (ns.drop 1).reverse) upto = daysMany ns upto := by unfold daysMany; rw [e2]
      refine ⟨⟨(daysOf ns upto salt (decide (c = 1))).1, bd, [⟨(daysOf ns upto salt (decide (c = 1))).2, life⟩, ⟨(daysOf (List.take 1 ns ++ (ns.drop 1).reverse) upto (salt + 70) (decide (f = 1))).2, life2⟩]⟩, ?_, ⟨p1, p2, q3, hbo, by simp, by simp, fun g hg => ?_⟩, q1⟩
      · rw [eq__law_two]; unfold b__law_two
        simp at D2
        simp (disch := omega) [c0', n0, D, D2, he, hlf, hlf2, hbd, eB, eG]
      · rcases List.mem_cons.mp hg with h | h
        · rw [h]; exact hg1
        · rw [List.mem_singleton.mp h]
          exact ⟨by show (daysOf (List.take 1 ns ++ (ns.drop 1).reverse) upto (salt + 70) (decide (f = 1))).2.length = (daysOf ns upto salt (decide (c = 1))).1.length; rw [r2, q1, em], r4, hlo2⟩
    · refine ⟨⟨(daysOf ns upto salt (decide (c = 1))).1, bd, [⟨(daysOf ns upto salt (decide (c = 1))).2, life⟩]⟩, ?_, ⟨p1, p2, q3, hbo, by simp, by simp, fun g hg => ?_⟩, q1⟩
      · rw [eq__law_two]; unfold b__law_two
        simp (disch := omega) [c0', n0, D, he, hlf, hbd, eB, eG]
      · rw [List.mem_singleton.mp hg]; exact hg1
end Pg

set_option maxHeartbeats 2000000
/-! good bakeries are let by -/
namespace Pg
open PySem L2 DL BK
theorem num_ok {i : Int} (h : numOk i) : withinB (.int i) 0 1000000000 = true := by
  have := h.1
  have := h.2
  simp; omega
theorem is_number_ok {i : Int} (h : numOk i) : dn_is_number [.int i] = .ok (.bl true) := by rw [is_number_eq (by simp), num_ok h]
theorem is_day_ok {d : Day} (h : d.ok) : dn_is_day [eD d] = .ok (.bl true) := by
  obtain ⟨h1, h2, h3, h4, h5, h6, h7⟩ := h
  have w1 := num_ok ⟨h1, h2⟩
  have w2 := num_ok ⟨h3, h4⟩
  have w3 := num_ok ⟨h5, h6⟩
  rw [eq_is_day]; unfold b_is_day eD
  have hc : compL (gNm 1) dYes (dCall dn_is_number (dCons (dVar 1) dNil)) [some (T.tup [T.int d.want, T.int d.loaf, T.int d.keep, eO d.fine], false), none] [T.int d.want, T.int d.loaf, T.int d.keep] = .ok [.bl true, .bl true, .bl true] := by
    refine compL_c1 ?_ (compL_c1 ?_ (compL_c1 ?_ compL_nil))
    · rw [cturn_ap]; simp [is_number_eq, w1, -within_int]
    · rw [cturn_ap]; simp [is_number_eq, w2, -within_int]
    · rw [cturn_ap]; simp [is_number_eq, w3, -within_int]
  cases e : d.fine with
  | none => rw [e] at hc; simp at hc; simp (disch := omega) [hc]
  | some f =>
    have w4 := is_number_ok (h7 f e)
    rw [e] at hc; simp at hc; simp (disch := omega) [hc, w4]
theorem are_lights_ok {ls : List Int} (h1 : 1 ≤ ls.length) (h2 : ls.length ≤ 40) (h : ∀ l ∈ ls, numOk l) : dn_are_lights [.lst (ls.map .int)] = .ok (.bl true) := by
  rw [eq_are_lights]; unfold b_are_lights
  have a1 : (1 : Int) ≤ ls.length := by omega
  have a2 : (ls.length : Int) ≤ 40 := by omega
  simp [a1, a2]
  rw [compL_map T.int (fun _ => T.bl true)]
  · have e : (ls.map fun _ => T.bl true) = ls.map fun x => T.bl ((fun _ => true) x) := rfl
    rw [fitL_ok (by simp; omega)]
    simp [e]
  · intro x hx
    rw [cturn_ap]
    simp [is_number_eq, num_ok (h x hx), -within_int]
theorem is_frame_ok {B : Bakery} (h : B.ok) : dn_is_frame [eB B] = .ok (.bl true) := by
  rw [eq_is_frame]; unfold b_is_frame eB
  have l := are_lights_ok h.l1 h.l2 h.ls
  have a1 : (1 : Int) ≤ B.goods.length := by have := h.g1; omega
  have a2 : (B.goods.length : Int) ≤ 2 := by have := h.g2; omega
  cases e : B.bound with
  | none => simp [l, a1, a2]
  | some k =>
    have := h.bd k e
    have w : withinB (.int k) 1 1000000000 = true := by simp; omega
    simp [l, a1, a2, is_within_eq, w, -within_int]
theorem look_at_good_ok {g : Good} {n : Nat} (h : g.ok n) (j : Int) : dn_look_at_good [.int j, eG g, .int n] = .ok .non := by
  rw [eq_look_at_good]; unfold b_look_at_good eG
  obtain ⟨h1, h2, h3⟩ := h
  have F : ∀ ev : Lo, (∃ a b, ev = [some (T.int j, false), some (T.tup [T.lst (g.days.map eD), eO g.life], false), some (T.int n, false), a, b]) → True := fun _ _ => trivial
  have L : forL (gTp 2 (DL.gCons (gNm 3) (DL.gCons (gNm 4) DL.gNil))) b_look_at_good_p1 (enumL (g.days.map eD)) [some (T.int j, false), some (T.tup [T.lst (g.days.map eD), eO g.life], false), some (T.int n, false), none, none]
      = .nx [some (T.int j, false), some (T.tup [T.lst (g.days.map eD), eO g.life], false), some (T.int n, false), none, none] := by
    rw [enumL_map]
    apply forL_same
    intro t ht
    obtain ⟨⟨d, k⟩, hd, rfl⟩ := List.mem_map.mp ht
    have hd2 : d ∈ g.days := List.fst_mem_of_mem_zipIdx hd
    unfold b_look_at_good_p1
    simp [is_day_ok (h2 d hd2)]
  cases e : g.life with
  | none => rw [e] at L; simp at L; simp [h1, L]
  | some l =>
    have := h3 l e
    have w : withinB (.int l) 0 40 = true := by simp; omega
    rw [e] at L; simp at L; simp [h1, L, is_within_eq, w, -within_int]
theorem look_at_bakery_ok {B : Bakery} (h : B.ok) : dn_look_at_bakery [eB B] = .ok .non := by
  rw [eq_look_at_bakery]; unfold b_look_at_bakery
  have fr := is_frame_ok h
  have L : forL (gTp 2 (DL.gCons (gNm 1) (DL.gCons (gNm 2) DL.gNil))) b_look_at_bakery_p1 (enumL (B.goods.map eG)) [some (eB B, false), none, none] = .nx [some (eB B, false), none, none] := by
    rw [enumL_map]
    apply forL_same
    intro t ht
    obtain ⟨⟨g, k⟩, hd, rfl⟩ := List.mem_map.mp ht
    have hg : g ∈ B.goods := List.fst_mem_of_mem_zipIdx hd
    have q := look_at_good_ok (h.gs g hg) k
    unfold b_look_at_bakery_p1
    unfold eB
    simp [q]
  simp [fr]
  unfold eB at L ⊢
  simp [L]
theorem is_plain_ok {B : Bakery} (h : B.ok) : dn_is_plain [eB B] = .ok (.bl (B.bound.isNone && decide (B.goods.length = 1))) := by
  rw [eq_is_plain]; unfold b_is_plain
  have e : dn_is_plain_one [eB B] = .ok (.bl (B.bound.isNone && decide (B.goods.length = 1))) := by
    rw [eq_is_plain_one]; unfold b_is_plain_one eB
    cases e : B.bound with
    | none => simp; congr 1; omega
    | some k => simp
  simp [look_at_bakery_ok h, e]
theorem look_at_plain_ok {ls : List Int} {g : Good} (h : (⟨ls, none, [g]⟩ : Bakery).ok) : dn_look_at_plain [eB ⟨ls, none, [g]⟩] = .ok .non := by
  rw [eq_look_at_plain]; unfold b_look_at_plain
  simp [is_plain_ok h]
theorem look_at_number_ok {B : Bakery} {j : Int} (h0 : 0 ≤ j) (h1 : j < B.goods.length) : dn_look_at_number [eB B, .int j] = .ok .non := by
  rw [eq_look_at_number]; unfold b_look_at_number eB
  have w : withinB (.int j) 0 ((B.goods.length : Int) - 1) = true := by simp; omega
  simp [is_within_eq, w, -within_int]
theorem look_at_day_ok {B : Bakery} {j : Int} (h0 : 0 ≤ j) (h1 : j < B.lights.length) : dn_look_at_day [eB B, .int j] = .ok .non := by
  rw [eq_look_at_day]; unfold b_look_at_day eB
  have w : withinB (.int j) 0 ((B.lights.length : Int) - 1) = true := by simp; omega
  simp [is_within_eq, w, -within_int]
end Pg

set_option maxHeartbeats 2000000
/-! walks over ranges -/
namespace DL
open PySem L2
section
variable {g : T → Lo → Option Lo} {body : Lo → Fl} {α : Type}
/-- the names ahead of each turn -/
theorem forL_seq (enc : Nat → T) (F : Nat → Lo) {n : Nat} (h : ∀ k, k < n → turn g body (enc k) (F k) = .nx (F (k + 1))) : forL g body ((List.range n).map enc) (F 0) = .nx (F n) := by
  have go : ∀ m k, k + m = n → forL g body (((List.range n).drop k).map enc) (F k) = .nx (F n) := fun m => by
    induction m with
    | zero => intro k e; have : k = n := by omega
              subst this; rw [List.drop_of_length_le (by simp)]; rfl
    | succ m ih =>
      intro k e
      rw [List.drop_eq_getElem_cons (by simp; omega), List.map_cons, forL_cons]
      have eg : (List.range n)[k]'(by simp; omega) = k := by simp
      rw [eg, h k (by omega)]
      exact ih (k + 1) (by omega)
  have := go n 0 (by omega)
  rwa [List.drop_zero] at this
/-- a loop that may answer -/
theorem forL_seqR (enc : Nat → T) (F : Nat → Lo) {n m : Nat} {t : T} (hm : m < n) (h : ∀ k, k < m → turn g body (enc k) (F k) = .nx (F (k + 1))) (hr : turn g body (enc m) (F m) = .rt t) : forL g body ((List.range n).map enc) (F 0) = .rt t := by
  have go : ∀ j k, k + j = m → forL g body (((List.range n).drop k).map enc) (F k) = .rt t := fun j => by
    induction j with
    | zero =>
      intro k e; have : k = m := by omega
      subst this
      rw [List.drop_eq_getElem_cons (by simp; omega), List.map_cons, forL_cons]
      have eg : (List.range n)[k]'(by simp; omega) = k := by simp
      rw [eg, hr]
    | succ j ih =>
      intro k e
      rw [List.drop_eq_getElem_cons (by simp; omega), List.map_cons, forL_cons]
      have eg : (List.range n)[k]'(by simp; omega) = k := by simp
      rw [eg, h k (by omega)]
      exact ih (k + 1) (by omega)
  have := go m 0 (by omega)
  rwa [List.drop_zero] at this
/-- a loop that may break -/
theorem forL_brk {σ : Type} (enc : Nat → T) (E : σ → Lo) (I : Nat → σ → Prop) {n : Nat} {s0 : σ} (h0 : I 0 s0) (h : ∀ k s, k < n → I k s → (∃ s', turn g body (enc k) (E s) = .nx (E s') ∧ I (k + 1) s') ∨ ∃ s', turn g body (enc k) (E s) = .bk (E s')) :
    ∃ s', forL g body ((List.range n).map enc) (E s0) = .nx (E s') := by
  have go : ∀ m k s, k + m = n → I k s → ∃ s', forL g body (((List.range n).drop k).map enc) (E s) = .nx (E s') := fun m => by
    induction m with
    | zero => intro k s e _; have : k = n := by omega
              subst this; rw [List.drop_of_length_le (by simp)]; exact ⟨s, rfl⟩
    | succ m ih =>
      intro k s e hs
      rw [List.drop_eq_getElem_cons (by simp; omega), List.map_cons, forL_cons]
      have eg : (List.range n)[k]'(by simp; omega) = k := by simp
      rw [eg]
      rcases h k s (by omega) hs with ⟨s', h1, h2⟩ | ⟨s', h1⟩
      · rw [h1]; exact ih (k + 1) s' (by omega) h2
      · rw [h1]; exact ⟨s', rfl⟩
  have := go n 0 s0 (by omega) h0
  rwa [List.drop_zero] at this
theorem range_snoc (f : Nat → α) (n : Nat) : (List.range (n + 1)).map f = (List.range n).map f ++ [f n] := by rw [List.range_succ, List.map_append]; rfl
theorem range_last (f : Nat → α) (n : Nat) : ((List.range (n + 1)).map f).getLast? = some (f n) := by rw [range_snoc]; simp
theorem enum_range (f : Nat → T) (n : Nat) : enumL ((List.range n).map f) = (List.range n).map fun k => .tup [.int k, f k] := by
  unfold enumL
  apply List.ext_getElem
  · simp
  · intro i h1 h2; simp
theorem zip_range (f h : Nat → T) (n : Nat) : (((List.range n).map f).zip ((List.range n).map h)).map (fun p => T.tup [p.1, p.2]) = (List.range n).map fun k => .tup [f k, h k] := by
  apply List.ext_getElem
  · simp
  · intro i h1 h2; simp
theorem map_range (f : α → T) (xs : List α) (d : α) : xs.map f = (List.range xs.length).map fun k => f (xs.getD k d) := by
  apply List.ext_getElem
  · simp
  · intro i h1 h2
    have hi : i < xs.length := by simpa using h1
    simp [hi]
end
end DL

set_option maxHeartbeats 2000000
/-! more of walks, and of membership -/
namespace DL
open PySem L2
section
variable {g : T → Lo → Option Lo} {body : Lo → Fl} {α : Type} {ev : Lo}
theorem forL_findS (enc : α → T) (q : α → Option T) {xs : List α} (h : ∀ x ∈ xs, turn g body (enc x) ev = match q x with | some r => .rt r | none => .nx ev) :
    forL g body (xs.map enc) ev = match xs.findSome? q with | some r => .rt r | none => .nx ev := by
  induction xs with
  | nil => rfl
  | cons x xs ih =>
    rw [List.map_cons, forL_cons, h x (by simp), List.findSome?_cons]
    cases e : q x with
    | some r => rfl
    | none => exact ih fun y hy => h y (by simp [hy])
theorem forL_or {β : Type} (enc : α → T) (E : Option β → Lo) (q : α → Option β) {xs : List α} (h : ∀ x d, x ∈ xs → turn g body (enc x) (E d) = .nx (E (d.or (q x)))) (d : Option β) :
    forL g body (xs.map enc) (E d) = .nx (E (d.or (xs.findSome? q))) := by
  induction xs generalizing d with
  | nil => cases d <;> rfl
  | cons x xs ih =>
    rw [List.map_cons, forL_cons, h x d (by simp), List.findSome?_cons]
    have := ih (fun y d hy => h y d (by simp [hy])) (d.or (q x))
    simp only [this]
    cases d with
    | some d => simp
    | none => cases e : q x <;> simp
theorem forL_appN (enc : α → T) (E : List T → Lo) (f : α → T) {xs : List α} (us0 : List T) (h : ∀ x us, x ∈ xs → us.length < us0.length + xs.length → turn g body (enc x) (E us) = .nx (E (us ++ [f x]))) :
    forL g body (xs.map enc) (E us0) = .nx (E (us0 ++ xs.map f)) := by
  have := forL_app (g := g) (body := body) enc (fun us => E (us0 ++ us)) f (xs := xs) fun x us hx hl => by
    have := h x (us0 ++ us) hx (by simp; omega)
    simpa [List.append_assoc] using this
  simpa using this
end
@[simp] theorem augAdd_int {a b : Int} : augAdd (.int a) (.int b) = some (.int (a + b)) := Eq.trans rfl rfl
def flAu (i : Nat) : Option T → Lo → Fl
  | some w, ev => .nx (ev.set i (some (w, false)))
  | none, _ => .bad
@[simp] theorem flAug_ok {i : Nat} {f : T → T → Option T} {t u : T} {ev : Lo} : flAug i f (some (some (t, false))) (.ok u) ev = flAu i (f t u) ev := by
  show (match f t u with
    | some w => Fl.nx (ev.set i (some (w, false)))
    | none => .bad) = _
  cases f t u <;> rfl
@[simp] theorem flAu_some {i : Nat} {w : T} {ev : Lo} : flAu i (some w) ev = .nx (ev.set i (some (w, false))) := Eq.trans rfl rfl
theorem any_int (x : Int) : ∀ xs : List Int, ((xs.map T.int).any fun y => eqF y (.int x)) = decide (x ∈ xs)
  | [] => rfl
  | y :: ys => by
    rw [List.map_cons, List.any_cons, any_int x ys]
    have e : eqF (.int y) (.int x) = decide (x = y) := by
      show (y == x) = _
      rw [Bool.eq_iff_iff, beq_iff_eq, decide_eq_true_iff]
      exact ⟨fun h => h.symm, fun h => h.symm⟩
    rw [e]
    by_cases h : x = y <;> simp [h]
theorem all_int (xs : List Int) : (xs.map T.int).all flT = true := by
  induction xs with
  | nil => rfl
  | cons y ys ih => rw [List.map_cons, List.all_cons, ih]; rfl
theorem inT_ints (x : Int) (xs : List Int) : inT (.int x) (.lst (xs.map .int)) = some (.bl (decide (x ∈ xs))) := by
  show (if flT (.int x) = true ∧ (xs.map T.int).all flT = true then some (T.bl (id ((xs.map T.int).any fun y => eqF y (.int x)))) else none) = _
  rw [if_pos ⟨rfl, all_int xs⟩, any_int]; rfl
theorem ninT_ints (x : Int) (xs : List Int) : ninT (.int x) (.lst (xs.map .int)) = some (.bl (!decide (x ∈ xs))) := by
  show (if flT (.int x) = true ∧ (xs.map T.int).all flT = true then some (T.bl (not ((xs.map T.int).any fun y => eqF y (.int x)))) else none) = _
  rw [if_pos ⟨rfl, all_int xs⟩, any_int]
@[simp] theorem bandT_int {a b : Int} : bandT (.int a) (.int b) = some (.int (Builtin.bitAnd a b)) := Eq.trans rfl rfl
theorem shrT_int {a b : Int} : shrT (.int a) (.int b) = if 0 ≤ b then some (.int (a / 2 ^ b.toNat)) else none := rfl
@[simp] theorem shrT_nat {a : Int} {n : Nat} : shrT (.int a) (.int n) = some (.int (a / 2 ^ n)) := by rw [shrT_int, if_pos (by omega)]; rfl
end DL

set_option maxHeartbeats 1000000
/-! ranges, lists turned about: how they are reckoned -/
namespace DL
open PySem L2
@[simp] theorem inRng_ap {g : Bool → Bool} {i n : Int} : inRng g (.int i) (.int n) = some (.bl (g (decide (0 ≤ i ∧ i < n)))) := Eq.trans rfl rfl
@[simp] theorem inRng2_ap {g : Bool → Bool} {i lo hi : Int} : inRng2 g [.int i, .int lo, .int hi] = some (.bl (g (decide (lo ≤ i ∧ i < hi)))) := Eq.trans rfl rfl
theorem lstRng_ap {i j : Int} : lstRng [.int i, .int j] = if -(2 ^ 62) ≤ i ∧ i < 2 ^ 62 ∧ -(2 ^ 62) ≤ j ∧ j < 2 ^ 62 ∧ (j - i).toNat ≤ 2 ^ 24 then some (.lst ((List.range (j - i).toNat).map fun (k : Nat) => .int (i + (k : Int)))) else none := rfl
@[simp] theorem lstRng_ok {i j : Int} (h : -1000000 ≤ i ∧ i ≤ 1000000 ∧ -1000000 ≤ j ∧ j ≤ 1000000) : lstRng [.int i, .int j] = some (.lst (rngF i (j - i).toNat)) := by
  rw [lstRng_ap, if_pos (by omega)]; rfl
@[simp] theorem geX_tup {ts us : List T} : geX (.tup ts) (.tup us) = (match nums ts, nums us with
    | some a, some b => some (.bl (lexLe b a))
    | _, _ => none) := Eq.trans rfl rfl
def flRev (i : Nat) : Option (Option (T × Bool)) → Lo → Fl
  | some (some (.lst ts, true)), ev => .nx (ev.set i (some (.lst ts.reverse, true)))
  | _, _ => .bad
def flClr (i : Nat) : Option (Option (T × Bool)) → Lo → Fl
  | some (some (.lst _, true)), ev => .nx (ev.set i (some (.lst [], true)))
  | _, _ => .bad
@[simp] theorem ap_sRev {i : Nat} {ev : Lo} : sRev i ev = flRev i ev[i]? ev := by
  unfold sRev
  generalize ev[i]? = z
  rcases z with _ | _ | ⟨t, _ | _⟩ <;> first | rfl | (cases t <;> rfl)
@[simp] theorem ap_sClr {i : Nat} {ev : Lo} : sClr i ev = flClr i ev[i]? ev := by
  unfold sClr
  generalize ev[i]? = z
  rcases z with _ | _ | ⟨t, _ | _⟩ <;> first | rfl | (cases t <;> rfl)
@[simp] theorem flRev_ok {i : Nat} {ts : List T} {ev : Lo} : flRev i (some (some (.lst ts, true))) ev = .nx (ev.set i (some (.lst ts.reverse, true))) := Eq.trans rfl rfl
@[simp] theorem flClr_ok {i : Nat} {ts : List T} {ev : Lo} : flClr i (some (some (.lst ts, true))) ev = .nx (ev.set i (some (.lst [], true))) := Eq.trans rfl rfl
end DL

set_option maxHeartbeats 1000000
/-! refusals: how they are reckoned -/
namespace DL
open PySem L2
section
variable {c C f : Str} {cs Cs fs : List Str} {ev e : Lo} {ds : Lo → R (List T)} {d1 d2 : Lo → Fl} {i : Nat} {t : T} {ts : List T} {xs : List (Str × T)} {a b : Lo → R T}
@[simp] theorem ap_sRaise0 : sRaise0 c ev = .ex c [] ev := Eq.trans rfl rfl
def flRz (c : Str) (fs : List Str) : R (List T) → Lo → Fl
  | .ok ts, ev => if ts.length = fs.length then .ex c (fs.zip ts).reverse ev else .bad
  | .ex c xs, ev => .ex c xs ev
  | .bad, _ => .bad
@[simp] theorem ap_sRaiseF : sRaiseF c fs ds ev = flRz c fs (ds ev) ev := by unfold sRaiseF flRz; cases ds ev <;> rfl
@[simp] theorem flRz_ok : flRz c fs (.ok ts) ev = if ts.length = fs.length then .ex c (fs.zip ts).reverse ev else .bad := Eq.trans rfl rfl
def flTry (cs : List Str) (C : Str) (d2 : Lo → Fl) : Fl → Fl
  | .ex c fs e => if c ∈ cs then (if xsub c C = true then noX (d2 e) else .ex c fs e) else .bad
  | r => r
@[simp] theorem ap_sTry : sTry cs C d1 d2 ev = flTry cs C d2 (d1 ev) := by unfold sTry flTry; cases d1 ev <;> rfl
@[simp] theorem flTry_nx : flTry cs C d2 (.nx e) = .nx e := Eq.trans rfl rfl
@[simp] theorem flTry_rt : flTry cs C d2 (.rt t) = .rt t := Eq.trans rfl rfl
@[simp] theorem flTry_ct : flTry cs C d2 (.ct e) = .ct e := Eq.trans rfl rfl
@[simp] theorem flTry_bk : flTry cs C d2 (.bk e) = .bk e := Eq.trans rfl rfl
@[simp] theorem flTry_ex : flTry cs C d2 (.ex c xs e) = if c ∈ cs then (if xsub c C = true then noX (d2 e) else .ex c xs e) else .bad := Eq.trans rfl rfl
@[simp] theorem noX_nx : noX (.nx e) = .nx e := Eq.trans rfl rfl
@[simp] theorem noX_rt : noX (.rt t) = .rt t := Eq.trans rfl rfl
@[simp] theorem noX_ct : noX (.ct e) = .ct e := Eq.trans rfl rfl
@[simp] theorem noX_bk : noX (.bk e) = .bk e := Eq.trans rfl rfl
def flTryA (cs : List Str) (C : Str) (i : Nat) (d2 : Lo → Fl) : Fl → Fl
  | .ex c fs e => if c ∈ cs then (if xsub c C = true then (d2 (e.set i (some (.exc c fs, false)))).drop i else .ex c fs e) else .bad
  | r => r
@[simp] theorem ap_sTryA : sTryA cs C i d1 d2 ev = flTryA cs C i d2 (d1 ev) := by unfold sTryA flTryA; cases d1 ev <;> rfl
@[simp] theorem flTryA_nx : flTryA cs C i d2 (.nx e) = .nx e := Eq.trans rfl rfl
@[simp] theorem flTryA_rt : flTryA cs C i d2 (.rt t) = .rt t := Eq.trans rfl rfl
@[simp] theorem flTryA_ct : flTryA cs C i d2 (.ct e) = .ct e := Eq.trans rfl rfl
@[simp] theorem flTryA_bk : flTryA cs C i d2 (.bk e) = .bk e := Eq.trans rfl rfl
@[simp] theorem flTryA_ex : flTryA cs C i d2 (.ex c xs e) = if c ∈ cs then (if xsub c C = true then (d2 (e.set i (some (.exc c xs, false)))).drop i else .ex c xs e) else .bad := Eq.trans rfl rfl
@[simp] theorem drop_nx : (Fl.nx e).drop i = .nx (wipeL [i] e) := Eq.trans rfl rfl
@[simp] theorem drop_rt : (Fl.rt t).drop i = .rt t := Eq.trans rfl rfl
@[simp] theorem drop_ct : (Fl.ct e).drop i = .ct (wipeL [i] e) := Eq.trans rfl rfl
@[simp] theorem drop_bk : (Fl.bk e).drop i = .bk (wipeL [i] e) := Eq.trans rfl rfl
@[simp] theorem isiX_ap : isiX cs C [.exc c xs] = if c ∈ cs then some (.bl (xsub c C)) else none := Eq.trans rfl rfl
@[simp] theorem isiXs_ap : isiXs cs Cs [.exc c xs] = if c ∈ cs then some (.bl (Cs.any fun C => xsub c C)) else none := Eq.trans rfl rfl
@[simp] theorem atT_ap : atT cs f (.exc c xs) = if c ∈ cs then xs.lookup f else none := Eq.trans rfl rfl
@[simp] theorem isMut_exc : isMut (.exc c xs) = false := Eq.trans rfl rfl
@[simp] theorem isNonB_exc : isNonB (.exc c xs) = false := Eq.trans rfl rfl
def apJ : R T → R T → R T
  | .ok (.str a), .ok u => ofO (joinT a u)
  | .ok (.str _), .ex c fs => .ex c fs
  | .ok (.str _), .bad => .bad
  | .ok _, _ => .bad
  | .ex c fs, _ => .ex c fs
  | .bad, _ => .bad
@[simp] theorem ap_dJoin : dJoin a b ev = apJ (a ev) (b ev) := by
  unfold dJoin
  cases a ev with
  | ok t => cases t <;> first | rfl | (cases b ev <;> rfl)
  | _ => cases b ev <;> rfl
@[simp] theorem apJ_ok {z : Str} : apJ (.ok (.str z)) (.ok t) = ofO (joinT z t) := Eq.trans rfl rfl
@[simp] theorem joinT_ap {z : Str} : joinT z (.lst ts) = (strsL ts).bind fun ys => if (ys.map (·.length)).sum + ys.length * z.length ≤ 16777216 then some (.str (Txt.join z ys)) else none := Eq.trans rfl rfl
@[simp] theorem strsL_nil : strsL [] = some [] := Eq.trans rfl rfl
@[simp] theorem strsL_cons {z : Str} : strsL (.str z :: ts) = (strsL ts).map (z :: ·) := Eq.trans rfl rfl
/-- the classes -/
theorem xsub_def : xsub c C = (c == C || C == ("BakeError" : Str) || C == ("ValueError" : Str)) := rfl
end
end DL

set_option maxHeartbeats 2000000
/-! what look_at_bakery tells of any data -/
namespace Pg
open PySem L2 DL BK
/-- a plain thing -/
def kl : T → Bool
  | .non => true
  | .bl _ => true
  | .int _ => true
  | .str _ => true
  | .lst _ => true
  | .tup _ => true
  | .dic _ => true
  | _ => false
/-- plain things, to a depth -/
def kd : Nat → T → Bool
  | n + 1, .lst xs => decide (xs.length ≤ 1000) && xs.all (kd n)
  | n + 1, .tup xs => decide (xs.length ≤ 1000) && xs.all (kd n)
  | _, t => kl t
theorem kl_kn {t : T} (h : kl t = true) : kn t = true := by cases t <;> first | rfl | exact Bool.noConfusion h
theorem kd_kl {n : Nat} {t : T} (h : kd n t = true) : kl t = true := by
  cases n with
  | zero => cases t <;> first | rfl | (unfold kd at h; exact h)
  | succ n => cases t <;> first | rfl | (unfold kd at h; exact h)
theorem kd_kn {n : Nat} {t : T} (h : kd n t = true) : kn t = true := kl_kn (kd_kl h)
theorem kd_lst {n : Nat} {ts : List T} : kd (n + 1) (.lst ts) = (decide (ts.length ≤ 1000) && ts.all (kd n)) := by rw [kd]
theorem kd_tup {n : Nat} {ts : List T} : kd (n + 1) (.tup ts) = (decide (ts.length ≤ 1000) && ts.all (kd n)) := by rw [kd]
theorem kd_lst_iff {n : Nat} {ts : List T} : kd (n + 1) (.lst ts) = true ↔ ts.length ≤ 1000 ∧ ∀ t ∈ ts, kd n t = true := by
  rw [kd_lst, Bool.and_eq_true, decide_eq_true_iff, List.all_eq_true]
theorem kd_tup_iff {n : Nat} {ts : List T} : kd (n + 1) (.tup ts) = true ↔ ts.length ≤ 1000 ∧ ∀ t ∈ ts, kd n t = true := by
  rw [kd_tup, Bool.and_eq_true, decide_eq_true_iff, List.all_eq_true]
def numB (t : T) : Bool := withinB t 0 1000000000
theorem is_num_eq {t : T} (h : kn t = true) : dn_is_number [t] = .ok (.bl (numB t)) := is_number_eq h
def nnB (p : T → Bool) (t : T) : Bool := isNonB t || p t
def dayB : T → Bool
  | .tup [a, b, c, f] => numB a && (numB b && numB c) && nnB numB f
  | _ => false
theorem len4 {ts : List T} (h : ts.length = 4) : ∃ a b c d, ts = [a, b, c, d] := by
  match ts, h with
  | [a, b, c, d], _ => exact ⟨a, b, c, d, rfl⟩
theorem len3 {ts : List T} (h : ts.length = 3) : ∃ a b c, ts = [a, b, c] := by
  match ts, h with
  | [a, b, c], _ => exact ⟨a, b, c, rfl⟩
theorem len2 {ts : List T} (h : ts.length = 2) : ∃ a b, ts = [a, b] := by
  match ts, h with
  | [a, b], _ => exact ⟨a, b, rfl⟩
theorem dayB_n4 {ts : List T} (h : ts.length ≠ 4) : dayB (.tup ts) = false := by
  unfold dayB
  split
  · rename_i e
    cases e
    exact absurd rfl h
  · rfl
theorem is_day_eq {t : T} (h : kd 1 t = true) : dn_is_day [t] = .ok (.bl (dayB t)) := by
  rw [eq_is_day]; unfold b_is_day
  cases t with
  | tup ts =>
    obtain ⟨_, hk⟩ := kd_tup_iff.mp h
    by_cases hl : ts.length = 4
    · obtain ⟨a, b, c, d, rfl⟩ := len4 hl
      have ka := kd_kn (hk a (by simp))
      have kb := kd_kn (hk b (by simp))
      have kc := kd_kn (hk c (by simp))
      have kdd := kd_kn (hk d (by simp))
      have hc : ∀ v : Option (T × Bool), compL (gNm 1) dYes (dCall dn_is_number (dCons (dVar 1) dNil)) [v, none] [a, b, c] = .ok [.bl (numB a), .bl (numB b), .bl (numB c)] := fun v => by
        refine compL_c1 ?_ (compL_c1 ?_ (compL_c1 ?_ compL_nil))
        · rw [cturn_ap]; simp [is_num_eq ka]
        · rw [cturn_ap]; simp [is_num_eq kb]
        · rw [cturn_ap]; simp [is_num_eq kc]
      have hd : dayB (.tup [a, b, c, d]) = (numB a && (numB b && numB c) && (isNonB d || numB d)) := rfl
      rw [hd]
      have nd := is_num_eq kdd
      generalize e : isNonB d = z
      generalize numB a = za at *
      generalize numB b = zb at *
      generalize numB c = zc at *
      generalize numB d = zd at *
      cases za <;> cases zb <;> cases zc <;> cases z <;> simp (disch := omega) [hc, e, nd, isNonT]
    · have hl' : ¬ ((ts.length : Int) = 4) := by omega
      simp [hl', dayB_n4 hl]
  | _ => first | (simp [dayB]; done) | exact Bool.noConfusion (kd_kn h)
def rowsW : Nat → List T → Option Nat
  | _, [] => none
  | k, r :: rs => if dayB r = true then rowsW (k + 1) rs else some k
def goodW (many : Nat) : T → Option T
  | .tup [.lst rows, life] => if rows.length = many ∧ nnB (fun t => withinB t 0 40) life = true then (rowsW 0 rows).map fun (i : Nat) => T.int i else some .non
  | _ => some .non
abbrev noBk (g d : T) : List (Str × T) := [("day", d), ("good", g)]
theorem rows_loop (j life many : T) (rs : List T) (G : T) (hk : ∀ t ∈ rs, kd 1 t = true) : ∀ k : Nat,
    (rowsW k rs = none ∧ forL (gTp 2 (DL.gCons (gNm 3) (DL.gCons (gNm 4) DL.gNil))) b_look_at_good_p1 ((rs.zipIdx k).map fun p => T.tup [.int p.2, p.1]) [some (j, false), some (G, false), some (many, false), none, none] = .nx [some (j, false), some (G, false), some (many, false), none, none]) ∨
    ∃ i ev, rowsW k rs = some i ∧ forL (gTp 2 (DL.gCons (gNm 3) (DL.gCons (gNm 4) DL.gNil))) b_look_at_good_p1 ((rs.zipIdx k).map fun p => T.tup [.int p.2, p.1]) [some (j, false), some (G, false), some (many, false), none, none] = .ex "NoBakery" (noBk j (.int i)) ev := by
  induction rs with
  | nil => intro k; exact .inl ⟨rfl, rfl⟩
  | cons r rs ih =>
    intro k
    have e := is_day_eq (hk r (by simp))
    rw [List.zipIdx_cons, List.map_cons, forL_cons]
    have ih' := ih (fun t h => hk t (by simp [h])) (k + 1)
    unfold rowsW
    cases q : dayB r with
    | true =>
      rw [q] at e
      have h1 : turn (gTp 2 (DL.gCons (gNm 3) (DL.gCons (gNm 4) DL.gNil))) b_look_at_good_p1 (T.tup [.int k, r]) [some (j, false), some (G, false), some (many, false), none, none] = .nx [some (j, false), some (G, false), some (many, false), none, none] := by
        unfold b_look_at_good_p1
        simp [e]
      rw [h1]
      exact ih'
    | false =>
      rw [q] at e
      have h1 : turn (gTp 2 (DL.gCons (gNm 3) (DL.gCons (gNm 4) DL.gNil))) b_look_at_good_p1 (T.tup [.int k, r]) [some (j, false), some (G, false), some (many, false), none, none] = .ex "NoBakery" (noBk j (.int k)) [some (j, false), some (G, false), some (many, false), some (.int k, false), some (r, false)] := by
        unfold b_look_at_good_p1
        simp [e, noBk]
      rw [h1]
      exact .inr ⟨k, _, rfl, rfl⟩
theorem goodW_2 {many : Nat} {rows : List T} {b : T} : goodW many (.tup [.lst rows, b]) = if rows.length = many ∧ (isNonB b || withinB b 0 40) = true then (rowsW 0 rows).map fun (i : Nat) => T.int i else some .non := rfl
theorem goodW_n2 {many : Nat} {ts : List T} (h : ts.length ≠ 2) : goodW many (.tup ts) = some .non := by
  unfold goodW
  split
  · rename_i e
    cases e
    exact absurd rfl h
  · rfl
theorem goodW_nl {many : Nat} {a b : T} (h : ∀ rs, a ≠ .lst rs) : goodW many (.tup [a, b]) = some .non := by
  unfold goodW
  split
  · rename_i e
    cases e
    exact absurd rfl (h _)
  · rfl
theorem look_at_good_eq {t : T} (h : kd 3 t = true) (j : T) (many : Nat) : dn_look_at_good [j, t, .int many] = match goodW many t with
    | none => .ok .non
    | some d => .ex "NoBakery" (noBk j d) := by
  rw [eq_look_at_good]; unfold b_look_at_good
  cases t with
  | tup ts =>
    obtain ⟨_, hk⟩ := kd_tup_iff.mp h
    by_cases hl : ts.length = 2
    · obtain ⟨a, b, rfl⟩ := len2 hl
      have kb := kd_kn (hk b (by simp))
      have ka := hk a (by simp)
      cases a with
      | lst rows =>
        by_cases hm : rows.length = many
        · have hm' : ((rows.length : Nat) : Int) = many := by omega
          have w := is_within_eq kb 0 40
          obtain ⟨_, kr⟩ := kd_lst_iff.mp ka
          have L := rows_loop j b (.int many) rows (T.tup [.lst rows, b]) kr 0
          have en : enumL rows = (rows.zipIdx 0).map fun p => T.tup [.int p.2, p.1] := rfl
          rw [← en] at L
          rw [goodW_2]
          generalize hw : withinB b 0 40 = zw at *
          generalize e : isNonB b = z
          rcases L with ⟨q, L⟩ | ⟨i, ev, q, L⟩
          · cases z <;> cases zw <;> simp [hm', hm, w, e, q, L, isNonT, notNonT, noBk]
          · cases z <;> cases zw <;> simp [hm', hm, w, e, q, L, isNonT, notNonT, noBk]
        · have hm' : ¬ (((rows.length : Nat) : Int) = many) := by omega
          have g0 : goodW many (.tup [.lst rows, b]) = some .non := goodW_2.trans (if_neg fun z => hm z.1)
          rw [g0]
          simp [hm', noBk]
      | _ => first
        | exact Bool.noConfusion (kd_kn ka)
        | exact Bool.noConfusion (kd_kl ka)
        | (rw [goodW_nl (fun rs z => by cases z)]; simp [noBk]; done)
    · have hl' : ¬ ((ts.length : Int) = 2) := by omega
      rw [goodW_n2 hl]
      simp [hl', noBk]
  | _ => first | exact Bool.noConfusion (kd_kl h) | (simp [goodW, noBk]; done)
def lightsB : T → Bool
  | .lst ls => decide (1 ≤ ls.length) && (decide (ls.length ≤ 40) && ls.all numB)
  | _ => false
def goodsB : T → Bool
  | .lst gs => decide (1 ≤ gs.length) && decide (gs.length ≤ 2)
  | _ => false
def frameB : T → Bool
  | .tup [ls, bd, gs] => lightsB ls && ((isNonB bd || withinB bd 1 1000000000) && goodsB gs)
  | _ => false
theorem frameB_3 {ls bd gs : T} : frameB (.tup [ls, bd, gs]) = (lightsB ls && ((isNonB bd || withinB bd 1 1000000000) && goodsB gs)) := rfl
theorem frameB_n3 {ts : List T} (h : ts.length ≠ 3) : frameB (.tup ts) = false := by
  unfold frameB
  split
  · rename_i e
    cases e
    exact absurd rfl h
  · rfl
theorem are_lights_eq {t : T} (h : kd 1 t = true) : dn_are_lights [t] = .ok (.bl (lightsB t)) := by
  rw [eq_are_lights]; unfold b_are_lights
  cases t with
  | lst ls =>
    obtain ⟨hl, hk⟩ := kd_lst_iff.mp h
    have hd : lightsB (.lst ls) = (decide (1 ≤ ls.length) && (decide (ls.length ≤ 40) && ls.all numB)) := rfl
    rw [hd]
    have hc : ∀ v : Option (T × Bool), compL (gNm 1) dYes (dCall dn_is_number (dCons (dVar 1) dNil)) [v, none] ls = .ok (ls.map fun t => .bl (numB t)) := fun v => by
      have := compL_map (g := gNm 1) (c := dYes) (de := dCall dn_is_number (dCons (dVar 1) dNil)) (ev := [v, none]) (fun t : T => t) (fun t => .bl (numB t)) (xs := ls) fun t ht => by
        rw [cturn_ap]
        simp [is_num_eq (kd_kn (hk t ht))]
      simpa using this
    have hz : (ls.map fun t => T.bl (numB t)).length ≤ 100000 := by simp; omega
    by_cases h1 : 1 ≤ ls.length
    · by_cases h2 : ls.length ≤ 40
      · have a1 : (1 : Int) ≤ ls.length := by omega
        have a2 : (ls.length : Int) ≤ 40 := by omega
        simp [a1, a2, h1, h2, hc, fitL_ok hz]
      · have a1 : (1 : Int) ≤ ls.length := by omega
        have a2 : ¬ (ls.length : Int) ≤ 40 := by omega
        simp [a1, a2, h1, h2]
    · have a1 : ¬ (1 : Int) ≤ ls.length := by omega
      simp [a1, h1]
  | _ => first | exact Bool.noConfusion (kd_kl h) | (simp [lightsB]; done)
theorem is_frame_eq {t : T} (h : kd 3 t = true) : dn_is_frame [t] = .ok (.bl (frameB t)) := by
  rw [eq_is_frame]; unfold b_is_frame
  cases t with
  | tup ts =>
    obtain ⟨_, hk⟩ := kd_tup_iff.mp h
    by_cases hl : ts.length = 3
    · obtain ⟨a, b, c, rfl⟩ := len3 hl
      have ka : kd 1 a = true := by
        have := hk a (by simp)
        cases a with
        | lst xs =>
          obtain ⟨q1, q2⟩ := kd_lst_iff.mp this
          exact kd_lst_iff.mpr ⟨q1, fun t ht => by have := kd_kl (q2 t ht); unfold kd; cases t <;> first | rfl | exact Bool.noConfusion this⟩
        | tup xs =>
          obtain ⟨q1, q2⟩ := kd_tup_iff.mp this
          exact kd_tup_iff.mpr ⟨q1, fun t ht => by have := kd_kl (q2 t ht); unfold kd; cases t <;> first | rfl | exact Bool.noConfusion this⟩
        | _ => exact kd_kl this
      have kb := kd_kn (hk b (by simp))
      have kc := kd_kl (hk c (by simp))
      have w := is_within_eq kb 1 1000000000
      have la := are_lights_eq ka
      rw [frameB_3]
      generalize lightsB a = za at *
      generalize withinB b 1 1000000000 = zb at *
      generalize e : isNonB b = z
      cases za with
      | false => simp [la]
      | true =>
        cases c with
        | lst gs =>
          have hg : goodsB (.lst gs) = (decide (1 ≤ gs.length) && decide (gs.length ≤ 2)) := rfl
          rw [hg]
          by_cases h1 : 1 ≤ gs.length
          · by_cases h2 : gs.length ≤ 2
            · have a1 : (1 : Int) ≤ gs.length := by omega
              have a2 : (gs.length : Int) ≤ 2 := by omega
              cases z <;> cases zb <;> simp [la, w, e, isNonT, notNonT, a1, a2, h1, h2]
            · have a1 : (1 : Int) ≤ gs.length := by omega
              have a2 : ¬ (gs.length : Int) ≤ 2 := by omega
              cases z <;> cases zb <;> simp [la, w, e, isNonT, notNonT, a1, a2, h1, h2]
          · have a1 : ¬ (1 : Int) ≤ gs.length := by omega
            cases z <;> cases zb <;> simp [la, w, e, isNonT, notNonT, a1, h1]
        | _ => first | exact Bool.noConfusion kc | (cases z <;> cases zb <;> simp [la, w, e, isNonT, notNonT, goodsB]; done)
    · have hl' : ¬ ((ts.length : Int) = 3) := by omega
      rw [frameB_n3 hl]
      simp [hl']
  | _ => first | exact Bool.noConfusion (kd_kl h) | (simp [frameB]; done)
def goodsW (many : Nat) : Nat → List T → Option (T × T)
  | _, [] => none
  | k, g :: gs => match goodW many g with
    | some d => some (.int k, d)
    | none => goodsW many (k + 1) gs
def bakeryW : T → Option (T × T)
  | .tup [.lst ls, bd, .lst gs] => if frameB (.tup [.lst ls, bd, .lst gs]) = true then goodsW ls.length 0 gs else some (.non, .non)
  | _ => some (.non, .non)
theorem bakeryW_3 {ls gs : List T} {bd : T} : bakeryW (.tup [.lst ls, bd, .lst gs]) = if frameB (.tup [.lst ls, bd, .lst gs]) = true then goodsW ls.length 0 gs else some (.non, .non) := rfl
theorem frameB_is {t : T} (h : frameB t = true) : ∃ ls bd gs, t = .tup [.lst ls, bd, .lst gs] := by
  unfold frameB at h
  split at h
  · rename_i ls bd gs
    simp only [Bool.and_eq_true] at h
    obtain ⟨h1, _, h2⟩ := h
    unfold lightsB at h1
    unfold goodsB at h2
    split at h1
    · split at h2
      · exact ⟨_, _, _, rfl⟩
      · cases h2
    · cases h1
  · cases h
theorem bakeryW_no {t : T} (h : frameB t = false) : bakeryW t = some (.non, .non) := by
  unfold bakeryW
  split
  · rw [h]; rfl
  · rfl
theorem goods_loop (ls : List T) (bd G : T) (gs : List T) (hk : ∀ t ∈ gs, kd 3 t = true) (hx : ixT G (.int 0) = some (.lst ls)) : ∀ k : Nat,
    (goodsW ls.length k gs = none ∧ forL (gTp 2 (DL.gCons (gNm 1) (DL.gCons (gNm 2) DL.gNil))) b_look_at_bakery_p1 ((gs.zipIdx k).map fun p => T.tup [.int p.2, p.1]) [some (G, false), none, none] = .nx [some (G, false), none, none]) ∨
    ∃ g d ev, goodsW ls.length k gs = some (g, d) ∧ forL (gTp 2 (DL.gCons (gNm 1) (DL.gCons (gNm 2) DL.gNil))) b_look_at_bakery_p1 ((gs.zipIdx k).map fun p => T.tup [.int p.2, p.1]) [some (G, false), none, none] = .ex "NoBakery" (noBk g d) ev := by
  induction gs with
  | nil => intro k; exact .inl ⟨rfl, rfl⟩
  | cons g gs ih =>
    intro k
    have e := look_at_good_eq (hk g (by simp)) (.int k) ls.length
    have ih' := ih (fun t h => hk t (by simp [h])) (k + 1)
    rw [List.zipIdx_cons, List.map_cons, forL_cons]
    unfold goodsW
    cases q : goodW ls.length g with
    | none =>
      rw [q] at e
      have h1 : turn (gTp 2 (DL.gCons (gNm 1) (DL.gCons (gNm 2) DL.gNil))) b_look_at_bakery_p1 (T.tup [.int k, g]) [some (G, false), none, none] = .nx [some (G, false), none, none] := by
        unfold b_look_at_bakery_p1
        simp [hx, e]
      rw [h1]
      exact ih'
    | some d =>
      rw [q] at e
      have h1 : turn (gTp 2 (DL.gCons (gNm 1) (DL.gCons (gNm 2) DL.gNil))) b_look_at_bakery_p1 (T.tup [.int k, g]) [some (G, false), none, none] = .ex "NoBakery" (noBk (.int k) d) [some (G, false), some (.int k, false), some (g, false)] := by
        unfold b_look_at_bakery_p1
        simp [hx, e]
      rw [h1]
      exact .inr ⟨_, d, _, rfl, rfl⟩
theorem kd_le {m n : Nat} (hmn : m ≤ n) : ∀ {t : T}, kd n t = true → kd m t = true := by
  induction n generalizing m with
  | zero => intro t h; have : m = 0 := by omega
            subst this; exact h
  | succ n ih =>
    intro t h
    cases m with
    | zero => have := kd_kl h; unfold kd; cases t <;> first | rfl | exact Bool.noConfusion this
    | succ m =>
      cases t with
      | lst xs =>
        obtain ⟨q1, q2⟩ := kd_lst_iff.mp h
        exact kd_lst_iff.mpr ⟨q1, fun t ht => ih (by omega) (q2 t ht)⟩
      | tup xs =>
        obtain ⟨q1, q2⟩ := kd_tup_iff.mp h
        exact kd_tup_iff.mpr ⟨q1, fun t ht => ih (by omega) (q2 t ht)⟩
      | _ => exact kd_kl h
theorem look_at_bakery_eq {t : T} (h : kd 5 t = true) : dn_look_at_bakery [t] = match bakeryW t with
    | none => .ok .non
    | some (g, d) => .ex "NoBakery" (noBk g d) := by
  rw [eq_look_at_bakery]; unfold b_look_at_bakery
  have fr := is_frame_eq (kd_le (m := 3) (by omega) h)
  cases q : frameB t with
  | false =>
    rw [q] at fr
    rw [bakeryW_no q]
    simp [fr, noBk]
  | true =>
    rw [q] at fr
    obtain ⟨ls, bd, gs, rfl⟩ := frameB_is q
    obtain ⟨_, hk⟩ := kd_tup_iff.mp h
    obtain ⟨_, hg⟩ := kd_lst_iff.mp (hk (.lst gs) (by simp))
    have hx : ixT (.tup [.lst ls, bd, .lst gs]) (.int 0) = some (.lst ls) := by simp
    have hx2 : ixT (.tup [.lst ls, bd, .lst gs]) (.int 2) = some (.lst gs) := by simp
    have L := goods_loop ls bd (.tup [.lst ls, bd, .lst gs]) gs hg hx 0
    have en : enumL gs = (gs.zipIdx 0).map fun p => T.tup [.int p.2, p.1] := rfl
    rw [bakeryW_3, if_pos q]
    rw [← en] at L
    generalize T.tup [.lst ls, bd, .lst gs] = G at *
    rcases L with ⟨q1, L⟩ | ⟨g, d, ev, q1, L⟩
    · rw [q1]; simp [fr, hx2, L]
    · rw [q1]; simp [fr, hx2, L]
end Pg

set_option maxHeartbeats 2000000
/-! the laws' own walk over any data: what is wrong with it -/
namespace Pg
open PySem L2 DL BK
@[simp] theorem nilG_ap {n : Bool → Bool} {ts : List T} : nilG n (.lst ts) (.lst []) = some (.bl (n ts.isEmpty)) := Eq.trans rfl rfl
theorem law_number_eq {t : T} (h : kn t = true) (m : Int) : dn__law_number [t, .int m] = .ok (.bl (withinB t 0 m)) := by
  rw [eq__law_number]; unfold b__law_number
  cases t <;> first
    | (simp; done)
    | (rename_i i; by_cases h1 : 0 ≤ i <;> simp [h1]; done)
    | exact Bool.noConfusion h
theorem comp_not (m : Int) (ts : List T) (hk : ∀ t ∈ ts, kn t = true) (i : Nat) (ev : Lo) (hi : ∀ t, vr ((ev.set i (some (t, false)))[i]?) = .ok t) (e : Lo → R T) (he : ∀ t, e (ev.set i (some (t, false))) = .ok (.int m)) :
    compL (gNm i) (dNot (dTest (dCall dn__law_number (dCons (dVar i) (dCons e dNil))))) (dVar i) ev ts = .ok (ts.filter fun t => !withinB t 0 m) := by
  have := compL_flt (g := gNm i) (c := dNot (dTest (dCall dn__law_number (dCons (dVar i) (dCons e dNil))))) (de := dVar i) (ev := ev) (fun t : T => t) (fun t => t) (fun t => !withinB t 0 m) (xs := ts) fun t ht => by
    rw [cturn_ap]
    have w := law_number_eq (hk t ht) m
    cases q : withinB t 0 m with
    | true => rw [q] at w; simp [hi, he, w]
    | false => rw [q] at w; simp [hi, he, w]
  simpa using this
theorem filter_empty (ts : List T) (p : T → Bool) : (ts.filter fun t => !p t).isEmpty = ts.all p := by
  induction ts with
  | nil => rfl
  | cons t ts ih =>
    rw [List.filter_cons, List.all_cons]
    cases p t <;> simp [ih]
theorem law_is_day_eq {t : T} (h : kd 1 t = true) : dn__law_is_day [t] = .ok (.bl (dayB t)) := by
  rw [eq__law_is_day]; unfold b__law_is_day
  cases t with
  | tup ts =>
    obtain ⟨_, hk⟩ := kd_tup_iff.mp h
    by_cases hl : ts.length = 4
    · obtain ⟨a, b, c, d, rfl⟩ := len4 hl
      have ka := kd_kn (hk a (by simp))
      have kb := kd_kn (hk b (by simp))
      have kc := kd_kn (hk c (by simp))
      have kdd := kd_kn (hk d (by simp))
      have hd : dayB (.tup [a, b, c, d]) = (numB a && (numB b && numB c) && (isNonB d || numB d)) := rfl
      rw [hd]
      have nd : dn__law_number [d, .int 1000000000] = .ok (.bl (numB d)) := law_number_eq kdd _
      have hc : ∀ v : Option (T × Bool), compL (gNm 1) (dNot (dTest (dCall dn__law_number (dCons (dVar 1) (dCons (d2 powT (dC (.int 10)) (dC (.int 9))) dNil))))) (dVar 1) [v, none] [a, b, c] = .ok ([a, b, c].filter fun t => !withinB t 0 1000000000) := fun v => by
        refine comp_not 1000000000 [a, b, c] (fun t ht => ?_) 1 [v, none] (fun t => by simp) _ (fun t => by simp (disch := omega))
        simp at ht
        rcases ht with rfl | rfl | rfl <;> assumption
      have hz : ([a, b, c].filter fun t => !withinB t 0 1000000000).length ≤ 100000 := Nat.le_trans (List.length_filter_le ..) (by simp)
      have he : ([a, b, c].filter fun t => !withinB t 0 1000000000).isEmpty = (numB a && (numB b && numB c)) := by
        rw [filter_empty]
        simp [numB]
      generalize ([a, b, c].filter fun t => !withinB t 0 1000000000) = fl at *
      generalize e : isNonB d = z
      generalize (numB a && (numB b && numB c)) = za at *
      generalize numB d = zd at *
      cases za <;> cases z <;> simp (disch := omega) [hc, fitL_ok hz, he, e, nd, isNonT]
    · have hl' : ¬ ((ts.length : Int) = 4) := by omega
      simp [hl', dayB_n4 hl]
  | _ => first | (simp [dayB]; done) | exact Bool.noConfusion (kd_kn h)
/-- what is wrong, as a list -/
theorem rowsW_fl (rs : List T) : ∀ k : Nat, (∃ l, ((List.range rs.length).filter fun i => !dayB (rs.getD i .non)).map (fun (i : Nat) => T.int ((k + i : Nat) : Int)) = l ∧ ((rowsW k rs = none ∧ l = []) ∨ ∃ i l', rowsW k rs = some i ∧ l = .int (i : Int) :: l')) := by
  induction rs with
  | nil => intro k; exact ⟨_, rfl, .inl ⟨rfl, rfl⟩⟩
  | cons r rs ih =>
    intro k
    refine ⟨_, rfl, ?_⟩
    obtain ⟨l, hl, h⟩ := ih (k + 1)
    have step : ((List.range (r :: rs).length).filter fun i => !dayB ((r :: rs).getD i .non)).map (fun (i : Nat) => T.int ((k + i : Nat) : Int)) = (if dayB r = true then [] else [T.int (k : Int)]) ++ l := by
      rw [List.length_cons, List.range_succ_eq_map, List.filter_cons, List.filter_map, ← hl]
      have e1 : ((fun i => !dayB ((r :: rs).getD i T.non)) ∘ Nat.succ) = fun i => !dayB (rs.getD i .non) := by
        funext i; simp
      rw [e1]
      have e2 : ∀ xs : List Nat, (xs.map Nat.succ).map (fun (i : Nat) => T.int ((k + i : Nat) : Int)) = xs.map fun (i : Nat) => T.int ((k + 1 + i : Nat) : Int) := fun xs => by
        rw [List.map_map]
        apply List.map_congr_left
        intro i _
        show T.int _ = T.int _
        congr 1
        simp only [Nat.succ_eq_add_one]; omega
      cases q : dayB r with
      | true => simp [q]; intro a _ _; omega
      | false => simp [q]; intro a _ _; omega
    rw [step]
    unfold rowsW
    cases q : dayB r with
    | true => simpa [q] using h
    | false => exact .inr ⟨k, l, by simp, by simp⟩
theorem law_wrong_good_eq {t : T} (h : kd 3 t = true) (many : Nat) (hm0 : many ≤ 1000) : ∃ l, dn__law_wrong_good [t, .int many] = .ok (.lst l) ∧ ((goodW many t = none ∧ l = []) ∨ ∃ d l', goodW many t = some d ∧ l = d :: l') ∧ l.all (kT 8) = true := by
  rw [eq__law_wrong_good]; unfold b__law_wrong_good
  have one : goodW many t = some .non → ∃ l, (.ok (.lst [.non]) : R T) = .ok (.lst l) ∧ ((goodW many t = none ∧ l = []) ∨ ∃ d l', goodW many t = some d ∧ l = d :: l') ∧ l.all (kT 8) = true := fun e => ⟨_, rfl, .inr ⟨_, _, e, rfl⟩, rfl⟩
  cases t with
  | tup ts =>
    obtain ⟨_, hk⟩ := kd_tup_iff.mp h
    by_cases hl : ts.length = 2
    · obtain ⟨a, b, rfl⟩ := len2 hl
      have kb := kd_kn (hk b (by simp))
      have ka := hk a (by simp)
      cases a with
      | lst rows =>
        by_cases hm : rows.length = many
        · have hm' : ((rows.length : Nat) : Int) = many := by omega
          have w := law_number_eq kb 40
          obtain ⟨_, kr⟩ := kd_lst_iff.mp ka
          rw [goodW_2] at one ⊢
          have hx0 : ixT (.tup [.lst rows, b]) (.int 0) = some (.lst rows) := by simp
          have hx1 : ixT (.tup [.lst rows, b]) (.int 1) = some b := by simp
          have ht : isiL "tuple" [.tup [.lst rows, b]] = some (.bl true) := by simp
          have hln : lenL [.tup [.lst rows, b]] = some (.int 2) := by simp
          obtain ⟨l, hl2, hw⟩ := rowsW_fl rows 0
          have hc : ∀ v0 v1 : Option (T × Bool), v0 = some (.tup [.lst rows, b], false) → compL (gNm 2) (dNot (dTest (dCall dn__law_is_day (dCons (d2 ixT (d2 ixT (dVar 0) (dC (.int 0))) (dVar 2)) dNil)))) (dVar 2) [v0, v1, none] ((List.range many).map fun (i : Nat) => T.int (i : Int)) = .ok l := fun v0 v1 e0 => by
            rw [← hl2, hm]
            have := compL_flt (g := gNm 2) (c := dNot (dTest (dCall dn__law_is_day (dCons (d2 ixT (d2 ixT (dVar 0) (dC (.int 0))) (dVar 2)) dNil)))) (de := dVar 2) (ev := [v0, v1, none]) (fun (i : Nat) => T.int (i : Int)) (fun (i : Nat) => T.int ((0 + i : Nat) : Int)) (fun i => !dayB (rows.getD i .non)) (xs := List.range many) fun i hi => by
              have hi := List.mem_range.mp hi
              have hr : rows[i]? = some (rows.getD i .non) := by rw [List.getD_eq_getElem?_getD, List.getElem?_eq_getElem (by omega)]; rfl
              have kr' : kd 1 (rows.getD i .non) = true := kr _ (by rw [List.getD_eq_getElem?_getD, List.getElem?_eq_getElem (by omega)]; exact List.getElem_mem (by omega))
              have dd := law_is_day_eq kr'
              have hz : (0 + i : Nat) = i := by omega
              rw [cturn_ap, e0, hz]
              generalize rows.getD i .non = r at *
              cases q : dayB r with
              | true => rw [q] at dd; simp [hr, dd, -getElem?_pos]
              | false => rw [q] at dd; simp [hr, dd, -getElem?_pos]
            exact this
          have hc := hc (some (.tup [.lst rows, b], false)) (some (.int many, false)) rfl
          have ll : l.length ≤ 1000 := by
            rw [← hl2, List.length_map]
            exact Nat.le_trans (List.length_filter_le ..) (by rw [List.length_range]; omega)
          have hz : l.length ≤ 100000 := by omega
          have kt : l.all (kT 8) = true := by
            rw [← hl2, List.all_map, List.all_eq_true]
            intro i _
            simp
          generalize hwb : withinB b 0 40 = zw at *
          generalize e : isNonB b = z at *
          generalize T.tup [.lst rows, b] = G at *
          have fin' : ∃ l', (.ok (.lst l) : R T) = .ok (.lst l') ∧ (((rowsW 0 rows).map (fun (i : Nat) => T.int i) = none ∧ l' = []) ∨ ∃ d l'', (rowsW 0 rows).map (fun (i : Nat) => T.int i) = some d ∧ l' = d :: l'') ∧ l'.all (kT 8) = true := by
            refine ⟨l, rfl, ?_, kt⟩
            rcases hw with ⟨q, e⟩ | ⟨i, l', q, e⟩
            · exact .inl ⟨by rw [q]; rfl, e⟩
            · exact .inr ⟨_, l', by rw [q]; rfl, e⟩
          cases z <;> cases zw
          · have := one (by simp)
            simp at this
            simp [ht, hln, hx0, hx1, hm', w, e, notNonT, hm]
          · rw [if_pos ⟨hm, rfl⟩]
            simp (disch := omega) [ht, hln, hx0, hx1, hm', w, e, notNonT, rngT_eq, hc, fitL_ok hz]
            simpa using fin'
          · rw [if_pos ⟨hm, rfl⟩]
            simp (disch := omega) [ht, hln, hx0, hx1, hm', w, e, notNonT, rngT_eq, hc, fitL_ok hz]
            simpa using fin'
          · rw [if_pos ⟨hm, rfl⟩]
            simp (disch := omega) [ht, hln, hx0, hx1, hm', w, e, notNonT, rngT_eq, hc, fitL_ok hz]
            simpa using fin'
        · have hm' : ¬ (((rows.length : Nat) : Int) = many) := by omega
          have g0 : goodW many (.tup [.lst rows, b]) = some .non := goodW_2.trans (if_neg fun z => hm z.1)
          have := one g0
          simp [hm']
          simpa using this
      | _ => first
        | exact Bool.noConfusion (kd_kl ka)
        | (have := one (goodW_nl (fun rs z => by cases z)); simp; simpa using this; done)
    · have hl' : ¬ ((ts.length : Int) = 2) := by omega
      have := one (goodW_n2 hl)
      simp [hl']
      simpa using this
  | _ => first | exact Bool.noConfusion (kd_kl h) | (have := one rfl; simp; simpa using this; done)
def wrongT : Option (T × T) → T
  | none => .non
  | some (g, d) => .tup [g, d]
@[simp] theorem wrongT_none : wrongT none = .non := rfl
@[simp] theorem wrongT_some {g d : T} : wrongT (some (g, d)) = .tup [g, d] := rfl
theorem wrong_loop (x : T) (ls : List T) (bd G : T) (hl : ls.length ≤ 1000) (gs : List T) (hk : ∀ t ∈ gs, kd 3 t = true) : ∀ k : Nat,
    (goodsW ls.length k gs = none ∧ forL (gTp 2 (DL.gCons (gNm 4) (DL.gCons (gNm 5) DL.gNil))) b__law_wrong_p1 ((gs.zipIdx k).map fun p => T.tup [.int p.2, p.1]) [some (x, false), some (.lst ls, false), some (bd, false), some (G, false), none, none, none, none] = .nx [some (x, false), some (.lst ls, false), some (bd, false), some (G, false), none, none, none, none]) ∨
    ∃ g d, goodsW ls.length k gs = some (g, d) ∧ forL (gTp 2 (DL.gCons (gNm 4) (DL.gCons (gNm 5) DL.gNil))) b__law_wrong_p1 ((gs.zipIdx k).map fun p => T.tup [.int p.2, p.1]) [some (x, false), some (.lst ls, false), some (bd, false), some (G, false), none, none, none, none] = .rt (.tup [g, d]) := by
  induction gs with
  | nil => intro k; exact .inl ⟨rfl, rfl⟩
  | cons g gs ih =>
    intro k
    obtain ⟨l, e, hw, kt⟩ := law_wrong_good_eq (hk g (by simp)) ls.length hl
    have ih' := ih (fun t h => hk t (by simp [h])) (k + 1)
    have nn := neT_nil kt
    rw [List.zipIdx_cons, List.map_cons, forL_cons]
    unfold goodsW
    rcases hw with ⟨q, rfl⟩ | ⟨d, l', q, rfl⟩
    · rw [q]
      have h1 : turn (gTp 2 (DL.gCons (gNm 4) (DL.gCons (gNm 5) DL.gNil))) b__law_wrong_p1 (T.tup [.int k, g]) [some (x, false), some (.lst ls, false), some (bd, false), some (G, false), none, none, none, none] = .nx [some (x, false), some (.lst ls, false), some (bd, false), some (G, false), none, none, none, none] := by
        unfold b__law_wrong_p1
        simp at nn
        simp (disch := omega) [e, nn]
      rw [h1]
      exact ih'
    · rw [q]
      have h1 : turn (gTp 2 (DL.gCons (gNm 4) (DL.gCons (gNm 5) DL.gNil))) b__law_wrong_p1 (T.tup [.int k, g]) [some (x, false), some (.lst ls, false), some (bd, false), some (G, false), none, none, none, none] = .rt (.tup [.int k, d]) := by
        unfold b__law_wrong_p1
        simp at nn
        simp (disch := omega) [e, nn]
      rw [h1]
      exact .inr ⟨_, d, rfl, rfl⟩
theorem ninT_12 (i : Int) : ninT (.int i) (.tup [.int 1, .int 2]) = some (.bl (!decide (i = 1 ∨ i = 2))) := by
  show (if flT (.int i) = true ∧ [T.int 1, T.int 2].all flT = true then some (T.bl (not ([T.int 1, T.int 2].any fun y => eqF y (.int i)))) else none) = _
  rw [if_pos ⟨rfl, rfl⟩]
  congr 2
  have e : ([T.int 1, T.int 2].any fun y => eqF y (.int i)) = decide (i = 1 ∨ i = 2) := by
    show ((1 == i) || ((2 == i) || false)) = _
    rw [Bool.eq_iff_iff]
    simp
    constructor <;> rintro (h | h) <;> simp [h]
  rw [e]
theorem bakeryW_nl {a b c : T} (h : (∀ rs, a ≠ .lst rs) ∨ ∀ rs, c ≠ .lst rs) : bakeryW (.tup [a, b, c]) = some (.non, .non) := by
  unfold bakeryW
  split
  · rename_i e
    cases e
    rcases h with h | h <;> exact absurd rfl (h _)
  · rfl
theorem bakeryW_n3 {ts : List T} (h : ts.length ≠ 3) : bakeryW (.tup ts) = some (.non, .non) := bakeryW_no (frameB_n3 h)
theorem law_wrong_eq {t : T} (h : kd 5 t = true) : dn__law_wrong [t] = .ok (wrongT (bakeryW t)) := by
  rw [eq__law_wrong]; unfold b__law_wrong
  cases t with
  | tup ts =>
    obtain ⟨_, hk⟩ := kd_tup_iff.mp h
    by_cases hl : ts.length = 3
    · obtain ⟨a, b, c, rfl⟩ := len3 hl
      have kb := kd_kn (hk b (by simp))
      have ka := hk a (by simp)
      have kc := hk c (by simp)
      cases a with
      | lst ls =>
        obtain ⟨ll, kls⟩ := kd_lst_iff.mp ka
        have hlb : lightsB (.lst ls) = (decide (1 ≤ ls.length) && (decide (ls.length ≤ 40) && ls.all numB)) := rfl
        by_cases h40 : 1 ≤ ls.length ∧ ls.length ≤ 40
        · have hc : ∀ v0 v1 v2 v3 v4 v5 v6 : Option (T × Bool), compL (gNm 7) (dNot (dTest (dCall dn__law_number (dCons (dVar 7) (dCons (d2 powT (dC (.int 10)) (dC (.int 9))) dNil))))) (dVar 7) [v0, v1, v2, v3, v4, v5, v6, none] ls = .ok (ls.filter fun t => !withinB t 0 1000000000) := fun v0 v1 v2 v3 v4 v5 v6 =>
            comp_not 1000000000 ls (fun t ht => kd_kn (kls t ht)) 7 [v0, v1, v2, v3, v4, v5, v6, none] (fun t => by simp) _ (fun t => by simp (disch := omega))
          have hz : (ls.filter fun t => !withinB t 0 1000000000).length ≤ 100000 := Nat.le_trans (List.length_filter_le ..) (by omega)
          have he : (ls.filter fun t => !withinB t 0 1000000000).isEmpty = ls.all numB := by
            rw [filter_empty]; rfl
          have r1 : (1 : Int) ≤ ls.length ∧ (ls.length : Int) < 41 := by omega
          have hlb' : lightsB (.lst ls) = ls.all numB := by rw [hlb]; simp [h40.1, h40.2]
          generalize (ls.filter fun t => !withinB t 0 1000000000) = fl at *
          cases qa : ls.all numB with
          | false =>
            rw [qa] at hlb' he
            have w : bakeryW (.tup [.lst ls, b, c]) = some (.non, .non) := bakeryW_no (by rw [frameB_3, hlb']; rfl)
            rw [w]
            simp (disch := omega) [r1, hc, fitL_ok hz, he]
          | true =>
            rw [qa] at hlb' he
            -- the bound
            have wb := law_number_eq kb 1000000000
            obtain ⟨zb, hzb⟩ : ∃ zb, zb = (isNonB b || withinB b 1 1000000000) := ⟨_, rfl⟩
            have hb : (isNonB b = true ∧ zb = true) ∨ (isNonB b = false ∧ withinB b 0 1000000000 = false ∧ zb = false) ∨ (isNonB b = false ∧ withinB b 0 1000000000 = true ∧ ∃ i : Int, b = .int i ∧ zb = !decide (i = 0)) := by
              cases b with
              | int i =>
                have e1 : isNonB (.int i) = false := rfl
                rw [e1] at hzb
                by_cases q : withinB (.int i) 0 1000000000 = true
                · refine .inr (.inr ⟨rfl, q, i, rfl, ?_⟩)
                  rw [hzb]
                  simp at q ⊢
                  by_cases e0 : i = 0
                  · subst e0; simp
                  · have : 1 ≤ i := by omega
                    simp [e0, this, q.2]
                · refine .inr (.inl ⟨rfl, by simpa using q, ?_⟩)
                  rw [hzb]
                  simp at q ⊢
                  intro h1; exact q (by omega)
              | non => exact .inl ⟨rfl, by rw [hzb]; rfl⟩
              | _ => first | exact Bool.noConfusion kb | exact .inr (.inl ⟨rfl, rfl, by rw [hzb]; rfl⟩)
            have fr : frameB (.tup [.lst ls, b, c]) = (zb && goodsB c) := by rw [frameB_3, hlb', hzb]; rfl
            rcases hb with ⟨e1, e2⟩ | ⟨e1, e2, e3⟩ | ⟨e1, e2, i, e3, e4⟩
            · cases c with
              | lst gs =>
                have hg : goodsB (.lst gs) = (decide (1 ≤ gs.length) && decide (gs.length ≤ 2)) := rfl
                obtain ⟨gl, kg⟩ := kd_lst_iff.mp kc
                have n12 := ninT_12 gs.length
                by_cases h12 : gs.length = 1 ∨ gs.length = 2
                · have fr' : frameB (.tup [.lst ls, b, .lst gs]) = true := by
                    rw [fr, hg, e2]
                    have : 1 ≤ gs.length := by omega
                    have : gs.length ≤ 2 := by omega
                    simp [*]
                  have L := wrong_loop (.tup [.lst ls, b, .lst gs]) ls b (.lst gs) ll gs kg 0
                  have en : enumL gs = (gs.zipIdx 0).map fun p => T.tup [.int p.2, p.1] := rfl
                  rw [bakeryW_3, if_pos fr']
                  rw [← en] at L
                  have d12 : decide ((gs.length : Int) = 1 ∨ (gs.length : Int) = 2) = true := decide_eq_true (by omega)
                  rw [d12] at n12
                  rcases L with ⟨q1, L⟩ | ⟨g, d, q1, L⟩
                  · rw [q1]; simp (disch := omega) [r1, hc, fitL_ok hz, he, e1, notNonT, n12, L]
                  · rw [q1]; simp (disch := omega) [r1, hc, fitL_ok hz, he, e1, notNonT, n12, L]
                · have w : bakeryW (.tup [.lst ls, b, .lst gs]) = some (.non, .non) := bakeryW_no (by
                    rw [fr, hg, e2]
                    by_cases q : 1 ≤ gs.length
                    · have : ¬ gs.length ≤ 2 := by omega
                      simp [this]
                    · simp [q])
                  rw [w]
                  have d12 : decide ((gs.length : Int) = 1 ∨ (gs.length : Int) = 2) = false := decide_eq_false (by omega)
                  rw [d12] at n12
                  simp (disch := omega) [r1, hc, fitL_ok hz, he, e1, notNonT, n12]
              | _ => first
                | exact Bool.noConfusion (kd_kl kc)
                | (rw [bakeryW_nl (.inr fun rs z => by cases z)]; simp (disch := omega) [r1, hc, fitL_ok hz, he, e1, notNonT]; done)
            · have w : bakeryW (.tup [.lst ls, b, c]) = some (.non, .non) := bakeryW_no (by rw [fr, e3]; rfl)
              rw [w]
              rw [e2] at wb
              simp (disch := omega) [r1, hc, fitL_ok hz, he, e1, wb, notNonT]
            · subst e3
              rw [e2] at wb
              by_cases e0 : i = 0
              · have w : bakeryW (.tup [.lst ls, .int i, c]) = some (.non, .non) := bakeryW_no (by rw [fr, e4, decide_eq_true e0]; rfl)
                rw [w]
                subst e0
                simp (disch := omega) [r1, hc, fitL_ok hz, he, wb, notNonT]
              · cases c with
                | lst gs =>
                  have hg : goodsB (.lst gs) = (decide (1 ≤ gs.length) && decide (gs.length ≤ 2)) := rfl
                  obtain ⟨gl, kg⟩ := kd_lst_iff.mp kc
                  have n12 := ninT_12 gs.length
                  by_cases h12 : gs.length = 1 ∨ gs.length = 2
                  · have fr' : frameB (.tup [.lst ls, (.int i), .lst gs]) = true := by
                      rw [fr, hg, e4, decide_eq_false e0]
                      have : 1 ≤ gs.length := by omega
                      have : gs.length ≤ 2 := by omega
                      simp [*]
                    have L := wrong_loop (.tup [.lst ls, (.int i), .lst gs]) ls (.int i) (.lst gs) ll gs kg 0
                    have en : enumL gs = (gs.zipIdx 0).map fun p => T.tup [.int p.2, p.1] := rfl
                    rw [bakeryW_3, if_pos fr']
                    rw [← en] at L
                    have d12 : decide ((gs.length : Int) = 1 ∨ (gs.length : Int) = 2) = true := decide_eq_true (by omega)
                    rw [d12] at n12
                    rcases L with ⟨q1, L⟩ | ⟨g, d, q1, L⟩
                    · rw [q1]; simp (disch := omega) [r1, hc, fitL_ok hz, he, wb, notNonT, e0, n12, L]
                    · rw [q1]; simp (disch := omega) [r1, hc, fitL_ok hz, he, wb, notNonT, e0, n12, L]
                  · have w : bakeryW (.tup [.lst ls, (.int i), .lst gs]) = some (.non, .non) := bakeryW_no (by
                      rw [fr, hg, e4, decide_eq_false e0]
                      by_cases q : 1 ≤ gs.length
                      · have : ¬ gs.length ≤ 2 := by omega
                        simp [this]
                      · simp [q])
                    rw [w]
                    have d12 : decide ((gs.length : Int) = 1 ∨ (gs.length : Int) = 2) = false := decide_eq_false (by omega)
                    rw [d12] at n12
                    simp (disch := omega) [r1, hc, fitL_ok hz, he, wb, notNonT, e0, n12]
                | _ => first
                  | exact Bool.noConfusion (kd_kl kc)
                  | (rw [bakeryW_nl (.inr fun rs z => by cases z)]; simp (disch := omega) [r1, hc, fitL_ok hz, he, wb, notNonT, e0]; done)
        · have r1 : ¬ ((1 : Int) ≤ ls.length ∧ (ls.length : Int) < 41) := by omega
          have w : bakeryW (.tup [.lst ls, b, c]) = some (.non, .non) := bakeryW_no (by
            rw [frameB_3, hlb]
            by_cases q : 1 ≤ ls.length
            · have : ¬ ls.length ≤ 40 := fun z => h40 ⟨q, z⟩
              simp [this]
            · simp [q])
          rw [w]
          simp [r1]
      | _ => first
        | exact Bool.noConfusion (kd_kl ka)
        | (rw [bakeryW_nl (.inl fun rs z => by cases z)]; simp; done)
    · have hl' : ¬ ((ts.length : Int) = 3) := by omega
      rw [bakeryW_n3 hl]
      simp [hl']
  | _ => first | exact Bool.noConfusion (kd_kl h) | (simp [bakeryW]; done)
end Pg

set_option maxHeartbeats 2000000
/-! what repr tells is not too long -/
namespace DL
open PySem L2
theorem textFrom_le : ∀ (ts : List Str) (k : Nat) (acc : Str), (textFrom k acc ts).length ≤ acc.length + piled ts
  | [], k, acc => Nat.le_add_right _ _
  | t :: r, k, acc => by
    have h := textFrom_le r (k + 1) (acc ++ (if k > 0 then ", " else "" : String) ++ t)
    have e : (acc ++ (if k > 0 then ", " else "" : String) ++ t).length ≤ acc.length + 2 + t.length := by
      rw [strLen_append, strLen_append]
      have : (Str.ofString (if k > 0 then ", " else "")).length ≤ 2 := by split <;> decide
      omega
    rw [piled_cons]
    show (textFrom (k + 1) _ r).length ≤ _
    omega
theorem listText_le (ts : List Str) : (listText ts).length ≤ piled ts + 2 := by
  have h := textFrom_le ts 0 "["
  unfold listText
  rw [strLen_append]
  have e1 : (Str.ofString "[").length = 1 := by decide
  have e2 : (Str.ofString "]").length = 1 := by decide
  omega
theorem tupleText_le (ts : List Str) : (tupleText ts).length ≤ piled ts + 3 := by
  unfold tupleText
  rw [strLen_append, strLen_append]
  have e1 : (Str.ofString "(").length = 1 := by decide
  have e2 : (Str.ofString (if ts.length == 1 then ",)" else ")")).length ≤ 2 := by split <;> decide
  have e3 : (Str.join ", " ts).length ≤ piled ts := by
    cases ts with
    | nil => decide
    | cons t r => have := join_length_add (t :: r) (by simp); omega
  omega
/-- shown within n lists and tuples, by w signs -/
structure Sh (t : T) (n w : Nat) : Prop where
  pl : plR t = true
  sh : (py t).showable = true
  dp : (py t).depth ≤ n
  ln : (py t).shown.length ≤ w
theorem Sh.okR {t : T} {n w : Nat} (h : Sh t n w) (hn : n ≤ 60) (hw : w ≤ 16000000) : okR t = true := by
  unfold DL.okR
  have := h.dp
  have := h.ln
  have e : w ≤ sizeLine := Nat.le_trans hw (by decide)
  simp [h.pl, h.sh]
  exact ⟨by omega, by omega⟩
theorem Sh.mono {t : T} {n w n' w' : Nat} (h : Sh t n w) (hn : n ≤ n' := by omega) (hw : w ≤ w' := by omega) : Sh t n' w' := ⟨h.pl, h.sh, Nat.le_trans h.dp hn, Nat.le_trans h.ln hw⟩
theorem Sh.int {i : Int} (h : i.natAbs < 10 ^ 100) : Sh (.int i) 0 101 where
  pl := rfl
  sh := by
    show decide (i.natAbs.log2 < 1920) = true
    have : i.natAbs.log2 < 1920 := by
      by_cases e : i.natAbs = 0
      · rw [e]; decide
      · exact (Nat.log2_lt e).mpr (Nat.lt_of_lt_of_le h (by decide +kernel))
    simpa using this
  dp := Nat.le_refl _
  ln := by
    show (Str.ofString (toString i)).length ≤ 101
    rw [ofString_length]
    exact int_text_length_le10 (k := 100) (by decide) h
theorem Sh.non : Sh .non 0 101 := ⟨rfl, rfl, Nat.le_refl _, by decide⟩
theorem Sh.bl (b : Bool) : Sh (.bl b) 0 101 := ⟨rfl, rfl, Nat.le_refl _, by cases b <;> decide⟩
theorem Sh.dic : Sh (.dic []) 1 101 := ⟨rfl, rfl, by decide, by decide⟩
theorem Sh.str {x : Str} {w : Nat} (h : ((py (.str x)).shown).length ≤ w) : Sh (.str x) 0 w := ⟨rfl, rfl, Nat.le_refl _, h⟩
theorem Sh.eO {x : Option Int} (h : ∀ i, x = some i → i.natAbs < 10 ^ 100) : Sh (eO x) 0 101 := by
  cases x with
  | none => exact .non
  | some i => exact .int (h i rfl)
theorem Sh.all {ts : List T} {n w : Nat} (h : ∀ t ∈ ts, Sh t n w) : plRs ts = true ∧ PyData.showableAll (pys ts) = true ∧ PyData.depthAll (pys ts) ≤ n ∧ piled (PyData.shownAll (pys ts)) ≤ ts.length * (w + 2) := by
  induction ts with
  | nil => exact ⟨rfl, rfl, Nat.zero_le _, Nat.zero_le _⟩
  | cons t ts ih =>
    obtain ⟨a, b, d, e⟩ := ih fun u hu => h u (by simp [hu])
    have k := h t (by simp)
    unfold plRs pys PyData.showableAll PyData.depthAll PyData.shownAll
    rw [k.pl, a, k.sh, b, piled_cons]
    refine ⟨rfl, rfl, Nat.max_le.mpr ⟨k.dp, d⟩, ?_⟩
    have := k.ln
    rw [List.length_cons, Nat.add_mul, Nat.one_mul]
    omega
theorem Sh.lst {ts : List T} {n w : Nat} (h : ∀ t ∈ ts, Sh t n w) : Sh (.lst ts) (n + 1) (ts.length * (w + 2) + 2) := by
  obtain ⟨a, b, d, e⟩ := Sh.all h
  refine ⟨by unfold plR; exact a, by unfold py PyData.showable; exact b, by unfold py PyData.depth; omega, ?_⟩
  unfold py PyData.shown
  have := listText_le (PyData.shownAll (pys ts))
  omega
theorem Sh.tup {ts : List T} {n w : Nat} (h : ∀ t ∈ ts, Sh t n w) : Sh (.tup ts) (n + 1) (ts.length * (w + 2) + 3) := by
  obtain ⟨a, b, d, e⟩ := Sh.all h
  refine ⟨by unfold plR; exact a, by unfold py PyData.showable; exact b, by unfold py PyData.depth; omega, ?_⟩
  unfold py PyData.shown
  have := tupleText_le (PyData.shownAll (pys ts))
  omega
theorem repr_of {t : T} {n w : Nat} (h : Sh t n w) (hn : n ≤ 60) (hw : w ≤ 16000000) : reprL [t] = some (.str (py t).shown) := by
  show (if DL.okR t = true then some (T.str (py t).shown) else none) = _
  rw [if_pos (h.okR hn hw)]
end DL
namespace Pg
open PySem L2 DL BK
theorem small {i : Int} (h : -1000000000000 ≤ i ∧ i ≤ 1000000000000) : i.natAbs < 10 ^ 100 := Nat.lt_of_le_of_lt (m := 1000000000000) (by omega) (by decide +kernel)
theorem Sh.day {d : Day} (h : d.ok) : Sh (eD d) 1 420 := by
  obtain ⟨h1, h2, h3, h4, h5, h6, h7⟩ := h
  refine (Sh.tup (n := 0) (w := 101) fun t ht => ?_).mono (by omega) (by simp)
  simp at ht
  rcases ht with e | e | e | e <;> subst e
  · exact .int (small (by omega))
  · exact .int (small (by omega))
  · exact .int (small (by omega))
  · exact .eO fun i e => by have := h7 i e; exact small (by omega)
theorem Sh.good {g : Good} {n : Nat} (h : g.ok n) (hn : n ≤ 41) : Sh (eG g) 3 40000 := by
  obtain ⟨h1, h2, h3⟩ := h
  have a : Sh (.lst (g.days.map eD)) 2 17500 := (Sh.lst (n := 1) (w := 420) fun t ht => by
    obtain ⟨d, hd, rfl⟩ := List.mem_map.mp ht
    exact Sh.day (h2 d hd)).mono (by omega) (by rw [List.length_map, h1]; omega)
  refine (Sh.tup (n := 2) (w := 17500) fun t ht => ?_).mono (by omega) (by simp)
  simp at ht
  rcases ht with e | e <;> subst e
  · exact a
  · exact (Sh.eO fun i e => by have := h3 i e; exact small (by omega)).mono
theorem Sh.bakery {B : Bakery} (h : B.ok) : Sh (eB B) 5 1000000 := by
  have a : Sh (.lst (B.lights.map .int)) 4 100000 := (Sh.lst (n := 0) (w := 101) fun t ht => by
    obtain ⟨d, hd, rfl⟩ := List.mem_map.mp ht
    have := h.ls d hd
    exact .int (small ⟨by have := this.1; omega, by have := this.2; omega⟩)).mono (by omega) (by rw [List.length_map]; have := h.l2; omega)
  have c : Sh (.lst (B.goods.map eG)) 4 100000 := (Sh.lst (n := 3) (w := 40000) fun t ht => by
    obtain ⟨g, hg, rfl⟩ := List.mem_map.mp ht
    exact Sh.good (h.gs g hg) (by have := h.l2; omega)).mono (by omega) (by rw [List.length_map]; have := h.g2; omega)
  refine (Sh.tup (n := 4) (w := 100000) fun t ht => ?_).mono (by omega) (by simp)
  simp at ht
  rcases ht with e | e | e <;> subst e
  · exact a
  · exact (Sh.eO fun i e => by have := h.bd i e; exact small (by omega)).mono
  · exact c
theorem repr_bakery {B : Bakery} (h : B.ok) : reprL [eB B] = some (.str (py (eB B)).shown) := repr_of (Sh.bakery h) (by decide) (by decide)
end Pg

set_option maxHeartbeats 4000000
/-! what is drawn in a bakery's stead -/
namespace Pg
open PySem L2 DL BK
/-- plain data, shown within n lists and tuples by w signs -/
structure Pd (n w : Nat) (t : T) : Prop where
  kd : ∀ m, kd m t = true
  sh : Sh t n w
theorem kd_leaf {t : T} (h : kl t = true) (h1 : ∀ xs, t ≠ .lst xs) (h2 : ∀ xs, t ≠ .tup xs) : ∀ m, kd m t = true := fun m => by
  cases m with
  | zero => unfold kd; cases t <;> first | exact h | exact absurd rfl (h1 _) | exact absurd rfl (h2 _)
  | succ m => unfold kd; cases t <;> first | exact h | exact absurd rfl (h1 _) | exact absurd rfl (h2 _)
theorem Pd.mono {n w n' w' : Nat} {t : T} (h : Pd n w t) (hn : n ≤ n' := by omega) (hw : w ≤ w' := by omega) : Pd n' w' t := ⟨h.kd, h.sh.mono hn hw⟩
theorem Pd.non : Pd 0 101 .non := ⟨kd_leaf rfl (fun _ z => by cases z) (fun _ z => by cases z), .non⟩
theorem Pd.bl (b : Bool) : Pd 0 101 (.bl b) := ⟨kd_leaf rfl (fun _ z => by cases z) (fun _ z => by cases z), .bl b⟩
theorem Pd.int {i : Int} (h : i.natAbs < 10 ^ 100) : Pd 0 101 (.int i) := ⟨kd_leaf rfl (fun _ z => by cases z) (fun _ z => by cases z), .int h⟩
theorem Pd.dic : Pd 1 101 (.dic []) := ⟨kd_leaf rfl (fun _ z => by cases z) (fun _ z => by cases z), .dic⟩
theorem Pd.str {x : Str} {w : Nat} (h : ((py (.str x)).shown).length ≤ w) : Pd 0 w (.str x) := ⟨kd_leaf rfl (fun _ z => by cases z) (fun _ z => by cases z), .str h⟩
theorem Pd.eO {x : Option Int} (h : ∀ i, x = some i → i.natAbs < 10 ^ 100) : Pd 0 101 (eO x) := by
  cases x with
  | none => exact .non
  | some i => exact .int (h i rfl)
theorem Pd.lst {n w : Nat} {ts : List T} (h : ∀ t ∈ ts, Pd n w t) (hl : ts.length ≤ 1000) : Pd (n + 1) (ts.length * (w + 2) + 2) (.lst ts) := ⟨fun m => by
  cases m with
  | zero => rfl
  | succ m => exact kd_lst_iff.mpr ⟨hl, fun t ht => (h t ht).kd m⟩, Sh.lst fun t ht => (h t ht).sh⟩
theorem Pd.tup {n w : Nat} {ts : List T} (h : ∀ t ∈ ts, Pd n w t) (hl : ts.length ≤ 1000) : Pd (n + 1) (ts.length * (w + 2) + 3) (.tup ts) := ⟨fun m => by
  cases m with
  | zero => rfl
  | succ m => exact kd_tup_iff.mpr ⟨hl, fun t ht => (h t ht).kd m⟩, Sh.tup fun t ht => (h t ht).sh⟩
theorem Pd.lstL {n w L W : Nat} {ts : List T} (h : ∀ t ∈ ts, Pd n w t) (hl : ts.length ≤ L) (hL : L ≤ 1000 := by omega) (hW : L * (w + 2) + 2 ≤ W := by omega) : Pd (n + 1) W (.lst ts) :=
  (Pd.lst h (by omega)).mono (Nat.le_refl _) (by have := Nat.mul_le_mul_right (w + 2) hl; omega)
theorem Pd.tupL {n w L W : Nat} {ts : List T} (h : ∀ t ∈ ts, Pd n w t) (hl : ts.length ≤ L) (hL : L ≤ 1000 := by omega) (hW : L * (w + 2) + 3 ≤ W := by omega) : Pd (n + 1) W (.tup ts) :=
  (Pd.tup h (by omega)).mono (Nat.le_refl _) (by have := Nat.mul_le_mul_right (w + 2) hl; omega)
theorem pick_ok {L : List T} {P : T → Prop} {i : Int} {n : Nat} (hn : L.length = n) (h0 : 0 ≤ i) (h1 : i < n) (hp : ∀ t ∈ L, P t) : ∃ t, atI L i = some t ∧ P t := by
  obtain ⟨k, rfl⟩ : ∃ k : Nat, i = k := ⟨i.toNat, by omega⟩
  have hk : k < L.length := by omega
  exact ⟨L[k], by rw [atI_cast, List.getElem?_eq_getElem hk], hp _ (List.getElem_mem hk)⟩
def Odd (t : T) : Prop := Pd 1 300 t
theorem odd_ok (i : Int) : ∃ t, dn__law_odd [.int i] = .ok t ∧ Odd t := by
  have h1 : 0 ≤ i % 18 := Int.emod_nonneg _ (by decide)
  have h2 : i % 18 < 18 := Int.emod_lt_of_pos _ (by decide)
  rw [eq__law_odd]; unfold b__law_odd
  simp (disch := omega)
  generalize i % 18 = j at *
  obtain ⟨t, e, ht⟩ := pick_ok (P := Odd) (L := [.non, .bl true, .bl false, .int (-1), .int 0, .int 1, .int 40, .int 41, .int 1000000000, .int 1000000001, .int 100000000000000000000000000000000000000000000000000000000000, .str "", .str "1", .lst [], .lst [.int 1], .tup [], .tup [.int 1], .dic []]) rfl h1 h2 (fun t ht => by
    have I : ∀ i : Int, i.natAbs ≤ 100000000000000000000000000000000000000000000000000000000000 → Odd (.int i) := fun i h => (Pd.int (Nat.lt_of_le_of_lt h (by decide +kernel))).mono
    simp at ht
    rcases ht with e | e | e | e | e | e | e | e | e | e | e | e | e | e | e | e | e | e <;> subst e
    · exact Pd.non.mono
    · exact (Pd.bl _).mono
    · exact (Pd.bl _).mono
    · exact I _ (by decide)
    · exact I _ (by decide)
    · exact I _ (by decide)
    · exact I _ (by decide)
    · exact I _ (by decide)
    · exact I _ (by decide)
    · exact I _ (by decide)
    · exact I _ (by decide +kernel)
    · exact (Pd.str (w := 101) (by decide +kernel)).mono
    · exact (Pd.str (w := 101) (by decide +kernel)).mono
    · exact Pd.lstL (n := 0) (w := 101) (L := 2) (fun t h => by cases h) (by simp)
    · exact Pd.lstL (n := 0) (w := 101) (L := 2) (fun t h => by rw [List.mem_singleton.mp h]; exact .int (by decide +kernel)) (by simp)
    · exact Pd.tupL (n := 0) (w := 101) (L := 2) (fun t h => by cases h) (by simp)
    · exact Pd.tupL (n := 0) (w := 101) (L := 2) (fun t h => by rw [List.mem_singleton.mp h]; exact .int (by decide +kernel)) (by simp)
    · exact Pd.dic.mono)
  rw [e]
  exact ⟨t, rfl, ht⟩
theorem law_at_eq {xs : List T} {p : Nat} (hl : xs.length ≤ 1000) (t : T) : dn__law_at [.lst xs, .int p, t] = .ok (.lst (xs.take p ++ [t] ++ xs.drop (p + 1))) := by
  rw [eq__law_at]; unfold b__law_at
  have c1 : ∀ ys : List T, cut ys (some ((p : Int) + 1)) none = ys.drop (p + 1) := fun ys => cut_some_none ys (p + 1)
  have h1 : (xs.take p).length ≤ 1000 := by simp; omega
  have h2 : (xs.drop (p + 1)).length ≤ 1000 := by simp; omega
  generalize hA : xs.take p = A at *
  generalize hB : xs.drop (p + 1) = B at *
  simp (disch := omega) [c1, hA, hB]
theorem mem_at {xs : List T} {p : Nat} {t u : T} (h : u ∈ xs.take p ++ [t] ++ xs.drop (p + 1)) : u = t ∨ u ∈ xs := by
  simp only [List.mem_append, List.mem_singleton] at h
  rcases h with (h | h) | h
  · exact .inr (List.mem_of_mem_take h)
  · exact .inl h
  · exact .inr (List.mem_of_mem_drop h)
theorem len_at {xs : List T} {p : Nat} {t : T} (h : p < xs.length) : (xs.take p ++ [t] ++ xs.drop (p + 1)).length = xs.length := by
  simp; omega
/-- digits -/
structure Dg (D : T) (x : Nat → Int) : Prop where
  a0 : ixT D (.int 0) = some (.int (x 0))
  a1 : ixT D (.int 1) = some (.int (x 1))
  a2 : ixT D (.int 2) = some (.int (x 2))
  a3 : ixT D (.int 3) = some (.int (x 3))
  a4 : ixT D (.int 4) = some (.int (x 4))
  a5 : ixT D (.int 5) = some (.int (x 5))
  a6 : ixT D (.int 6) = some (.int (x 6))
theorem dg_of {ds : List Int} (h : 7 ≤ ds.length) : Dg (.lst (ds.map .int)) fun k => ds.getD k 0 := by
  have key : ∀ k : Nat, k < 7 → (ds.map T.int)[k]? = some (.int (ds.getD k 0)) := fun k hk => ints_at (by omega)
  refine ⟨?_, ?_, ?_, ?_, ?_, ?_, ?_⟩
  · have := key 0 (by omega); simpa using this
  · have := key 1 (by omega); simpa using this
  · have := key 2 (by omega); simpa using this
  · have := key 3 (by omega); simpa using this
  · have := key 4 (by omega); simpa using this
  · have := key 5 (by omega); simpa using this
  · have := key 6 (by omega); simpa using this
theorem Pd.day {d : Day} (h : d.ok) : Pd 1 420 (eD d) := by
  obtain ⟨h1, h2, h3, h4, h5, h6, h7⟩ := h
  refine Pd.tupL (n := 0) (w := 101) (L := 4) (fun t ht => ?_) (by simp)
  simp at ht
  rcases ht with e | e | e | e <;> subst e
  · exact .int (small (by omega))
  · exact .int (small (by omega))
  · exact .int (small (by omega))
  · exact .eO fun i e => by have := h7 i e; exact small (by omega)
def Dy (t : T) : Prop := Pd 2 2200 t
theorem day_spoilt_ok {d : Day} (hd : d.ok) {D : T} {x : Nat → Int} (hD : Dg D x) : ∃ t, dn__law_day_spoilt [eD d, D] = .ok t ∧ Dy t := by
  have pd := Pd.day hd
  obtain ⟨h1, h2, h3, h4, h5, h6, h7⟩ := hd
  have pi : ∀ i : Int, -1000000000000 ≤ i ∧ i ≤ 1000000000000 → Pd 1 420 (.int i) := fun i h => (Pd.int (small h)).mono
  have q1 := pi d.want (by omega)
  have q2 := pi d.loaf (by omega)
  have q3 := pi d.keep (by omega)
  have q4 : Pd 1 420 (eO d.fine) := (Pd.eO fun i e => by have := h7 i e; exact small (by omega)).mono
  rw [eq__law_day_spoilt]; unfold b__law_day_spoilt
  obtain ⟨o, ho, po⟩ := odd_ok (x 3)
  have po : Pd 1 420 o := po.mono
  have hD3 := hD.a3
  have hD4 := hD.a4
  have hD5 := hD.a5
  have e4a : 0 ≤ x 4 % 4 := Int.emod_nonneg _ (by decide)
  have e4b : x 4 % 4 < 4 := Int.emod_lt_of_pos _ (by decide)
  have e5a : 0 ≤ x 5 % 8 := Int.emod_nonneg _ (by decide)
  have e5b : x 5 % 8 < 8 := Int.emod_lt_of_pos _ (by decide)
  unfold eD at pd ⊢
  generalize T.int d.want = a at *
  generalize T.int d.loaf = b at *
  generalize T.int d.keep = c at *
  generalize DL.eO d.fine = f at *
  have P : ∀ ts : List T, ts.length ≤ 5 → (∀ t ∈ ts, t = a ∨ t = b ∨ t = c ∨ t = f ∨ t = o) → Dy (.tup ts) := fun ts hl h =>
    (Pd.tupL (n := 1) (w := 420) (L := 5) (W := 2113) (fun t ht => by rcases h t ht with rfl | rfl | rfl | rfl | rfl <;> assumption) hl).mono (by omega)
  have P2 : Dy (.lst [a, b, c, f]) := (Pd.lstL (n := 1) (w := 420) (L := 5) (W := 2113) (fun t ht => by simp at ht; rcases ht with rfl | rfl | rfl | rfl <;> assumption) (by simp)).mono (by omega)
  have P7 : Dy (.tup [.tup [a, b, c, f]]) := (Pd.tupL (n := 1) (w := 420) (L := 5) (W := 2113) (fun t ht => by simp at ht; subst ht; exact pd) (by simp)).mono (by omega)
  have P5 : Dy o := po.mono
  have P3 := P [a, b, c] (by simp) (by simp)
  have P4 := P [a, b, c, f, o] (by simp) (by simp)
  have P6 := P [f, c, b, a] (by simp) (by simp)
  have hp : x 4 % 4 = 0 ∨ x 4 % 4 = 1 ∨ x 4 % 4 = 2 ∨ x 4 % 4 = 3 := by omega
  rcases hp with e | e | e | e
  · have A := P [o, b, c, f] (by simp) (by simp)
    have B := P [] (by simp) (by simp)
    obtain ⟨t, et, ht⟩ := pick_ok (P := Dy) (L := [.tup [o, b, c, f], .lst [a, b, c, f], .tup [a, b, c], .tup [a, b, c, f, o], o, .tup [f, c, b, a], .tup [.tup [a, b, c, f]], .tup []]) rfl e5a e5b (fun t ht => by
      simp at ht
      rcases ht with rfl | rfl | rfl | rfl | rfl | rfl | rfl | rfl <;> assumption)
    refine ⟨t, ?_, ht⟩
    simp (disch := omega) [hD3, hD4, hD5, ho, e, et]
  · have A := P [a, o, c, f] (by simp) (by simp)
    have B := P [a] (by simp) (by simp)
    obtain ⟨t, et, ht⟩ := pick_ok (P := Dy) (L := [.tup [a, o, c, f], .lst [a, b, c, f], .tup [a, b, c], .tup [a, b, c, f, o], o, .tup [f, c, b, a], .tup [.tup [a, b, c, f]], .tup [a]]) rfl e5a e5b (fun t ht => by
      simp at ht
      rcases ht with rfl | rfl | rfl | rfl | rfl | rfl | rfl | rfl <;> assumption)
    refine ⟨t, ?_, ht⟩
    simp (disch := omega) [hD3, hD4, hD5, ho, e, et]
  · have A := P [a, b, o, f] (by simp) (by simp)
    have B := P [a, b] (by simp) (by simp)
    obtain ⟨t, et, ht⟩ := pick_ok (P := Dy) (L := [.tup [a, b, o, f], .lst [a, b, c, f], .tup [a, b, c], .tup [a, b, c, f, o], o, .tup [f, c, b, a], .tup [.tup [a, b, c, f]], .tup [a, b]]) rfl e5a e5b (fun t ht => by
      simp at ht
      rcases ht with rfl | rfl | rfl | rfl | rfl | rfl | rfl | rfl <;> assumption)
    refine ⟨t, ?_, ht⟩
    simp (disch := omega) [hD3, hD4, hD5, ho, e, et]
  · have A := P [a, b, c, o] (by simp) (by simp)
    obtain ⟨t, et, ht⟩ := pick_ok (P := Dy) (L := [.tup [a, b, c, o], .lst [a, b, c, f], .tup [a, b, c], .tup [a, b, c, f, o], o, .tup [f, c, b, a], .tup [.tup [a, b, c, f]], .tup [a, b, c]]) rfl e5a e5b (fun t ht => by
      simp at ht
      rcases ht with rfl | rfl | rfl | rfl | rfl | rfl | rfl | rfl <;> assumption)
    refine ⟨t, ?_, ht⟩
    simp (disch := omega) [hD3, hD4, hD5, ho, e, et]
def Gd (t : T) : Prop := Pd 4 271000 t
theorem good_spoilt_ok {g : Good} {n : Nat} (hg : g.ok n) (h1 : 1 ≤ n) (h40 : n ≤ 40) {D : T} {x : Nat → Int} (hD : Dg D x) : ∃ t, dn__law_good_spoilt [eG g, D] = .ok t ∧ Gd t := by
  obtain ⟨g1, g2, g3⟩ := hg
  have pl : Pd 0 101 (eO g.life) := Pd.eO fun i e => by have := g3 i e; exact small (by omega)
  rw [eq__law_good_spoilt]; unfold b__law_good_spoilt eG
  have rl : (g.days.map eD).length = n := by simp [g1]
  have rp : ∀ t ∈ g.days.map eD, Dy t := fun t ht => by
    obtain ⟨d, hd, rfl⟩ := List.mem_map.mp ht
    exact (Pd.day (g2 d hd)).mono
  have hD2 := hD.a2
  have hD3 := hD.a3
  have hD5 := hD.a5
  have hD6 := hD.a6
  obtain ⟨o, ho, po⟩ := odd_ok (x 3)
  have pa : 0 ≤ x 2 % (n : Int) := Int.emod_nonneg _ (by omega)
  have pb : x 2 % (n : Int) < n := Int.emod_lt_of_pos _ (by omega)
  have e5a : 0 ≤ x 5 % 10 := Int.emod_nonneg _ (by decide)
  have e5b : x 5 % 10 < 10 := Int.emod_lt_of_pos _ (by decide)
  obtain ⟨k, hk⟩ : ∃ k : Nat, x 2 % (n : Int) = k := ⟨(x 2 % (n : Int)).toNat, by omega⟩
  have hk2 : k < n := by omega
  obtain ⟨d, hd, hdk⟩ : ∃ d ∈ g.days, (g.days.map eD)[k]? = some (eD d) := ⟨g.days[k]'(by omega), List.getElem_mem _, by rw [List.getElem?_map, List.getElem?_eq_getElem (by omega)]; rfl⟩
  obtain ⟨u, hu, pu⟩ := day_spoilt_ok (g2 d hd) hD
  generalize DL.eO g.life = life at *
  generalize g.days.map eD = rows at *
  generalize eD d = ed at *
  have R : ∀ ts : List T, ts.length ≤ 41 → (∀ t ∈ ts, Dy t) → Pd 3 90300 (.lst ts) := fun ts hl h => (Pd.lstL (n := 2) (w := 2200) (L := 41) (W := 90300) h hl)
  have Rt : ∀ ts : List T, ts.length ≤ 41 → (∀ t ∈ ts, Dy t) → Pd 3 90300 (.tup ts) := fun ts hl h => (Pd.tupL (n := 2) (w := 2200) (L := 41) (W := 90300) h hl)
  have pl3 : Pd 3 90300 life := pl.mono
  have po3 : Pd 3 90300 o := po.mono
  have pr : Pd 3 90300 (.lst rows) := R rows (by omega) rp
  have G : ∀ ts : List T, ts.length ≤ 3 → (∀ t ∈ ts, Pd 3 90300 t) → Gd (.tup ts) := fun ts hl h => Pd.tupL (n := 3) (w := 90300) (L := 3) h hl
  have lr := law_at_eq (xs := rows) (p := k) (by omega) u
  have pat : Pd 3 90300 (.lst (rows.take k ++ [u] ++ rows.drop (k + 1))) := R _ (by rw [len_at (by omega)]; omega) fun t ht => (mem_at ht).elim (fun e => by rw [e]; exact pu) (rp t)
  by_cases h6 : x 6 < 4
  · refine ⟨.tup [.lst (rows.take k ++ [u] ++ rows.drop (k + 1)), life], ?_, G _ (by simp) (by simp; exact ⟨by simpa using pat, pl3⟩)⟩
    generalize rows.take k ++ [u] ++ rows.drop (k + 1) = rw' at *
    simp (disch := omega) [hD2, hD6, h6, rl, hk, hdk, hu, lr, -getElem?_pos]
  · have d1 : ∀ t ∈ rows.drop 1, Dy t := fun t ht => rp t (List.mem_of_mem_drop ht)
    have d2 : ∀ t ∈ rows ++ rows.take 1, Dy t := fun t ht => (List.mem_append.mp ht).elim (rp t) fun h => rp t (List.mem_of_mem_take h)
    have l1 : (rows.drop 1).length ≤ 41 := by simp; omega
    have l2 : (rows ++ rows.take 1).length ≤ 41 := by simp; omega
    have p1 := R _ l1 d1
    have p2 := R _ l2 d2
    have p3 := Rt rows (by omega) rp
    have lt1 : (rows.take 1).length ≤ 1000 := by simp; omega
    have pd0 : Pd 3 90300 (.dic []) := Pd.dic.mono
    have pL : Gd (.lst [.lst rows, life]) := (Pd.lstL (n := 3) (w := 90300) (L := 3) (W := 271000) (fun t ht => by simp at ht; rcases ht with rfl | rfl <;> assumption) (by simp))
    have pO : Gd o := po.mono
    obtain ⟨t, et, ht⟩ := pick_ok (P := Gd) (L := [.tup [.lst rows, o], .tup [.lst (rows.drop 1), life], .tup [.lst (rows ++ rows.take 1), life], .tup [.tup rows, life], .lst [.lst rows, life], .tup [.lst rows], .tup [.lst rows, life, life], o, .tup [.dic [], life], .tup [life, .lst rows]]) rfl e5a e5b (fun t ht => by
      simp only [List.mem_cons, List.not_mem_nil, or_false] at ht
      rcases ht with rfl | rfl | rfl | rfl | rfl | rfl | rfl | rfl | rfl | rfl
      · exact G _ (by simp) (by simp only [List.mem_cons, List.not_mem_nil, or_false]; rintro t (rfl | rfl) <;> assumption)
      · exact G _ (by simp) (by simp only [List.mem_cons, List.not_mem_nil, or_false]; rintro t (rfl | rfl) <;> assumption)
      · exact G _ (by simp) (by simp only [List.mem_cons, List.not_mem_nil, or_false]; rintro t (rfl | rfl) <;> assumption)
      · exact G _ (by simp) (by simp only [List.mem_cons, List.not_mem_nil, or_false]; rintro t (rfl | rfl) <;> assumption)
      · exact pL
      · exact G _ (by simp) (by simp only [List.mem_cons, List.not_mem_nil, or_false]; rintro t rfl; assumption)
      · exact G _ (by simp) (by simp only [List.mem_cons, List.not_mem_nil, or_false]; rintro t (rfl | rfl | rfl) <;> assumption)
      · exact pO
      · exact G _ (by simp) (by simp only [List.mem_cons, List.not_mem_nil, or_false]; rintro t (rfl | rfl) <;> assumption)
      · exact G _ (by simp) (by simp only [List.mem_cons, List.not_mem_nil, or_false]; rintro t (rfl | rfl) <;> assumption))
    refine ⟨t, ?_, ht⟩
    have tk : cut rows none (some 1) = rows.take 1 := cut_n1 rows
    have dk : cut rows (some 1) none = rows.drop 1 := cut_1n rows
    generalize hA : rows.take 1 = A at *
    generalize hB : rows.drop 1 = B at *
    simp (disch := omega) [hD2, hD3, hD5, hD6, h6, rl, ho, et, tk, dk, hA, hB]
theorem Pd.good {g : Good} {n : Nat} (hg : g.ok n) (hn : n ≤ 40) : Gd (eG g) := by
  obtain ⟨g1, g2, g3⟩ := hg
  have pr : Pd 3 90300 (.lst (g.days.map eD)) := Pd.lstL (n := 2) (w := 2200) (L := 41) (W := 90300) (fun t ht => by
    obtain ⟨d, hd, rfl⟩ := List.mem_map.mp ht
    exact (Pd.day (g2 d hd)).mono) (by simp; omega)
  have pl : Pd 3 90300 (DL.eO g.life) := (Pd.eO fun i e => by have := g3 i e; exact small (by omega)).mono
  exact Pd.tupL (n := 3) (w := 90300) (L := 3) (fun t ht => by simp at ht; rcases ht with rfl | rfl <;> assumption) (by simp)
def Bk (t : T) : Prop := Pd 6 6600000 t
abbrev Pt (t : T) : Prop := Pd 5 1630000 t
theorem Bk.tup {ts : List T} (hl : ts.length ≤ 4) (h : ∀ t ∈ ts, Pt t) : Bk (.tup ts) := Pd.tupL (n := 5) (w := 1630000) (L := 4) h hl
theorem Bk.lst {ts : List T} (hl : ts.length ≤ 4) (h : ∀ t ∈ ts, Pt t) : Bk (.lst ts) := Pd.lstL (n := 5) (w := 1630000) (L := 4) h hl
theorem Pt.goods {ts : List T} (hl : ts.length ≤ 6) (h : ∀ t ∈ ts, Gd t) : Pt (.lst ts) := Pd.lstL (n := 4) (w := 271000) (L := 6) h hl
theorem Pt.goodsT {ts : List T} (hl : ts.length ≤ 6) (h : ∀ t ∈ ts, Gd t) : Pt (.tup ts) := Pd.tupL (n := 4) (w := 271000) (L := 6) h hl
theorem Pt.lights {ts : List T} (hl : ts.length ≤ 41) (h : ∀ t ∈ ts, Odd t) : Pt (.lst ts) := (Pd.lstL (n := 1) (w := 300) (L := 41) (W := 12400) h hl).mono
theorem Pt.lightsT {ts : List T} (hl : ts.length ≤ 41) (h : ∀ t ∈ ts, Odd t) : Pt (.tup ts) := (Pd.tupL (n := 1) (w := 300) (L := 41) (W := 12400) h hl).mono
theorem Odd.pt {t : T} (h : Odd t) : Pt t := h.mono
theorem Pt.good {t : T} (h : Gd t) : Pt t := h.mono
theorem mem_rep {xs : List T} {k m : Nat} {t : T} (h : t ∈ ((List.replicate k xs).flatten).take m) : t ∈ xs := by
  have h := List.mem_of_mem_take h
  obtain ⟨l, hl, ht⟩ := List.mem_flatten.mp h
  rw [(List.mem_replicate.mp hl).2] at ht
  exact ht
theorem mul41 {xs : List T} (h : xs.length ≤ 40) : mulT (.lst xs) (.int 41) = some (.lst (List.replicate 41 xs).flatten) := by
  rw [mulT_lk (by omega) (by show xs.length * 41 ≤ 10000; omega)]; rfl
theorem spoilt_ok {B : Bakery} (ok : B.ok) {D : T} {x : Nat → Int} (hD : Dg D x) : ∃ t, dn__law_spoilt [eB B, D] = .ok t ∧ Bk t := by
  have n1 := ok.l1
  have n40 := ok.l2
  have m1 := ok.g1
  have m2 := ok.g2
  rw [eq__law_spoilt]; unfold b__law_spoilt eB
  have ll : (B.lights.map T.int).length = B.lights.length := by simp
  have lg : (B.goods.map eG).length = B.goods.length := by simp
  have lp : ∀ t ∈ B.lights.map T.int, Odd t := fun t ht => by
    obtain ⟨l, hl, rfl⟩ := List.mem_map.mp ht
    have := ok.ls l hl
    exact (Pd.int (small ⟨by have := this.1; omega, by have := this.2; omega⟩)).mono
  have gp : ∀ t ∈ B.goods.map eG, Gd t := fun t ht => by
    obtain ⟨g, hg, rfl⟩ := List.mem_map.mp ht
    exact Pd.good (ok.gs g hg) n40
  have bp : Odd (DL.eO B.bound) := (Pd.eO fun i e => by have := ok.bd i e; exact small (by omega)).mono
  have hD0 := hD.a0
  have hD1 := hD.a1
  have hD2 := hD.a2
  have hD3 := hD.a3
  have hD5 := hD.a5
  obtain ⟨o, ho, po⟩ := odd_ok (x 3)
  -- where
  have ga : 0 ≤ x 1 % (B.goods.length : Int) := Int.emod_nonneg _ (by omega)
  have gb : x 1 % (B.goods.length : Int) < B.goods.length := Int.emod_lt_of_pos _ (by omega)
  obtain ⟨j, hj⟩ : ∃ j : Nat, x 1 % (B.goods.length : Int) = j := ⟨(x 1 % (B.goods.length : Int)).toNat, by omega⟩
  have hj2 : j < B.goods.length := by omega
  have la : 0 ≤ x 2 % (B.lights.length : Int) := Int.emod_nonneg _ (by omega)
  have lb : x 2 % (B.lights.length : Int) < B.lights.length := Int.emod_lt_of_pos _ (by omega)
  obtain ⟨k, hk⟩ : ∃ k : Nat, x 2 % (B.lights.length : Int) = k := ⟨(x 2 % (B.lights.length : Int)).toNat, by omega⟩
  have hk2 : k < B.lights.length := by omega
  obtain ⟨g, hg, hgj⟩ : ∃ g ∈ B.goods, (B.goods.map eG)[j]? = some (eG g) := ⟨B.goods[j], List.getElem_mem _, by rw [List.getElem?_map, List.getElem?_eq_getElem hj2]; rfl⟩
  obtain ⟨u, hu, pu⟩ := good_spoilt_ok (ok.gs g hg) n1 n40 hD
  -- the goods, made longer
  have mm : 0 ≤ x 5 % 4 ∧ x 5 % 4 < 4 := ⟨Int.emod_nonneg _ (by decide), Int.emod_lt_of_pos _ (by decide)⟩
  obtain ⟨many, hmany, hm41⟩ : ∃ many : Nat, atI [T.int 0, .int 39, .int 40, .int 41] (x 5 % 4) = some (.int (many : Int)) ∧ many ≤ 41 := by
    have : x 5 % 4 = 0 ∨ x 5 % 4 = 1 ∨ x 5 % 4 = 2 ∨ x 5 % 4 = 3 := by omega
    rcases this with e | e | e | e <;> rw [e]
    · exact ⟨0, rfl, by omega⟩
    · exact ⟨39, rfl, by omega⟩
    · exact ⟨40, rfl, by omega⟩
    · exact ⟨41, rfl, by omega⟩
  obtain ⟨lon, hlon⟩ : ∃ lon : Good → T, lon = fun g => .tup [.lst ((List.replicate 41 (g.days.map eD)).flatten.take many), DL.eO g.life] := ⟨_, rfl⟩
  have lonp : ∀ t ∈ B.goods.map lon, Gd t := fun t ht => by
    obtain ⟨g, hg, rfl⟩ := List.mem_map.mp ht
    rw [hlon]
    obtain ⟨g1, g2, g3⟩ := ok.gs g hg
    have pr : Pd 3 90300 (.lst ((List.replicate 41 (g.days.map eD)).flatten.take many)) := Pd.lstL (n := 2) (w := 2200) (L := 41) (W := 90300) (fun t ht => by
      obtain ⟨d, hd, rfl⟩ := List.mem_map.mp (mem_rep ht)
      exact (Pd.day (g2 d hd)).mono) (by rw [List.length_take]; omega)
    have pl : Pd 3 90300 (DL.eO g.life) := (Pd.eO fun i e => by have := g3 i e; exact small (by omega)).mono
    exact Pd.tupL (n := 3) (w := 90300) (L := 3) (fun t ht => by simp only [List.mem_cons, List.not_mem_nil, or_false] at ht; rcases ht with rfl | rfl <;> assumption) (by simp)
  have lonl : (B.goods.map lon).length = B.goods.length := by simp
  have hc : ∀ v0 v1 v2 v3 v4 v5 v6 v8 : Option (T × Bool), compL (gTp 2 (DL.gCons (gNm 9) (DL.gCons (gNm 10) DL.gNil))) dYes (dTup (dCons (dSlice (d2 mulT (dVar 9) (dC (.int 41))) dPn (dPs (dVar 7))) (dCons (dVar 10) dNil))) [v0, v1, v2, v3, v4, v5, v6, some (.int many, false), v8, none, none] (B.goods.map eG) = .ok (B.goods.map lon) := fun v0 v1 v2 v3 v4 v5 v6 v8 => by
    apply compL_map
    intro g hg
    have gl : (g.days.map eD).length ≤ 40 := by rw [List.length_map, (ok.gs g hg).1]; omega
    rw [cturn_ap, hlon]
    show _ = R.ok (some (T.tup [T.lst ((List.replicate 41 (g.days.map eD)).flatten.take many), DL.eO g.life]))
    unfold eG
    generalize g.days.map eD = rows at *
    have m := mul41 gl
    have cn : ∀ ys : List T, cut ys none (some (many : Int)) = ys.take many := fun ys => cut_none_some ys many
    generalize (List.replicate 41 rows).flatten = fl at *
    simp (disch := omega) [m, cn]
  have mL := mul41 (xs := B.lights.map T.int) (by rw [ll]; omega)
  have lonL : ∀ t ∈ (List.replicate 41 (B.lights.map T.int)).flatten.take many, Odd t := fun t ht => lp t (mem_rep ht)
  have lonLl : ((List.replicate 41 (B.lights.map T.int)).flatten.take many).length ≤ 41 := by rw [List.length_take]; omega
  have g0 : (B.goods.map eG)[0]? = some (eG B.goods[0]) := by rw [List.getElem?_map, List.getElem?_eq_getElem (by omega)]; rfl
  have pg0 : Gd (eG B.goods[0]) := gp _ (List.mem_map.mpr ⟨_, List.getElem_mem _, rfl⟩)
  generalize DL.eO B.bound = bd at *
  generalize B.goods.map lon = lons at *
  generalize B.goods.map eG = gs at *
  generalize B.lights.map T.int = ls at *
  generalize eG B.goods[0] = gz at *
  generalize eG g = ge at *
  have pls : Pt (.lst ls) := .lights (by omega) lp
  have pgs : Pt (.lst gs) := .goods (by omega) gp
  have pbd : Pt bd := bp.pt
  have poo : Pt o := po.pt
  have cn : ∀ ys : List T, cut ys none (some (many : Int)) = ys.take many := fun ys => cut_none_some ys many
  by_cases h0 : x 0 = 0
  · have lr := law_at_eq (xs := ls) (p := k) (by omega) o
    have pa : Pt (.lst (ls.take k ++ [o] ++ ls.drop (k + 1))) := .lights (by rw [len_at (by omega)]; omega) fun t ht => (mem_at ht).elim (fun e => by rw [e]; exact po) (lp t)
    generalize ls.take k ++ [o] ++ ls.drop (k + 1) = ys at *
    refine ⟨.tup [.lst ys, bd, .lst gs], ?_, Bk.tup (by simp) (by simp only [List.mem_cons, List.not_mem_nil, or_false]; rintro t (rfl | rfl | rfl) <;> assumption)⟩
    simp (disch := omega) [hD0, hD1, hD2, hD3, h0, ll, lg, hk, ho, lr]
  by_cases h1 : x 0 = 1
  · refine ⟨.tup [.lst ls, o, .lst gs], ?_, Bk.tup (by simp) (by simp only [List.mem_cons, List.not_mem_nil, or_false]; rintro t (rfl | rfl | rfl) <;> assumption)⟩
    simp (disch := omega) [hD0, hD1, hD2, hD3, h0, h1, ll, lg, ho]
  by_cases h6 : x 0 < 6
  · have lr := law_at_eq (xs := gs) (p := j) (by omega) u
    have pa : Pt (.lst (gs.take j ++ [u] ++ gs.drop (j + 1))) := .goods (by rw [len_at (by omega)]; omega) fun t ht => (mem_at ht).elim (fun e => by rw [e]; exact pu) (gp t)
    generalize gs.take j ++ [u] ++ gs.drop (j + 1) = ys at *
    refine ⟨.tup [.lst ls, bd, .lst ys], ?_, Bk.tup (by simp) (by simp only [List.mem_cons, List.not_mem_nil, or_false]; rintro t (rfl | rfl | rfl) <;> assumption)⟩
    simp (disch := omega) [hD0, hD1, hD2, hD3, h0, h1, h6, ll, lg, hj, hgj, hu, lr, -getElem?_pos]
  by_cases h7 : x 0 = 6
  · have pL : Pt (.lst ((List.replicate 41 ls).flatten.take many)) := .lights lonLl lonL
    have pG : Pt (.lst lons) := .goods (by omega) lonp
    refine ⟨.tup [.lst ((List.replicate 41 ls).flatten.take many), bd, .lst lons], ?_, Bk.tup (by simp) (by simp only [List.mem_cons, List.not_mem_nil, or_false]; rintro t (rfl | rfl | rfl) <;> assumption)⟩
    have fz : lons.length ≤ 100000 := by omega
    generalize hF : (List.replicate 41 ls).flatten = fl at *
    simp (disch := omega) [hD0, hD1, hD2, hD3, hD5, h7, ll, lg, hmany, hc, mL, hF, cn, fitL_ok fz]
  by_cases h8 : x 0 = 7
  · have m3 : mulT (.lst gs) (.int 3) = some (.lst (List.replicate 3 gs).flatten) := by
      rw [mulT_lk (by omega) (by show gs.length * 3 ≤ 10000; omega)]; rfl
    have m2' : mulT (.lst (gs.take 1)) (.int 2) = some (.lst (List.replicate 2 (gs.take 1)).flatten) := by
      rw [mulT_lk (by omega) (by show (gs.take 1).length * 2 ≤ 10000; rw [List.length_take]; omega)]; rfl
    have tk : cut gs none (some 1) = gs.take 1 := cut_n1 gs
    have e5a : 0 ≤ x 5 % 6 := Int.emod_nonneg _ (by decide)
    have e5b : x 5 % 6 < 6 := Int.emod_lt_of_pos _ (by decide)
    have q1 : Pt (.lst []) := .goods (by simp) (fun t h => by cases h)
    have q2 : Pt (.lst (List.replicate 3 gs).flatten) := .goods (by simp; omega) fun t ht => by
      obtain ⟨l, hl, ht⟩ := List.mem_flatten.mp ht
      rw [(List.mem_replicate.mp hl).2] at ht
      exact gp t ht
    have q3 : Pt (.tup gs) := .goodsT (by omega) gp
    have q4 : Pt gz := Pt.good pg0
    have q5 : Pt (.lst (List.replicate 2 (gs.take 1)).flatten) := .goods (by simp; omega) fun t ht => by
      obtain ⟨l, hl, ht⟩ := List.mem_flatten.mp ht
      rw [(List.mem_replicate.mp hl).2] at ht
      exact gp t (List.mem_of_mem_take ht)
    have q6 : Pt .non := Pd.non.mono
    obtain ⟨t, et, ht⟩ := pick_ok (P := Pt) (L := [.lst [], .lst (List.replicate 3 gs).flatten, .tup gs, gz, .non, .lst (List.replicate 2 (gs.take 1)).flatten]) rfl e5a e5b (fun t ht => by
      simp only [List.mem_cons, List.not_mem_nil, or_false] at ht
      rcases ht with rfl | rfl | rfl | rfl | rfl | rfl <;> assumption)
    refine ⟨.tup [.lst ls, bd, t], ?_, Bk.tup (by simp) (by simp only [List.mem_cons, List.not_mem_nil, or_false]; rintro t (rfl | rfl | rfl) <;> assumption)⟩
    generalize hA : (List.replicate 3 gs).flatten = A3 at *
    generalize hC : gs.take 1 = C1 at *
    generalize hB : (List.replicate 2 C1).flatten = B2 at *
    simp (disch := omega) [hD0, hD1, hD2, hD3, hD5, h0, h1, h6, h7, h8, ll, lg, m3, m2', tk, hA, hB, hC, et, g0, -getElem?_pos]
  · have e5a : 0 ≤ x 5 % 10 := Int.emod_nonneg _ (by decide)
    have e5b : x 5 % 10 < 10 := Int.emod_lt_of_pos _ (by decide)
    have T3 : ∀ ts : List T, ts.length ≤ 4 → (∀ t ∈ ts, Pt t) → Bk (.tup ts) := fun ts hl h => Bk.tup hl h
    have q6 : Pt .non := Pd.non.mono
    have q7 : Pt (.tup ls) := .lightsT (by omega) lp
    have r1 : Bk (.lst [.lst ls, bd, .lst gs]) := Bk.lst (by simp) (by simp only [List.mem_cons, List.not_mem_nil, or_false]; rintro t (rfl | rfl | rfl) <;> assumption)
    have r2 : Bk (.tup [.lst ls, bd]) := T3 _ (by simp) (by simp only [List.mem_cons, List.not_mem_nil, or_false]; rintro t (rfl | rfl) <;> assumption)
    have r3 : Bk (.tup [.lst ls, bd, .lst gs, .non]) := T3 _ (by simp) (by simp only [List.mem_cons, List.not_mem_nil, or_false]; rintro t (rfl | rfl | rfl | rfl) <;> assumption)
    have r4 : Bk (.tup []) := T3 _ (by simp) (fun t h => by cases h)
    have r5 : Bk .non := Pd.non.mono
    have r6 : Bk (.lst ls) := Pd.mono pls
    have r7 : Bk (.tup [.tup ls, bd, .lst gs]) := T3 _ (by simp) (by simp only [List.mem_cons, List.not_mem_nil, or_false]; rintro t (rfl | rfl | rfl) <;> assumption)
    have r8 : Bk (.str "") := (Pd.str (w := 101) (by decide +kernel)).mono
    have r9 : Bk (.dic []) := Pd.dic.mono
    have r10 : Bk (.lst gs) := Pd.mono pgs
    obtain ⟨t, et, ht⟩ := pick_ok (P := Bk) (L := [.lst [.lst ls, bd, .lst gs], .tup [.lst ls, bd], .tup [.lst ls, bd, .lst gs, .non], .tup [], .non, .lst ls, .tup [.tup ls, bd, .lst gs], .str "", .dic [], .lst gs]) rfl e5a e5b (fun t ht => by
      simp only [List.mem_cons, List.not_mem_nil, or_false] at ht
      rcases ht with rfl | rfl | rfl | rfl | rfl | rfl | rfl | rfl | rfl | rfl <;> assumption)
    refine ⟨t, ?_, ht⟩
    simp (disch := omega) [hD0, hD1, hD2, hD3, hD5, h0, h1, h6, h7, h8, ll, lg, et]
end Pg

set_option maxHeartbeats 2000000
/-! refusals told; a law's cells -/
namespace Pg
open PySem L2 DL BK
theorem noBk_good (g d : T) : List.lookup ("good" : Str) (noBk g d) = some g := rfl
theorem noBk_day (g d : T) : List.lookup ("day" : Str) (noBk g d) = some d := rfl
theorem enum_ints {xs : List Int} {t : T} (ht : t ∈ enumL (xs.map T.int)) : ∃ (k : Nat) (c : Int), t = .tup [.int k, .int c] ∧ k < xs.length := by
  rw [enumL_map] at ht
  obtain ⟨⟨c, k⟩, hc, rfl⟩ := List.mem_map.mp ht
  have := List.mem_zipIdx hc
  simp at this
  exact ⟨k, c, rfl, by omega⟩
def plainB : T → Bool
  | .tup [_, bd, .lst gs] => isNonB bd && decide (gs.length = 1)
  | _ => false
theorem plainB_3 {a bd : T} {gs : List T} : plainB (.tup [a, bd, .lst gs]) = (isNonB bd && decide (gs.length = 1)) := rfl
theorem bakeryW_ok {t : T} (h : bakeryW t = none) : ∃ ls bd gs, t = .tup [.lst ls, bd, .lst gs] ∧ frameB t = true := by
  cases q : frameB t with
  | true =>
    obtain ⟨ls, bd, gs, rfl⟩ := frameB_is q
    exact ⟨ls, bd, gs, rfl, rfl⟩
  | false => rw [bakeryW_no q] at h; cases h
theorem is_plain_one_eq {a bd : T} {gs : List T} : dn_is_plain_one [.tup [a, bd, .lst gs]] = .ok (.bl (isNonB bd && decide (gs.length = 1))) := by
  rw [eq_is_plain_one]; unfold b_is_plain_one
  generalize e : isNonB bd = z
  cases z <;> simp [e, isNonT]
  omega
theorem is_plain_eq {t : T} (h : kd 5 t = true) : dn_is_plain [t] = match bakeryW t with
    | none => .ok (.bl (plainB t))
    | some (g, d) => .ex "NoBakery" (noBk g d) := by
  have l := look_at_bakery_eq h
  rw [eq_is_plain]; unfold b_is_plain
  cases q : bakeryW t with
  | none =>
    rw [q] at l
    obtain ⟨ls, bd, gs, rfl, _⟩ := bakeryW_ok q
    simp [l, is_plain_one_eq, plainB_3]
  | some p =>
    obtain ⟨g, d⟩ := p
    rw [q] at l
    simp [l]
theorem kT_bakeryW {t g d : T} (h : bakeryW t = some (g, d)) (n : Nat) : kT n g = true ∧ kT n d = true := by
  have gd : ∀ {many : Nat} {g d : T}, goodW many g = some d → kT n d = true := fun {many g d} h => by
    unfold goodW at h
    split at h
    · split at h
      · obtain ⟨i, _, rfl⟩ := Option.map_eq_some_iff.mp h
        simp
      · cases h; simp
    · cases h; simp
  have gs : ∀ (many : Nat) (xs : List T) (k : Nat) {g d : T}, goodsW many k xs = some (g, d) → kT n g = true ∧ kT n d = true := fun many xs => by
    induction xs with
    | nil => intro k g d h; cases h
    | cons x xs ih =>
      intro k g d h
      unfold goodsW at h
      split at h
      · rename_i d' e
        cases h
        exact ⟨by simp, gd e⟩
      · exact ih _ h
  unfold bakeryW at h
  split at h
  · split at h
    · exact gs _ _ _ h
    · cases h; simp
  · cases h; simp
/-- what the laws' sums of digits are -/
theorem digits_of (c s : Int) (zs : List Int) (hs : -1000000 ≤ s ∧ s ≤ 1000000) (hz : ∀ z ∈ zs, 0 < z ∧ z ≤ 1000000000000) (hl : zs.length ≤ 1000) :
    ∃ (dT : List T) (x : Nat → Int), dn__law_numbers [.int c, .int s, .lst (zs.map .int)] = .ok (.lst dT) ∧ dT.length = zs.length ∧ (∀ i, i < zs.length → 0 ≤ x i ∧ x i < zs.getD i 0) ∧ ∀ i, i < zs.length → dT[i]? = some (.int (x i)) := by
  have hz1 : ∀ z ∈ zs, 0 < z := fun z h => (hz z h).1
  exact ⟨(drawn c s zs).map .int, fun k => (drawn c s zs).getD k 0, numbers_eq c s zs hs (fun z h => ⟨(hz z h).1, by have := (hz z h).2; omega⟩) hl, by rw [List.length_map, drawn_len hz1], fun i h => drawn_at hz1 i h, fun i h => ints_at (by rw [drawn_len hz1]; exact h)⟩
theorem dg_drop {dT : List T} {x : Nat → Int} {n : Nat} (h : ∀ i, i < n → dT[i]? = some (.int (x i))) (k : Nat) (hk : k + 7 ≤ n) : Dg (.lst (dT.drop k)) fun i => x (k + i) := by
  have key : ∀ i : Nat, i < 7 → (dT.drop k)[i]? = some (.int (x (k + i))) := fun i hi => by rw [List.getElem?_drop, h _ (by omega)]
  generalize dT.drop k = E at *
  refine ⟨?_, ?_, ?_, ?_, ?_, ?_, ?_⟩
  · have := key 0 (by omega); simpa using this
  · have := key 1 (by omega); simpa using this
  · have := key 2 (by omega); simpa using this
  · have := key 3 (by omega); simpa using this
  · have := key 4 (by omega); simpa using this
  · have := key 5 (by omega); simpa using this
  · have := key 6 (by omega); simpa using this
theorem dg_all {dT : List T} {x : Nat → Int} {n : Nat} (h : ∀ i, i < n → dT[i]? = some (.int (x i))) (hk : 7 ≤ n) : Dg (.lst dT) x := by
  have := dg_drop h 0 (by omega)
  simp only [List.drop_zero, Nat.zero_add] at this
  exact this
theorem bakery_bk {B : Bakery} (ok : B.ok) : Bk (eB B) := by
  unfold eB
  have lp : ∀ t ∈ B.lights.map T.int, Odd t := fun t ht => by
    obtain ⟨l, hl, rfl⟩ := List.mem_map.mp ht
    have := ok.ls l hl
    exact (Pd.int (small ⟨by have := this.1; omega, by have := this.2; omega⟩)).mono
  have gp : ∀ t ∈ B.goods.map eG, Gd t := fun t ht => by
    obtain ⟨g, hg, rfl⟩ := List.mem_map.mp ht
    exact Pd.good (ok.gs g hg) ok.l2
  have bp : Odd (DL.eO B.bound) := (Pd.eO fun i e => by have := ok.bd i e; exact small (by omega)).mono
  have pls : Pt (.lst (B.lights.map T.int)) := .lights (by have := ok.l2; simp; omega) lp
  have pgs : Pt (.lst (B.goods.map eG)) := .goods (by have := ok.g2; simp; omega) gp
  have pbd : Pt (DL.eO B.bound) := bp.pt
  exact Bk.tup (by simp) (by simp only [List.mem_cons, List.not_mem_nil, or_false]; rintro t (rfl | rfl | rfl) <;> assumption)
theorem bakery_good {B : Bakery} (ok : B.ok) : bakeryW (eB B) = none := by
  have l := look_at_bakery_eq ((bakery_bk ok).kd 5)
  rw [look_at_bakery_ok ok] at l
  cases q : bakeryW (eB B) with
  | none => rfl
  | some p => obtain ⟨g, d⟩ := p; rw [q] at l; cases l
theorem Bk.repr {t : T} (h : Bk t) : reprL [t] = some (.str (py t).shown) := repr_of h.sh (by decide) (by decide)
end Pg

set_option maxHeartbeats 2000000
/-! prices -/
namespace Pg
open PySem L2 DL BK
theorem slice_map (f : Day → T) (xs : List Day) (a b : Nat) : List.take (b - a) (List.drop a (List.map f xs)) = (slice xs a b).map f := by unfold slice; rw [List.map_take, List.map_drop]
theorem slice_len {α : Type} (xs : List α) (a b : Nat) : (slice xs a b).length ≤ xs.length := by unfold slice; simp; omega
theorem nights_ahead_eq (g : Good) (b v : Nat) (hl : g.days.length ≤ 1000) : dn_nights_ahead [.lst (g.days.map eD), eO g.life, .int b, .int v] = .ok (eO (if longB g.life ((v : Int) - b) = true then none else some (g.keeps b v))) := by
  rw [eq_nights_ahead]; unfold b_nights_ahead
  have hc : compL (gTp 4 (DL.gCons (gNm 4) (DL.gCons (gNm 5) (DL.gCons (gNm 6) (DL.gCons (gNm 7) DL.gNil))))) dYes (dVar 6) [some (T.lst (g.days.map eD), false), some (eO g.life, false), some (.int b, false), some (.int v, false), none, none, none, none] ((slice g.days b v).map eD) = .ok ((slice g.days b v).map fun d => .int d.keep) := by
    apply compL_map
    intro d hd
    rw [cturn_ap]
    simp [eD]
  have hlen := slice_len g.days b v
  cases e : g.life with
  | none =>
    rw [e] at hc
    simp at hc
    simp (disch := omega) [slice_map, hc, longB, Good.keeps]
  | some l =>
    rw [e] at hc
    simp at hc
    by_cases hx : l < (v : Int) - b
    · simp [hx, longB]
    · simp (disch := omega) [slice_map, hc, longB, hx, Good.keeps]
theorem nums_eO : ∀ fs : List (Option Int), none ∉ fs → nums (fs.map eO) = some (fs.map fun x => x.getD 0)
  | [], _ => rfl
  | none :: fs, h => by simp at h
  | some x :: fs, h => by
    rw [List.map_cons, eO_some, nums_cons, nums_eO fs (fun z => h (by simp [z]))]; rfl
theorem nights_behind_eq (g : Good) (b v : Nat) (hl : g.days.length ≤ 1000) : dn_nights_behind [.lst (g.days.map eD), .int b, .int v] = .ok (eO (g.fines b v)) := by
  rw [eq_nights_behind]; unfold b_nights_behind
  have hc : compL (gTp 4 (DL.gCons (gNm 4) (DL.gCons (gNm 5) (DL.gCons (gNm 6) (DL.gCons (gNm 7) DL.gNil))))) dYes (dVar 7) [some (T.lst (g.days.map eD), false), some (.int b, false), some (.int v, false), none, none, none, none, none] ((slice g.days v b).map eD) = .ok (((slice g.days v b).map Day.fine).map eO) := by
    rw [List.map_map]
    apply compL_map
    intro d hd
    rw [cturn_ap]
    simp [eD]
  have hlen := slice_len g.days v b
  simp at hc
  simp (disch := omega) [slice_map, hc]
  have e2 : List.map (eO ∘ Day.fine) (slice g.days v b) = ((slice g.days v b).map Day.fine).map eO := by rw [List.map_map]
  rw [e2, inT_non]
  unfold Good.fines osumL
  by_cases h : none ∈ (slice g.days v b).map Day.fine
  · rw [decide_eq_true h, if_pos h]; simp
  · rw [decide_eq_false h, if_neg h]
    have n := nums_eO _ h
    simp at n
    simp [n]
theorem price_of_eq (g : Good) (b v : Nat) (hl : g.days.length ≤ 1000) (hb : b < g.days.length) : dn_price_of [eG g, .int b, .int v] = .ok (eO (g.price b v)) := by
  rw [eq_price_of]; unfold b_price_of eG
  have a := nights_ahead_eq g b v hl
  have f := nights_behind_eq g b v hl
  have hd : (g.days.map eD)[b]? = some (eD (g.day b)) := by
    unfold Good.day
    rw [List.getElem?_map, List.getD_eq_getElem?_getD, List.getElem?_eq_getElem hb]; rfl
  have hd2 : g.days[b]? = some (g.day b) := by
    unfold Good.day
    rw [List.getD_eq_getElem?_getD, List.getElem?_eq_getElem hb]; rfl
  unfold Good.price Good.nights
  by_cases h : b ≤ v
  · have h' : (b : Int) ≤ v := by omega
    rw [if_pos h]
    generalize (if longB g.life ((v : Int) - b) = true then none else some (g.keeps b v)) = o at *
    cases o with
    | none => simp [h', h, a]
    | some n => simp [h', h, a, hd2, eD]
  · have h' : ¬ (b : Int) ≤ v := by omega
    rw [if_neg h]
    generalize g.fines b v = o at *
    cases o with
    | none => simp [h', h, f]
    | some n => simp [h', h, f, hd2, eD]
theorem good_at {B : Bakery} {j : Nat} (h : j < B.goods.length) : B.goods[j]? = some B.goods[j] := List.getElem?_eq_getElem h
theorem price_eq {B : Bakery} (ok : B.ok) {j b v : Nat} (hj : j < B.goods.length) (hb : b < B.lights.length) (hv : v < B.lights.length) : dn_price [eB B, .int j, .int b, .int v] = .ok (eO (B.goods[j].price b v)) := by
  rw [eq_price]; unfold b_price
  have g := ok.gs _ (List.getElem_mem hj)
  have l := look_at_bakery_ok ok
  have n := look_at_number_ok (B := B) (j := j) (by omega) (by omega)
  have d1 := look_at_day_ok (B := B) (j := b) (by omega) (by omega)
  have d2 := look_at_day_ok (B := B) (j := v) (by omega) (by omega)
  have := ok.l2
  have p := price_of_eq B.goods[j] b v (by rw [g.1]; omega) (by rw [g.1]; exact hb)
  simp [l, n, d1, d2]
  unfold eB
  simp [good_at hj, p]
end Pg

set_option maxHeartbeats 2000000
/-! the row of least costs -/
namespace Pg
open PySem L2 DL BK
theorem lesser_eq (a b : Option Int) : dn_lesser [eO a, eO b] = .ok (eO (omin a b)) := by
  rw [eq_lesser]; unfold b_lesser
  cases a with
  | none => cases b <;> simp [omin]
  | some x => cases b <;> simp [omin]
theorem together_eq (a b : Option Int) : dn_together [eO a, eO b] = .ok (eO (oadd a b)) := by
  rw [eq_together]; unfold b_together
  cases a with
  | none => cases b <;> simp [oadd]
  | some x => cases b <;> simp [oadd]
theorem sum_le {xs : List Int} {M : Int} (h : ∀ x ∈ xs, x ≤ M) : xs.sum ≤ M * xs.length := by
  induction xs with
  | nil => simp
  | cons x xs ih =>
    have h1 := h x (by simp)
    have h2 := ih fun y hy => h y (by simp [hy])
    rw [List.sum_cons, List.length_cons]
    have : M * ((xs.length + 1 : Nat) : Int) = M * xs.length + M := by rw [Int.natCast_add, Int.mul_add]; simp
    omega
theorem day_ok {g : Good} {n : Nat} (ok : g.ok n) {i : Nat} (h : i < n) : (g.day i).ok := by
  unfold Good.day
  have : i < g.days.length := by rw [ok.1]; exact h
  rw [List.getD_eq_getElem?_getD, List.getElem?_eq_getElem this]
  exact ok.2.1 _ (List.getElem_mem this)
theorem price_bd {g : Good} {n : Nat} (ok : g.ok n) (hn : n ≤ 40) {b v : Nat} (hb : b < n) {x : Int} (h : g.price b v = some x) : 0 ≤ x ∧ x ≤ 41000000000 := by
  have dk := day_ok ok hb
  have hl : ∀ a c : Nat, (slice g.days a c).length ≤ 40 := fun a c => by have := slice_len g.days a c; rw [ok.1] at this; omega
  have mem : ∀ {a c : Nat} {d : Day}, d ∈ slice g.days a c → d.ok := fun {a c d} h => ok.2.1 d (List.mem_of_mem_drop (List.mem_of_mem_take h))
  unfold Good.price at h
  obtain ⟨m, hm, rfl⟩ := Option.map_eq_some_iff.mp h
  have key : 0 ≤ m ∧ m ≤ 40000000000 := by
    unfold Good.nights at hm
    split at hm
    · split at hm
      · cases hm
      · cases hm
        unfold Good.keeps
        refine ⟨sum_nonneg fun y hy => ?_, ?_⟩
        · obtain ⟨d, h1, h2⟩ := List.mem_map.mp hy
          subst h2; exact (mem h1).2.2.2.2.1
        · have := sum_le (xs := (slice g.days b v).map Day.keep) (M := 1000000000) fun y hy => by
            obtain ⟨d, h1, h2⟩ := List.mem_map.mp hy
            subst h2; exact (mem h1).2.2.2.2.2.1
          have := hl b v
          rw [List.length_map] at *
          omega
    · unfold Good.fines osumL at hm
      split at hm
      · cases hm
      · cases hm
        refine ⟨sum_nonneg fun y hy => ?_, ?_⟩
        · obtain ⟨f, h1, h2⟩ := List.mem_map.mp hy
          obtain ⟨d, h3, h4⟩ := List.mem_map.mp h1
          subst h2
          cases hf : f with
          | none => exact Int.le_refl _
          | some z => exact ((mem h3).2.2.2.2.2.2 z (by rw [h4, hf])).1
        · have := sum_le (xs := ((slice g.days v b).map Day.fine).map fun x => x.getD 0) (M := 1000000000) fun y hy => by
            obtain ⟨f, h1, h2⟩ := List.mem_map.mp hy
            obtain ⟨d, h3, h4⟩ := List.mem_map.mp h1
            subst h2
            cases hf : f with
            | none => decide
            | some z => exact ((mem h3).2.2.2.2.2.2 z (by rw [h4, hf])).2
          have := hl v b
          rw [List.length_map, List.length_map] at *
          omega
  have := dk.2.2.1
  have := dk.2.2.2.1
  omega
theorem days_range (g : Good) : g.days.map eD = (List.range g.days.length).map fun k => eD (g.day k) := map_range eD g.days default
theorem prices_from_eq (g : Good) {n b : Nat} (ok : g.ok n) (hn : n ≤ 40) (hb : b < n) : dn_prices_from [eG g, .int b] = .ok (.lst ((List.range n).map fun v => eO (g.price b v))) := by
  rw [eq_prices_from]; unfold b_prices_from
  have hx : ixT (eG g) (.int 0) = some (.lst (g.days.map eD)) := by simp [eG]
  have hl := ok.1
  simp (disch := omega) [hx, hl]
  rw [rngT_eq, compL_map (fun (i : Nat) => T.int (i : Int)) (fun v => eO (g.price b v))]
  · simp (disch := omega)
  · intro v hv
    rw [cturn_ap]
    simp [price_of_eq g b v (by omega) (by omega)]
theorem wants_from_eq (g : Good) {n b : Nat} (ok : g.ok n) (hn : n ≤ 40) (hb : b < n) : dn_wants_from [eG g, .int b] = .ok (.lst ((List.range n).map fun v => eO (g.cost b v))) := by
  rw [eq_wants_from]; unfold b_wants_from
  have hx : ixT (eG g) (.int 0) = some (.lst ((List.range n).map fun k => eD (g.day k))) := by
    have := days_range g
    rw [ok.1] at this
    simp [eG, ← this]
  have p := prices_from_eq g ok hn hb
  have L := forL_seq (g := gTp 2 (DL.gCons (gNm 3) (DL.gCons (gNm 4) DL.gNil))) (body := b_wants_from_p1) (fun k => .tup [eD (g.day k), eO (g.price b k)]) (fun k => [some (eG g, false), some (.int b, false), some (.lst ((List.range k).map fun v => eO (g.cost b v)), true), none, none]) (n := n) fun k hk => ?_
  · simp (disch := omega) [hx, p]
    rw [zip_range]
    simp at L
    simp [L]
  · have dk := day_ok ok hk
    unfold b_wants_from_p1
    rw [range_snoc]
    have hc : g.cost b k = if (g.day k).want = 0 then some 0 else (g.price b k).map fun p => (g.day k).want * p := rfl
    rw [hc]
    by_cases hw : (g.day k).want = 0
    · simp (disch := omega) [eD, hw]
    · cases hp : g.price b k with
      | none => simp (disch := omega) [eD, hw]
      | some x =>
        have := price_bd ok hn hb hp
        have := dk.1
        have := dk.2.1
        simp (disch := omega) [eD, hw]
theorem unlit_eq (g : Good) {n : Nat} (ok : g.ok n) (hn : n ≤ 40) : dn_unlit [eG g] = .ok (.lst ((List.range (n + 1)).map fun j => eO (R0 g.zw j))) := by
  rw [eq_unlit]; unfold b_unlit
  have hx : ixT (eG g) (.int 0) = some (.lst ((List.range n).map fun k => eD (g.day k))) := by
    have := days_range g
    rw [ok.1] at this
    simp [eG, ← this]
  have L := forL_seq (g := gTp 4 (DL.gCons (gNm 2) (DL.gCons (gNm 3) (DL.gCons (gNm 4) (DL.gCons (gNm 5) DL.gNil))))) (body := b_unlit_p1) (fun k => eD (g.day k)) (fun k => [some (eG g, false), some (.lst ((List.range (k + 1)).map fun v => eO (R0 g.zw v)), true), none, none, none, none]) (n := n) fun k hk => ?_
  · simp [R0] at L
    simp (disch := omega) [hx, L]
  · unfold b_unlit_p1
    rw [range_snoc _ (k + 1)]
    have hl := range_last (fun v => eO (R0 g.zw v)) k
    have hr : R0 g.zw (k + 1) = if g.zw k = true then R0 g.zw k else none := rfl
    have hz : g.zw k = decide ((g.day k).want = 0) := rfl
    rw [hr, hz]
    by_cases hw : (g.day k).want = 0
    · simp (disch := omega) [eD, hw, hl]
    · simp (disch := omega) [eD, hw]
theorem lit_row_eq (light : Int) (n : Nat) (hn : n ≤ 40) (c : Nat → Nat → Option Int) (R : Nat → Option Int) (i : Nat) :
    dn_lit_row [.int light, .lst ((List.range n).map fun v => eO (c i v)), .lst ((List.range (n + 1)).map fun j => eO (R j))] = .ok (.lst ((List.range (n + 1)).map fun j => eO (oadd (Tb c R i j) (some light)))) := by
  rw [eq_lit_row]; unfold b_lit_row
  have L := forL_seq (g := gTp 2 (DL.gCons (gNm 5) (DL.gCons (gNm 6) DL.gNil))) (body := b_lit_row_p1) (fun k => .tup [.int k, eO (c i k)]) (fun k => [some (.int light, false), some (.lst ((List.range n).map fun v => eO (c i v)), false), some (.lst ((List.range (n + 1)).map fun j => eO (R j)), false), some (.lst ((List.range (k + 1)).map fun j => eO (oadd (Tb c R i j) (some light))), true), some (eO (Tb c R i k), false), none, none]) (n := n) fun k hk => ?_
  · simp [show Tb c R i 0 = none from rfl, none_oadd] at L
    simp (disch := omega) [enum_range, L]
  · unfold b_lit_row_p1
    rw [range_snoc _ (k + 1)]
    have hk1 := range_at (fun j => eO (R j)) (show k < n + 1 by omega)
    have ht : Tb c R i (k + 1) = oadd (omin (Tb c R i k) (R k)) (c i k) := rfl
    have e1 := lesser_eq (Tb c R i k) (R k)
    have e2 := together_eq (omin (Tb c R i k) (R k)) (c i k)
    have e3 := together_eq (oadd (omin (Tb c R i k) (R k)) (c i k)) (some light)
    simp at e3
    rw [ht]
    simp (disch := omega) [hk1, e1, e2, e3]
def lit (ls : List Int) (k : Nat) : Int := ls.getD k 0
/-- the row of i days that may be lit, of j wants -/
def RR (ls : List Int) (g : Good) (i j : Nat) : Option Int := Rw (lit ls) g.zw g.cost i j
def rowT (ls : List Int) (g : Good) (i : Nat) : T := .lst ((List.range (ls.length + 1)).map fun j => eO (RR ls g i j))
theorem RR_zero (ls : List Int) (g : Good) (j : Nat) : RR ls g 0 j = R0 g.zw j := rfl
theorem RR_succ (ls : List Int) (g : Good) (i j : Nat) : RR ls g (i + 1) j = omin (RR ls g i j) (oadd (Tb g.cost (RR ls g i) i j) (some (lit ls i))) := rfl
theorem lights_range (ls : List Int) : ls.map T.int = (List.range ls.length).map fun k => T.int (lit ls k) := map_range T.int ls 0
theorem known_rows_eq {ls : List Int} {g : Good} (ok : (⟨ls, none, [g]⟩ : Bakery).ok) : dn_known_rows [eB ⟨ls, none, [g]⟩] = .ok (.lst ((List.range (ls.length + 1)).map (rowT ls g))) := by
  rw [eq_known_rows]; unfold b_known_rows
  have gk := ok.gs g (by simp)
  have hn : ls.length ≤ 40 := ok.l2
  have hx : ixT (eB ⟨ls, none, [g]⟩) (.int 2) = some (.lst [eG g]) := by simp [eB]
  have hx0 : ixT (eB ⟨ls, none, [g]⟩) (.int 0) = some (.lst ((List.range ls.length).map fun k => .int (lit ls k))) := by
    simp only [eB, ixT_tup, atI_zero, List.getElem?_cons_zero, lights_range ls]
  have u := unlit_eq g gk hn
  have L := forL_seq (g := gTp 2 (DL.gCons (gNm 3) (DL.gCons (gNm 4) DL.gNil))) (body := b_known_rows_p1) (fun k => .tup [.int k, .int (lit ls k)]) (fun k => [some (eB ⟨ls, none, [g]⟩, false), some (eG g, false), some (.lst ((List.range (k + 1)).map (rowT ls g)), true), none, none, none, none, none]) (n := ls.length) fun k hk => ?_
  · rw [show (List.range (0 + 1)).map (rowT ls g) = [rowT ls g 0] from rfl] at L
    have u' : dn_unlit [eG g] = .ok (rowT ls g 0) := u
    simp (disch := omega) [hx, hx0, u', enum_range, L]
  · unfold b_known_rows_p1
    rw [range_snoc _ (k + 1)]
    have hl := range_last (rowT ls g) k
    have w := wants_from_eq g gk hn hk
    have lr := lit_row_eq (lit ls k) ls.length hn g.cost (RR ls g k) k
    have hc : ∀ ev : Lo, ev.length = 8 → compL (gTp 2 (DL.gCons (gNm 6) (DL.gCons (gNm 7) DL.gNil))) dYes (dCall dn_lesser (dCons (dVar 6) (dCons (dVar 7) dNil))) ev ((List.range (ls.length + 1)).map fun j => .tup [eO (RR ls g k j), eO (oadd (Tb g.cost (RR ls g k) k j) (some (lit ls k)))])
        = .ok ((List.range (ls.length + 1)).map fun j => eO (RR ls g (k + 1) j)) := fun ev hev => by
      match ev, hev with
      | [v0, v1, v2, v3, v4, v5, v6, v7], _ =>
        apply compL_map
        intro j hj
        rw [cturn_ap]
        simp [lesser_eq, RR_succ]
    have w' : dn_wants_from [eG g, .int k] = .ok (.lst ((List.range ls.length).map fun v => eO (g.cost k v))) := w
    have lr2 : dn_lit_row [.int (lit ls k), .lst ((List.range ls.length).map fun v => eO (g.cost k v)), rowT ls g k] = .ok (.lst ((List.range (ls.length + 1)).map fun j => eO (oadd (Tb g.cost (RR ls g k) k j) (some (lit ls k))))) := lr
    have zr : zipT [rowT ls g k, .lst ((List.range (ls.length + 1)).map fun j => eO (oadd (Tb g.cost (RR ls g k) k j) (some (lit ls k))))] = some ((List.range (ls.length + 1)).map fun j => .tup [eO (RR ls g k j), eO (oadd (Tb g.cost (RR ls g k) k j) (some (lit ls k)))]) := by
      unfold rowT
      rw [zipT_lst, zip_range]
    simp (disch := omega) [hl, w', lr2, zr]
    rw [hc _ rfl]
    have e2 : rowT ls g (k + 1) = .lst ((List.range (ls.length + 1)).map fun j => eO (RR ls g (k + 1) j)) := rfl
    simp (disch := omega) [e2]
theorem least_row_eq {ls : List Int} {g : Good} (ok : (⟨ls, none, [g]⟩ : Bakery).ok) : dn_least_row [eB ⟨ls, none, [g]⟩] = .ok (.lst ((List.range (ls.length + 1)).map fun i => eO (RR ls g i i))) := by
  rw [eq_least_row]; unfold b_least_row
  have k := known_rows_eq ok
  have p := look_at_plain_ok ok
  have hn : ls.length ≤ 40 := ok.l2
  simp [k, p, enum_range]
  rw [compL_map (fun k : Nat => T.tup [T.int k, rowT ls g k]) (fun i : Nat => eO (RR ls g i i))]
  · simp (disch := omega)
  · intro i hi
    have hi : i < ls.length + 1 := List.mem_range.mp hi
    rw [cturn_ap]
    have := range_at (fun j => eO (RR ls g i j)) hi
    simp [rowT, this]
end Pg

namespace BK
section
variable {L L' : Nat → Int} {z z' : Nat → Bool} {c c' : Nat → Nat → Option Int}
theorem Tb_congr {R R' : Nat → Option Int} {i J : Nat} (hR : ∀ j, j ≤ J → R j = R' j) (hc : ∀ v, v < J → c i v = c' i v) : ∀ j, j ≤ J → Tb c R i j = Tb c' R' i j
  | 0, _ => rfl
  | j + 1, hj => by
    show oadd (omin (Tb c R i j) (R j)) (c i j) = oadd (omin (Tb c' R' i j) (R' j)) (c' i j)
    rw [Tb_congr hR hc j (by omega), hR j (by omega), hc j (by omega)]
theorem R0_congr {J : Nat} (hz : ∀ v, v < J → z v = z' v) : ∀ j, j ≤ J → R0 z j = R0 z' j
  | 0, _ => rfl
  | j + 1, hj => by
    show (if z j = true then R0 z j else none) = if z' j = true then R0 z' j else none
    rw [hz j (by omega), R0_congr hz j (by omega)]
theorem Rw_congr {I J : Nat} (hL : ∀ i, i < I → L i = L' i) (hz : ∀ v, v < J → z v = z' v) (hc : ∀ i v, i < I → v < J → c i v = c' i v) : ∀ i, i ≤ I → ∀ j, j ≤ J → Rw L z c i j = Rw L' z' c' i j
  | 0, _, j, hj => R0_congr hz j hj
  | i + 1, hi, j, hj => by
    have ih := Rw_congr hL hz hc i (by omega)
    show omin (Rw L z c i j) (oadd (Tb c (Rw L z c i) i j) (some (L i))) = omin (Rw L' z' c' i j) (oadd (Tb c' (Rw L' z' c' i) i j) (some (L' i)))
    rw [ih j hj, hL i (by omega), Tb_congr ih (fun v hv => hc i v (by omega) hv) j hj]
theorem sc_succ (S : Nat → Bool) (i j : Nat) : sc L z c S i (j + 1) = oadd (sc L z c S i j) (mn z c S i j) := by
  unfold sc
  show oadd _ (oadd (osum (mn z c S i) 0 j) (mn z c S i (0 + j))) = _
  rw [Nat.zero_add, oadd_assoc]
/-- a day without a want costs no more -/
theorem Rw_free (D : Dom z c) (hL : ∀ i, 0 ≤ L i) {i j : Nat} (h : z j = true) : Le (Rw L z c i (j + 1)) (Rw L z c i j) := by
  obtain ⟨S, hS⟩ := Rw_is (L := L) D i j
  refine (Rw_le D hL S i (j + 1)).trans ?_
  rw [sc_succ, mn_free D h, oadd_zero]
  exact hS
theorem Rw_day {i : Nat} : Le (Rw L z c (i + 1) (i + 1)) (oadd (oadd (Rw L z c i i) (c i i)) (some (L i))) := by
  refine (omin_le2 _ _).trans (oadd_le ?_ (Le.refl _))
  have := T_le (c := c) (R := Rw L z c i) (i := i) (k := i) (n := 1) (by omega)
  refine this.trans ?_
  show Le (oadd _ (oadd (some 0) (c i (i + 0)))) _
  rw [zero_oadd]; exact Le.refl _
theorem mn_nonneg (hc : ∀ i v x, c i v = some x → 0 ≤ x) {S : Nat → Bool} {v : Nat} : ∀ {i : Nat} {x : Int}, mn z c S i v = some x → 0 ≤ x
  | 0, x, h => by
    have h : (if z v = true then some 0 else none) = some x := h
    split at h
    · cases h; exact Int.le_refl _
    · cases h
  | i + 1, x, h => by
    have h : (if S i = true then omin (mn z c S i v) (c i v) else mn z c S i v) = some x := h
    split at h
    · rcases omin_or (mn z c S i v) (c i v) with e | e
      · rw [e] at h; exact mn_nonneg hc h
      · rw [e] at h; exact hc _ _ _ h
    · exact mn_nonneg hc h
/-- where no want can be baked for later, the row never falls -/
theorem Rw_rise (D : Dom z c) (hL : ∀ i, 0 ≤ L i) (hc : ∀ i v x, c i v = some x → 0 ≤ x) {i : Nat} (hn : ∀ v, v < i → z v = false → c i v = none) : Le (Rw L z c i i) (Rw L z c (i + 1) (i + 1)) := by
  obtain ⟨S, hS⟩ := Rw_is (L := L) D (i + 1) (i + 1)
  refine Le.trans ?_ hS
  refine (Rw_le D hL S i i).trans ?_
  intro y hy
  rw [sc_succ] at hy
  cases e1 : sc L z c S (i + 1) i with
  | none => rw [e1] at hy; cases hy
  | some a =>
    cases e2 : mn z c S (i + 1) i with
    | none => rw [e1, e2] at hy; cases hy
    | some b =>
      rw [e1, e2] at hy
      cases hy
      have hb := mn_nonneg hc e2
      have hm : ∀ v, v < i → mn z c S (i + 1) v = mn z c S i v := fun v hv => by
        show (if S i = true then omin (mn z c S i v) (c i v) else mn z c S i v) = _
        cases hz : z v with
        | true => rw [mn_free D hz, D.free i v hz]; split <;> rfl
        | false => rw [hn v hv hz]; split <;> cases mn z c S i v <;> rfl
      have : Le (sc L z c S i i) (sc L z c S (i + 1) i) := by
        unfold sc
        rw [osum_congr (f := mn z c S (i + 1)) (g := mn z c S i) fun v _ hv => hm v (by omega)]
        refine oadd_le (Le.sm ?_) (Le.refl _)
        show lt L S i ≤ lt L S i + if S i = true then L i else 0
        have := hL i
        split <;> omega
      obtain ⟨x, h1, h2⟩ := this a e1
      exact ⟨x, h1, by omega⟩
/-- .. and no less -/
theorem Rw_free' (D : Dom z c) (hL : ∀ i, 0 ≤ L i) {i j : Nat} (h : z j = true) : Rw L z c i (j + 1) = Rw L z c i j := by
  refine Le.antisymm (Rw_free D hL h) ?_
  obtain ⟨S, hS⟩ := Rw_is (L := L) D i (j + 1)
  rw [sc_succ, mn_free D h, oadd_zero] at hS
  exact (Rw_le D hL S i j).trans hS
theorem Rw_zero : ∀ i, Rw L z c i 0 = some 0
  | 0 => rfl
  | i + 1 => by
    show omin (Rw L z c i 0) (oadd none (some (L i))) = some 0
    rw [Rw_zero i]; rfl
/-- where each want can be baked on its own day -/
theorem Rw_some (D : Dom z c) (hL : ∀ i, 0 ≤ L i) {i j : Nat} (hj : j ≤ i) (hc : ∀ v, v < j → c v v ≠ none) : ∃ x, Rw L z c i j = some x := by
  have key : ∀ v, v < j → mn z c (fun _ => true) i v ≠ none := fun v hv e => by
    have := mn_le (z := z) (c := c) (S := fun _ => true) (v := v) (s := v) rfl (i := i) (by omega)
    rw [e] at this
    exact hc v hv (le_none this)
  have ks : ∀ n, n ≤ j → ∃ x, osum (mn z c (fun _ => true) i) 0 n = some x := fun n => by
    induction n with
    | zero => exact fun _ => ⟨0, rfl⟩
    | succ n ih =>
      intro hn
      obtain ⟨x, hx⟩ := ih (by omega)
      cases e : mn z c (fun _ => true) i n with
      | none => exact absurd e (key n (by omega))
      | some y => exact ⟨x + y, by show oadd (osum _ 0 n) (mn z c _ i (0 + n)) = _; rw [hx, Nat.zero_add, e]; rfl⟩
  obtain ⟨x, hx⟩ := ks j (Nat.le_refl _)
  obtain ⟨y, h1, _⟩ := Rw_le D hL (fun _ => true) i j (lt L (fun _ => true) i + x) (by unfold sc; rw [hx]; rfl)
  exact ⟨y, h1⟩
end
def Good.take (g : Good) (k : Nat) : Good := ⟨g.days.take k, g.life⟩
theorem slice_take {α : Type} (xs : List α) {a b k : Nat} (h : b ≤ k) : slice (xs.take k) a b = slice xs a b := by
  unfold slice
  rw [List.drop_take, List.take_take]
  congr 1
  omega
theorem day_take (g : Good) {i k : Nat} (h : i < k) : (g.take k).day i = g.day i := by
  unfold Good.day Good.take
  simp [List.getD_eq_getElem?_getD, List.getElem?_take, h]
theorem price_take (g : Good) {b v k : Nat} (hb : b < k) (hv : v < k) : (g.take k).price b v = g.price b v := by
  unfold Good.price Good.nights Good.keeps Good.fines
  rw [day_take g hb]
  show Option.map _ (if b ≤ v then (if longB g.life ((v : Int) - b) = true then none else some ((slice (g.days.take k) b v).map Day.keep).sum) else osumL ((slice (g.days.take k) v b).map Day.fine)) = _
  rw [slice_take _ (by omega), slice_take _ (by omega)]
theorem cost_take (g : Good) {b v k : Nat} (hb : b < k) (hv : v < k) : (g.take k).cost b v = g.cost b v := by
  unfold Good.cost
  rw [day_take g hv, price_take g hb hv]
theorem zw_take (g : Good) {v k : Nat} (hv : v < k) : (g.take k).zw v = g.zw v := by
  unfold Good.zw; rw [day_take g hv]
theorem own_price {g : Good} {n : Nat} (ok : g.ok n) (v : Nat) : g.price v v = some (g.day v).loaf := by
  unfold Good.price Good.nights
  have h : longB g.life ((v : Int) - v) = false := by
    unfold longB
    cases e : g.life with
    | none => rfl
    | some l => have := ok.2.2 l e; simp; omega
  rw [if_pos (Nat.le_refl _), h]
  unfold Good.keeps slice
  simp
theorem own_cost {g : Good} {n : Nat} (ok : g.ok n) (v : Nat) : g.cost v v = some ((g.day v).want * (g.day v).loaf) := by
  unfold Good.cost
  rw [own_price ok]
  by_cases h : (g.day v).want = 0
  · rw [if_pos h, h, Int.zero_mul]
  · rw [if_neg h]; rfl
theorem loaf_nonneg {g : Good} {n : Nat} (ok : g.ok n) (b : Nat) : 0 ≤ (g.day b).loaf := by
  unfold Good.day
  rw [List.getD_eq_getElem?_getD]
  cases e : g.days[b]? with
  | none => exact Int.le_refl _
  | some d => exact (ok.2.1 _ (List.mem_of_getElem? e)).2.2.1
theorem price_nonneg {g : Good} {n : Nat} (ok : g.ok n) {b v : Nat} {x : Int} (h : g.price b v = some x) : 0 ≤ x := by
  have hl := loaf_nonneg ok b
  have p := price_pr g b v
  rw [h] at p
  cases p with
  | ahead h1 h2 => have := pre_mono (f := Day.keep) (xs := g.days) (fun d hd => (ok.2.1 d hd).2.2.2.2.1) h1; omega
  | late h1 h2 =>
    have := pre_mono (f := fun d => d.fine.getD 0) (xs := g.days) (fun d hd => by
      cases e : d.fine with
      | none => show (0 : Int) ≤ (none : Option Int).getD 0; exact Int.le_refl _
      | some f => exact ((ok.2.1 d hd).2.2.2.2.2.2 f e).1) (Nat.le_of_lt h1)
    omega
theorem cost_nonneg {g : Good} {n : Nat} (ok : g.ok n) {b v : Nat} {x : Int} (h : g.cost b v = some x) : 0 ≤ x := by
  unfold Good.cost at h
  split at h
  · cases h; exact Int.le_refl _
  · obtain ⟨p, hp, rfl⟩ := Option.map_eq_some_iff.mp h
    exact Int.mul_nonneg (want_nonneg ok v) (price_nonneg ok hp)
/-- a price is told as ahead of the end; beyond it there is none -/
theorem day_out {g : Good} {n : Nat} (ok : g.ok n) {v : Nat} (h : n ≤ v) : (g.day v).want = 0 := by
  unfold Good.day
  rw [List.getD_eq_getElem?_getD, List.getElem?_eq_none (by rw [ok.1]; exact h)]; rfl
/-- without fines nothing is baked late -/
theorem no_late {g : Good} {n : Nat} (ok : g.ok n) (hf : ∀ d ∈ g.days, d.fine = none) {b v : Nat} (h : v < b) (hv : v < n) : g.price b v = none := by
  have p := price_pr g b v
  generalize g.price b v = o at p
  cases p with
  | ahead h1 _ => omega
  | old _ _ _ _ => rfl
  | never _ _ => rfl
  | late _ hp =>
    have hv' : v < g.days.length := by rw [ok.1]; exact hv
    exact absurd (hf _ (List.getElem_mem hv')) (hp v _ (Nat.le_refl _) h (List.getElem?_eq_getElem hv'))
end BK

set_option maxHeartbeats 2000000
namespace Pg
open PySem L2 DL BK
@[simp] theorem kT_eD {d : Day} {n : Nat} : kT (n + 1) (eD d) = true := by simp [eD]
theorem lit_nonneg {B : Bakery} (ok : B.ok) (i : Nat) : 0 ≤ lit B.lights i := by
  unfold lit
  rw [List.getD_eq_getElem?_getD]
  cases e : B.lights[i]? with
  | none => exact Int.le_refl _
  | some l => exact (ok.ls l (List.mem_of_getElem? e)).1
theorem lit_le {B : Bakery} (ok : B.ok) (i : Nat) : lit B.lights i ≤ 1000000000 := by
  unfold lit
  rw [List.getD_eq_getElem?_getD]
  cases e : B.lights[i]? with
  | none => show (0 : Int) ≤ _; decide
  | some l => exact (ok.ls l (List.mem_of_getElem? e)).2
abbrev Pl (ls : List Int) (g : Good) : Bakery := ⟨ls, none, [g]⟩
section
variable {ls : List Int} {g : Good}
theorem pl_g (ok : (Pl ls g).ok) : g.ok ls.length := ok.gs g (by simp)
def rowV (ls : List Int) (g : Good) (i : Nat) : Int := (RR ls g i i).getD 0
theorem row_some (ok : (Pl ls g).ok) {i : Nat} : RR ls g i i = some (rowV ls g i) := by
  obtain ⟨x, hx⟩ := Rw_some (cost_dom (pl_g ok)) (lit_nonneg ok) (Nat.le_refl i) fun v hv => by rw [own_cost (pl_g ok)]; exact fun z => nomatch z
  have hx : RR ls g i i = some x := hx
  unfold rowV
  rw [hx]; rfl
theorem least_row_int (ok : (Pl ls g).ok) : dn_least_row [eB (Pl ls g)] = .ok (.lst ((List.range (ls.length + 1)).map fun i => .int (rowV ls g i))) := by
  rw [least_row_eq ok]
  congr 2
  apply List.map_congr_left
  intro i hi
  rw [row_some ok]; rfl
theorem row_day (ok : (Pl ls g).ok) (i : Nat) : rowV ls g (i + 1) ≤ rowV ls g i + lit ls i + (g.day i).want * (g.day i).loaf := by
  have h : Le (RR ls g (i + 1) (i + 1)) (oadd (oadd (RR ls g i i) (g.cost i i)) (some (lit ls i))) := Rw_day
  rw [row_some ok, row_some ok, own_cost (pl_g ok)] at h
  have := h.of_some
  omega
theorem row_free (ok : (Pl ls g).ok) {i : Nat} (h : (g.day i).want = 0) : rowV ls g (i + 1) ≤ rowV ls g i := by
  have h1 : Le (RR ls g (i + 1) (i + 1)) (RR ls g i (i + 1)) := omin_le1 _ _
  have h2 : Le (RR ls g i (i + 1)) (RR ls g i i) := Rw_free (cost_dom (pl_g ok)) (lit_nonneg ok) (by unfold Good.zw; exact decide_eq_true h)
  have := h1.trans h2
  rw [row_some ok, row_some ok] at this
  exact this.of_some
theorem row_rise (ok : (Pl ls g).ok) (hf : ∀ d ∈ g.days, d.fine = none) {i : Nat} (hi : i < ls.length) : rowV ls g i ≤ rowV ls g (i + 1) := by
  have h : Le (RR ls g i i) (RR ls g (i + 1) (i + 1)) := Rw_rise (cost_dom (pl_g ok)) (lit_nonneg ok) (fun i v x => cost_nonneg (pl_g ok)) fun v hv hz => by
    unfold Good.zw at hz
    unfold Good.cost
    rw [if_neg (of_decide_eq_false hz), no_late (pl_g ok) hf hv (by omega)]; rfl
  rw [row_some ok, row_some ok] at h
  exact h.of_some
theorem row_zero (ok : (Pl ls g).ok) : rowV ls g 0 = 0 := rfl
theorem take_ok (ok : (Pl ls g).ok) {k : Nat} (h1 : 1 ≤ k) (h2 : k ≤ ls.length) : (Pl (ls.take k) (g.take k)).ok := by
  have hl : (ls.take k).length = k := by simp; omega
  have gk := pl_g ok
  refine ⟨by show 1 ≤ (ls.take k).length; omega, by show (ls.take k).length ≤ 40; have : ls.length ≤ 40 := ok.l2; omega, fun l h => ok.ls l (List.mem_of_mem_take h), (fun k h => by cases h), by simp, by simp, fun g' hg => ?_⟩
  rw [List.mem_singleton.mp hg]
  refine ⟨?_, fun d hd => gk.2.1 d (List.mem_of_mem_take hd), gk.2.2⟩
  show (g.days.take k).length = (ls.take k).length
  rw [hl, List.length_take, gk.1]; omega
theorem row_take (ok : (Pl ls g).ok) {k : Nat} (h2 : k ≤ ls.length) : rowV (ls.take k) (g.take k) k = rowV ls g k := by
  unfold rowV RR
  rw [Rw_congr (L := lit (ls.take k)) (L' := lit ls) (z := (g.take k).zw) (z' := g.zw) (c := (g.take k).cost) (c' := g.cost) (I := k) (J := k) (fun i hi => ?_) (fun v hv => zw_take g hv) (fun i v hi hv => cost_take g hi hv) k (Nat.le_refl _) k (Nat.le_refl _)]
  unfold lit
  rw [List.getD_eq_getElem?_getD, List.getD_eq_getElem?_getD, List.getElem?_take, if_pos hi]
end
end Pg

/-! prices that are let by; sets of lit days -/
namespace BK
/-- sums of numbers from f, m of them -/
def psum (p : Nat → Int) (f : Nat) : Nat → Int
  | 0 => 0
  | m + 1 => psum p f m + p (f + m)
theorem psum_add (p : Nat → Int) (f m : Nat) : ∀ n, psum p f (m + n) = psum p f m + psum p (f + m) n
  | 0 => by show _ = _ + (0 : Int); rw [Int.add_zero]; rfl
  | n + 1 => by
    show psum p f (m + n) + p (f + (m + n)) = _ + (psum p (f + m) n + p (f + m + n))
    rw [psum_add p f m n, Nat.add_assoc]; omega
theorem psum_congr {p q : Nat → Int} {f : Nat} : ∀ {m : Nat}, (∀ i, f ≤ i → i < f + m → p i = q i) → psum p f m = psum q f m
  | 0, _ => rfl
  | m + 1, h => by
    show _ + _ = _ + _
    rw [psum_congr fun i h1 h2 => h i h1 (by omega), h (f + m) (by omega) (by omega)]
theorem psum_zero {p : Nat → Int} {f : Nat} : ∀ {m : Nat}, (∀ i, f ≤ i → i < f + m → p i = 0) → psum p f m = 0
  | 0, _ => rfl
  | m + 1, h => by
    show _ + _ = _
    rw [psum_zero fun i h1 h2 => h i h1 (by omega), h (f + m) (by omega) (by omega)]; rfl
theorem oadd_some {a b : Option Int} {x : Int} (h : oadd a b = some x) : ∃ y z, a = some y ∧ b = some z ∧ x = y + z := by
  cases a with
  | none => cases h
  | some y => cases b with
    | none => cases h
    | some z => cases h; exact ⟨y, z, rfl, rfl, rfl⟩
theorem osum_some_all {f : Nat → Option Int} {a : Nat} : ∀ {n : Nat} {x : Int}, osum f a n = some x → ∀ i, a ≤ i → i < a + n → ∃ y, f i = some y
  | 0, x, _, i, h1, h2 => by omega
  | n + 1, x, h, i, h1, h2 => by
    obtain ⟨y, z, e1, e2, _⟩ := oadd_some (show oadd (osum f a n) (f (a + n)) = some x from h)
    by_cases e : i = a + n
    · subst e; exact ⟨z, e2⟩
    · exact osum_some_all e1 i h1 (by omega)
theorem osum_of_all {f : Nat → Option Int} {a : Nat} : ∀ {n : Nat}, (∀ i, a ≤ i → i < a + n → f i ≠ none) → ∃ x, osum f a n = some x
  | 0, _ => ⟨0, rfl⟩
  | n + 1, h => by
    obtain ⟨x, e⟩ := osum_of_all (f := f) (a := a) (n := n) fun i h1 h2 => h i h1 (by omega)
    cases e2 : f (a + n) with
    | none => exact absurd e2 (h (a + n) (by omega) (by omega))
    | some y => exact ⟨x + y, by show oadd (osum f a n) (f (a + n)) = _; rw [e, e2]; rfl⟩
def max0 (x : Int) : Int := if 0 > x then 0 else x
theorem max0_pos {x : Int} (h : 0 < x) : max0 x = x := if_neg (by omega)
theorem max0_neg {x : Int} (h : x ≤ 0) : max0 x = 0 := by unfold max0; split <;> omega
theorem max0_ge (x : Int) : 0 ≤ max0 x ∧ x ≤ max0 x := by unfold max0; split <;> omega
/-- the running best -/
def runB (c : Nat → Option Int) (p : Nat → Int) : Nat → Int
  | 0 => 0
  | k + 1 => match c k with
    | none => 0
    | some x => max0 (runB c p k) + p k - x
section
variable {c : Nat → Option Int} {p : Nat → Int}
theorem runB_le : ∀ {m f : Nat} {x : Int}, 1 ≤ m → osum c f m = some x → psum p f m - x ≤ runB c p (f + m)
  | 0, _, _, h, _ => by omega
  | m + 1, f, x, _, h => by
    obtain ⟨y, z, e1, e2, e3⟩ := oadd_some (show oadd (osum c f m) (c (f + m)) = some x from h)
    have hr : runB c p (f + m + 1) = max0 (runB c p (f + m)) + p (f + m) - z := by
      show (match c (f + m) with
        | none => 0
        | some x => max0 (runB c p (f + m)) + p (f + m) - x) = _
      rw [e2]
    have hp : psum p f (m + 1) = psum p f m + p (f + m) := rfl
    show psum p f (m + 1) - x ≤ runB c p (f + m + 1)
    rw [hr, hp, e3]
    by_cases hm : m = 0
    · subst hm
      have e1 : some (0 : Int) = some y := e1
      cases e1
      have : psum p f 0 = 0 := rfl
      have := max0_ge (runB c p (f + 0))
      omega
    · have ih := runB_le (m := m) (f := f) (x := y) (by omega) e1
      have := max0_ge (runB c p (f + m)); omega
theorem runB_is : ∀ k, runB c p k ≤ 0 ∨ ∃ f m x, 1 ≤ m ∧ f + m = k ∧ osum c f m = some x ∧ runB c p k = psum p f m - x
  | 0 => .inl (Int.le_refl _)
  | k + 1 => by
    have hr : runB c p (k + 1) = match c k with
        | none => 0
        | some x => max0 (runB c p k) + p k - x := rfl
    cases e : c k with
    | none => rw [e] at hr; left; rw [hr]; exact Int.le_refl _
    | some z =>
      have hr : runB c p (k + 1) = max0 (runB c p k) + p k - z := by rw [hr, e]
      have one : osum c k 1 = some z := by show oadd (some 0) (c (k + 0)) = _; rw [Nat.add_zero, e]; exact zero_oadd _
      rcases runB_is k with h | ⟨f, m, x, h1, h2, h3, h4⟩
      · refine .inr ⟨k, 1, z, by omega, rfl, one, ?_⟩
        have : psum p k 1 = p k := by show (0 : Int) + p (k + 0) = _; rw [Nat.add_zero]; omega
        rw [hr, this, max0_neg h]
        omega
      · by_cases h0 : runB c p k ≤ 0
        · refine .inr ⟨k, 1, z, by omega, rfl, one, ?_⟩
          have : psum p k 1 = p k := by show (0 : Int) + p (k + 0) = _; rw [Nat.add_zero]; omega
          rw [hr, this, max0_neg h0]
          omega
        · refine .inr ⟨f, m + 1, x + z, by omega, by omega, ?_, ?_⟩
          · show oadd (osum c f m) (c (f + m)) = _
            rw [h3, h2, e]; rfl
          · have hp : psum p f (m + 1) = psum p f m + p (f + m) := rfl
            rw [hr, hp, h2, max0_pos (by omega)]
            omega
/-- no stretch is worth more: by the running best -/
theorem runB_iff {L : Int} (hL : 0 ≤ L) (n : Nat) : (∀ k, k < n → runB c p (k + 1) ≤ L) ↔ ∀ f m x, f + m ≤ n → osum c f m = some x → psum p f m ≤ L + x := by
  constructor
  · intro h f m x hfm hx
    by_cases hm : m = 0
    · subst hm
      have e : some (0 : Int) = some x := hx
      cases e
      show (0 : Int) ≤ _; omega
    · have := runB_le (p := p) (by omega) hx
      have h2 := h (f + m - 1) (by omega)
      have e : f + m - 1 + 1 = f + m := by omega
      rw [e] at h2
      omega
  · intro h k hk
    rcases runB_is (c := c) (p := p) (k + 1) with h0 | ⟨f, m, x, h1, h2, h3, h4⟩
    · omega
    · have := h f m x (by omega) h3
      omega
end
section
variable {L : Nat → Int} {z : Nat → Bool} {c : Nat → Nat → Option Int} {p : Nat → Int}
/-- prices that are let by come to no more than the row -/
theorem dual {n : Nat} (h0 : ∀ v, v < n → z v = true → p v = 0) (hs : ∀ b f m x, b < n → f + m ≤ n → osum (c b) f m = some x → psum p f m ≤ L b + x) :
    ∀ i j, i ≤ n → j ≤ n → ∀ y, Rw L z c i j = some y → psum p 0 j ≤ y
  | 0, j, _, hj, y, h => by
    have h : R0 z j = some y := h
    have key : ∀ j y, j ≤ n → R0 z j = some y → y = 0 ∧ ∀ v, v < j → z v = true := fun j => by
      induction j with
      | zero => intro y _ h; have h : some (0 : Int) = some y := h; cases h; exact ⟨rfl, fun v h => by omega⟩
      | succ j ih =>
        intro y hj h
        have h : (if z j = true then R0 z j else none) = some y := h
        by_cases e : z j = true
        · rw [if_pos e] at h
          obtain ⟨a, b⟩ := ih y (by omega) h
          refine ⟨a, fun v hv => ?_⟩
          by_cases q : v = j
          · rw [q]; exact e
          · exact b v (by omega)
        · rw [if_neg e] at h; cases h
    obtain ⟨a, b⟩ := key j y hj h
    rw [a, psum_zero fun i h1 h2 => h0 i (by omega) (b i (by omega))]
    exact Int.le_refl _
  | i + 1, j, hi, hj, y, h => by
    have h : omin (Rw L z c i j) (oadd (Tb c (Rw L z c i) i j) (some (L i))) = some y := h
    rcases omin_or (Rw L z c i j) (oadd (Tb c (Rw L z c i) i j) (some (L i))) with e | e
    · rw [e] at h
      exact dual h0 hs i j (by omega) hj y h
    · rw [e] at h
      obtain ⟨t, l, e1, e2, e3⟩ := oadd_some h
      cases e2
      rcases T_is (c := c) (R := Rw L z c i) (i := i) (j := j) with q | ⟨k, m, ej, hm, q⟩
      · rw [q] at e1; cases e1
      · rw [q] at e1
        obtain ⟨r, x, e4, e5, e6⟩ := oadd_some e1
        have ih := dual h0 hs i k (by omega) (by omega) r e4
        have st := hs i k m x (by omega) (by omega) e5
        rw [ej, psum_add, Nat.zero_add]
        omega
end
end BK

set_option maxHeartbeats 2000000
/-! prices that are told -/
namespace Pg
open PySem L2 DL BK
theorem law_price_eq (g : Good) (b v : Nat) (hl : g.days.length ≤ 1000) (hb : b < g.days.length) : dn__law_price [eG g, .int b, .int v] = .ok (eO (g.price b v)) := by
  rw [eq__law_price]; unfold b__law_price eG
  have hd2 : g.days[b]? = some (g.day b) := by
    unfold Good.day
    rw [List.getD_eq_getElem?_getD, List.getElem?_eq_getElem hb]; rfl
  unfold Good.price Good.nights
  by_cases h : b ≤ v
  · have h' : ¬ ((v : Int) < b) := by omega
    rw [if_pos h]
    have hc : ∀ ev : Lo, ev.length = 7 → compL (gNm 6) dYes (d2 ixT (dVar 6) (dC (.int 2))) ev ((slice g.days b v).map eD) = .ok ((slice g.days b v).map fun d => .int d.keep) := fun ev hev => by
      match ev, hev with
      | [v0, v1, v2, v3, v4, v5, v6], _ =>
        apply compL_map
        intro d hd
        rw [cturn_ap]
        simp [eD]
    have hlen := slice_len g.days b v
    cases e : g.life with
    | none =>
      have hc1 := hc [some (T.tup [T.lst (g.days.map eD), .non], false), some (.int b, false), some (.int v, false), some (.lst (g.days.map eD), false), some (.non, false), none, none] rfl
      simp (disch := omega) [h', slice_map, hc1, longB, Good.keeps, hd2, eD, -getElem?_pos]
    | some l =>
      have hc1 := hc [some (T.tup [T.lst (g.days.map eD), .int l], false), some (.int b, false), some (.int v, false), some (.lst (g.days.map eD), false), some (.int l, false), none, none] rfl
      by_cases hx : l < (v : Int) - b
      · simp [h', hx, longB]
      · simp (disch := omega) [h', slice_map, hc1, longB, hx, Good.keeps, hd2, eD, -getElem?_pos]
  · have h' : (v : Int) < b := by omega
    rw [if_neg h]
    have hc : ∀ ev : Lo, ev.length = 7 → compL (gNm 6) dYes (d2 ixT (dVar 6) (dC (.int 3))) ev ((slice g.days v b).map eD) = .ok (((slice g.days v b).map Day.fine).map eO) := fun ev hev => by
      match ev, hev with
      | [v0, v1, v2, v3, v4, v5, v6], _ =>
        rw [List.map_map]
        apply compL_map
        intro d hd
        rw [cturn_ap]
        simp [eD]
    have hlen := slice_len g.days v b
    have hc1 := hc [some (T.tup [T.lst (g.days.map eD), eO g.life], false), some (.int b, false), some (.int v, false), some (.lst (g.days.map eD), false), some (eO g.life, false), none, none] rfl
    simp at hc1
    simp (disch := omega) [h', slice_map, hc1]
    have e2 : List.map (eO ∘ Day.fine) (slice g.days v b) = ((slice g.days v b).map Day.fine).map eO := by rw [List.map_map]
    rw [e2, inT_non]
    unfold Good.fines osumL
    by_cases hm : none ∈ (slice g.days v b).map Day.fine
    · rw [decide_eq_true hm, if_pos hm]; simp
    · rw [decide_eq_false hm, if_neg hm]
      have n := nums_eO _ hm
      simp at n
      simp [n, hd2, eD]
section
variable {ls : List Int} {g : Good}
/-- the last row -/
def lastV (ls : List Int) (g : Good) (j : Nat) : Int := (RR ls g ls.length j).getD 0
theorem last_some (ok : (Pl ls g).ok) {j : Nat} (h : j ≤ ls.length) : RR ls g ls.length j = some (lastV ls g j) := by
  obtain ⟨x, hx⟩ := Rw_some (cost_dom (pl_g ok)) (lit_nonneg ok) h fun v hv => by rw [own_cost (pl_g ok)]; exact fun z => nomatch z
  have hx : RR ls g ls.length j = some x := hx
  unfold lastV
  rw [hx]; rfl
def priceV (ls : List Int) (g : Good) (j : Nat) : Int := lastV ls g (j + 1) - lastV ls g j
theorem prices_of_eq (ok : (Pl ls g).ok) : dn_prices_of [eB (Pl ls g)] = .ok (.lst ((List.range ls.length).map fun j => .int (priceV ls g j))) := by
  rw [eq_prices_of]; unfold b_prices_of
  have k := known_rows_eq ok
  have p := look_at_plain_ok ok
  have hn : ls.length ≤ 40 := ok.l2
  have gl := range_last (rowT ls g) ls.length
  have hx0 : ixT (eB (Pl ls g)) (.int 0) = some (.lst (ls.map .int)) := by simp [eB]
  simp (disch := omega) [p, k, gl, hx0]
  rw [rngT_eq, compL_map (fun (i : Nat) => T.int (i : Int)) (fun j : Nat => T.int (priceV ls g j))]
  · simp (disch := omega)
  · intro i hi
    have hi : i < ls.length := List.mem_range.mp hi
    have r1 := range_at (fun j => eO (RR ls g ls.length j)) (show i < ls.length + 1 by omega)
    have r2 := atI_cast ((List.range (ls.length + 1)).map fun j => eO (RR ls g ls.length j)) (i + 1)
    rw [range_at (fun j => eO (RR ls g ls.length j)) (show i + 1 < ls.length + 1 by omega), last_some ok (by omega)] at r2
    rw [last_some ok (by omega)] at r1
    rw [cturn_ap]
    simp at r2
    simp [rowT, r1, r2, priceV, -List.getElem?_map]
theorem last_zero (ls : List Int) (g : Good) : lastV ls g 0 = 0 := by
  unfold lastV RR; rw [Rw_zero]; rfl
theorem last_end (ok : (Pl ls g).ok) : lastV ls g ls.length = rowV ls g ls.length := rfl
theorem last_free (ok : (Pl ls g).ok) {j : Nat} (h : (g.day j).want = 0) : lastV ls g (j + 1) = lastV ls g j := by
  unfold lastV RR
  rw [Rw_free' (cost_dom (pl_g ok)) (lit_nonneg ok) (by unfold Good.zw; exact decide_eq_true h)]
/-- no stretch is worth more than a day of baking costs for it -/
theorem last_ext (ok : (Pl ls g).ok) {b f m : Nat} (hb : b < ls.length) (hf : f + m ≤ ls.length) {x : Int} (hx : osum (g.cost b) f m = some x) : lastV ls g (f + m) ≤ lastV ls g f + lit ls b + x := by
  have h := Rw_ext (L := lit ls) (cost_dom (pl_g ok)) (lit_nonneg ok) (n := ls.length) (b := b) (f := f) (m := m) hb
  have h : Le (RR ls g ls.length (f + m)) (oadd (oadd (RR ls g ls.length f) (some (lit ls b))) (osum (g.cost b) f m)) := h
  rw [last_some ok hf, last_some ok (by omega), hx] at h
  exact h.of_some
theorem sum_tele (f : Nat → Int) : ∀ n, ((List.range n).map fun j => f (j + 1) - f j).sum = f n - f 0
  | 0 => by simp
  | n + 1 => by rw [range_snoc, List.sum_append, sum_tele f n]; simp; omega
theorem prices_sum (ok : (Pl ls g).ok) : ((List.range ls.length).map (priceV ls g)).sum = rowV ls g ls.length := by
  have := sum_tele (lastV ls g) ls.length
  rw [last_zero, last_end ok] at this
  unfold priceV
  rw [this]; omega
/-- the law's own look at prices -/
theorem law_let_ok (ok : (Pl ls g).ok) (p : Nat → Int) (h0 : ∀ j, j < ls.length → (g.day j).want = 0 → p j = 0)
    (hs : ∀ b f m x, b < ls.length → f + m ≤ ls.length → osum (g.cost b) f m = some x → psum p f m ≤ lit ls b + x) :
    dn__law_let [eB (Pl ls g), .lst ((List.range ls.length).map fun j => .int (p j))] = .ok (.bl true) := by
  rw [eq__law_let]; unfold b__law_let
  have gk := pl_g ok
  have hn : ls.length ≤ 40 := ok.l2
  have gl : g.days.length = ls.length := gk.1
  have dr := days_range g
  rw [gl] at dr
  have hB : eB (Pl ls g) = .tup [.lst (ls.map .int), .non, .lst [eG g]] := rfl
  have hx : ixT (eG g) (.int 0) = some (.lst (g.days.map eD)) := by simp [eG]
  have L4 : ∀ a b, forL (gTp 2 (DL.gCons (gNm 7) (DL.gCons (gNm 8) DL.gNil))) b__law_let_p4 ((List.range ls.length).map fun (k : Nat) => T.tup [eD (g.day k), .int (p k)])
      [a, b, some (.lst (g.days.map eD), false), none, some (.lst (ls.map .int), false), some (.non, false), some (.lst [eG g], false), none, none, none, none, none, none]
      = .nx [a, b, some (.lst (g.days.map eD), false), none, some (.lst (ls.map .int), false), some (.non, false), some (.lst [eG g], false), none, none, none, none, none, none] := fun a b => by
    apply forL_same
    intro t ht
    obtain ⟨k, hk, rfl⟩ := List.mem_map.mp ht
    have hk := List.mem_range.mp hk
    have hz := h0 k hk
    unfold b__law_let_p4
    by_cases hw : (g.day k).want = 0
    · simp [eD, hw, hz hw]
    · simp [eD, hw]
  obtain ⟨pl, hpl⟩ : ∃ pl : List T, pl = (List.range ls.length).map fun j => T.int (p j) := ⟨_, rfl⟩
  have pa : ∀ i, i < ls.length → pl[i]? = some (.int (p i)) := fun i hi => by rw [hpl]; exact range_at _ hi
  have da : ∀ i, i < ls.length → (g.days.map eD)[i]? = some (eD (g.day i)) := fun i hi => by rw [dr]; exact range_at _ hi
  have la : ∀ i, i < ls.length → (ls.map T.int)[i]? = some (.int (lit ls i)) := fun i hi => ints_at hi
  generalize hdy : g.days.map eD = dys at *
  generalize hlt : ls.map T.int = lts at *
  have L2 : ∀ B f b (pr : List T), (∀ v, v < ls.length → pr[v]? = some (eO (g.price b v))) → b < ls.length → f < ls.length → ∃ tot : Int, forL (gNm 12) b__law_let_p1 ((List.range (ls.length - f)).map fun (i : Nat) => T.int ((f : Int) + (i : Int)))
      [some (B, false), some (.lst pl, false), some (.lst dys, false), some (.int b, false), some (.lst lts, false), some (.non, false), some (.lst [eG g], false), none, none, some (.lst pr, false), some (.int f, false), some (.int 0, false), none]
      = .nx [some (B, false), some (.lst pl, false), some (.lst dys, false), some (.int b, false), some (.lst lts, false), some (.non, false), some (.lst [eG g], false), none, none, some (.lst pr, false), some (.int f, false), some (.int tot, false), none] := fun B f b pr hpr hb hf => by
    refine forL_brk (fun (i : Nat) => T.int ((f : Int) + (i : Int))) (fun tot : Int => [some (B, false), some (.lst pl, false), some (.lst dys, false), some (.int b, false), some (.lst lts, false), some (.non, false), some (.lst [eG g], false), none, none, some (.lst pr, false), some (.int f, false), some (.int tot, false), none])
      (fun k tot => ∃ x, osum (g.cost b) f k = some x ∧ tot = psum p f k - x) ⟨0, rfl, rfl⟩ fun k tot hk ⟨x, hx1, hx2⟩ => ?_
    have hv : f + k < ls.length := by omega
    have p1 := hpr (f + k) hv
    have p2 := pa (f + k) hv
    have p3 := da (f + k) hv
    have p4 := la b hb
    have q1 : atI pr ((f : Int) + (k : Int)) = some (eO (g.price b (f + k))) := by rw [← p1]; exact atI_cast pr (f + k)
    have q2 : atI pl ((f : Int) + (k : Int)) = some (.int (p (f + k))) := by rw [← p2]; exact atI_cast pl (f + k)
    have q3 : atI dys ((f : Int) + (k : Int)) = some (eD (g.day (f + k))) := by rw [← p3]; exact atI_cast dys (f + k)
    have dk := day_ok gk hv
    have d1 := dk.1
    have d2 := dk.2.1
    have hstep := hs b f (k + 1)
    have ho : osum (g.cost b) f (k + 1) = oadd (osum (g.cost b) f k) (g.cost b (f + k)) := rfl
    have hc : g.cost b (f + k) = if (g.day (f + k)).want = 0 then some 0 else (g.price b (f + k)).map fun p => (g.day (f + k)).want * p := rfl
    have hps : psum p f (k + 1) = psum p f k + p (f + k) := rfl
    unfold b__law_let_p1
    by_cases hw : (g.day (f + k)).want = 0
    · rw [if_pos hw] at hc
      have hx' : osum (g.cost b) f (k + 1) = some x := by rw [ho, hx1, hc]; exact oadd_zero _
      have hle := hstep x hb (by omega) hx'
      have hp0 := h0 (f + k) hv hw
      rw [hps, hp0] at hle
      refine .inl ⟨tot, ?_, x, hx', by rw [hps, hp0]; omega⟩
      have hno : ¬ (lit ls b < tot) := by omega
      cases hpc : g.price b (f + k) <;> rw [hpc] at q1 <;> simp [q1, q2, q3, p4, eD, hw, hno]
    · have hw1 : 0 < (g.day (f + k)).want := by omega
      rw [if_neg hw] at hc
      cases hpc : g.price b (f + k) with
      | none =>
        rw [hpc] at q1
        exact .inr ⟨tot, by simp [q1, q2, q3, p4, eD, hw1]⟩
      | some q =>
        rw [hpc] at q1 hc
        have hx' : osum (g.cost b) f (k + 1) = some (x + (g.day (f + k)).want * q) := by rw [ho, hx1, hc]; rfl
        have hle := hstep _ hb (by omega) hx'
        rw [hps] at hle
        have bd := price_bd gk hn hb hpc
        have mm : mulT (.int (g.day (f + k)).want) (.int q) = some (.int ((g.day (f + k)).want * q)) := mulT_ok (by omega)
        refine .inl ⟨tot + p (f + k) - (g.day (f + k)).want * q, ?_, _, hx', by rw [hps]; omega⟩
        have hno : ¬ (lit ls b < tot + p (f + k) - (g.day (f + k)).want * q) := by omega
        simp [q1, q2, q3, p4, eD, hw1, mm, hno]
  have L3 : ∀ B, forL (gNm 3) b__law_let_p3 ((List.range ls.length).map fun (i : Nat) => T.int (i : Int))
      [some (B, false), some (.lst pl, false), some (.lst dys, false), none, some (.lst lts, false), some (.non, false), some (.lst [eG g], false), none, none, none, none, none, none]
      = .nx [some (B, false), some (.lst pl, false), some (.lst dys, false), none, some (.lst lts, false), some (.non, false), some (.lst [eG g], false), none, none, none, none, none, none] := fun B => by
    apply forL_same
    intro t ht
    obtain ⟨b, hb, rfl⟩ := List.mem_map.mp ht
    have hb := List.mem_range.mp hb
    have lts_len : lts.length = ls.length := by rw [← hlt]; simp
    have hc : ∀ ev : Lo, ev = [some (B, false), some (.lst pl, false), some (.lst dys, false), some (.int b, false), some (.lst lts, false), some (.non, false), some (.lst [eG g], false), none, none, none, none, none, none] →
        compL (gNm 12) dYes (dCall dn__law_price (dCons (d2 ixT (dVar 6) (dC (.int 0))) (dCons (dVar 3) (dCons (dVar 12) dNil)))) ev ((List.range ls.length).map fun (i : Nat) => T.int (i : Int)) = .ok ((List.range ls.length).map fun v => eO (g.price b v)) := fun ev he => by
      subst he
      apply compL_map
      intro v hv
      rw [cturn_ap]
      simp [law_price_eq g b v (by omega) (by omega)]
    have hc := hc _ rfl
    have hpr : ∀ v, v < ls.length → ((List.range ls.length).map fun v => eO (g.price b v))[v]? = some (eO (g.price b v)) := fun v hv => range_at _ hv
    have hprl : ((List.range ls.length).map fun v => eO (g.price b v)).length = ls.length := by simp
    generalize ((List.range ls.length).map fun v => eO (g.price b v)) = pr at *
    have LL : forL (gNm 10) b__law_let_p2 ((List.range ls.length).map fun (i : Nat) => T.int (i : Int))
        [some (B, false), some (.lst pl, false), some (.lst dys, false), some (.int b, false), some (.lst lts, false), some (.non, false), some (.lst [eG g], false), none, none, some (.lst pr, false), none, none, none]
        = .nx [some (B, false), some (.lst pl, false), some (.lst dys, false), some (.int b, false), some (.lst lts, false), some (.non, false), some (.lst [eG g], false), none, none, some (.lst pr, false), none, none, none] := by
      apply forL_same
      intro t ht
      obtain ⟨f, hf, rfl⟩ := List.mem_map.mp ht
      have hf := List.mem_range.mp hf
      obtain ⟨tot, ht⟩ := L2 B f b pr hpr hb hf
      have ee : ((lts.length : Int) - (f : Int)).toNat = ls.length - f := by omega
      unfold b__law_let_p2
      simp (disch := omega) [ee, rngF_eq, ht]
    unfold b__law_let_p3
    simp (disch := omega) [lts_len, rngT_eq, hc, hprl, LL]
  have lts_len : lts.length = ls.length := by rw [← hlt]; simp
  have pl_len : pl.length = ls.length := by rw [hpl]; simp
  have hz : zipT [.lst dys, .lst pl] = some ((List.range ls.length).map fun (k : Nat) => T.tup [eD (g.day k), .int (p k)]) := by
    rw [zipT_lst, dr, hpl, zip_range]
  rw [← hpl, hB]
  have hlen : (pl.length : Int) = lts.length := by omega
  simp (disch := omega) [hx, hlen, hz, L4, lts_len, rngT_eq, L3, -zipT_lst]
end
end Pg

set_option maxHeartbeats 2000000
/-! bounds of rows and of prices -/
namespace BK
theorem osum_nonneg {f : Nat → Option Int} {a : Nat} (h : ∀ i x, f i = some x → 0 ≤ x) : ∀ {n : Nat} {x : Int}, osum f a n = some x → 0 ≤ x
  | 0, x, e => by
    have e : some (0 : Int) = some x := e
    cases e; exact Int.le_refl _
  | n + 1, x, e => by
    have e : oadd (osum f a n) (f (a + n)) = some x := e
    cases e1 : osum f a n with
    | none => rw [e1] at e; cases e
    | some p =>
      cases e2 : f (a + n) with
      | none => rw [e1, e2] at e; cases e
      | some q =>
        rw [e1, e2] at e
        have e : some (p + q) = some x := e
        cases e
        have := osum_nonneg h e1
        have := h _ _ e2
        omega
theorem Rw_nonneg {L : Nat → Int} {z : Nat → Bool} {c : Nat → Nat → Option Int} (D : Dom z c) (hL : ∀ i, 0 ≤ L i) (hc : ∀ i v x, c i v = some x → 0 ≤ x) {i j : Nat} {x : Int} (h : Rw L z c i j = some x) : 0 ≤ x := by
  obtain ⟨S, hS⟩ := Rw_is (L := L) D i j
  rw [h] at hS
  obtain ⟨y, e, hy⟩ := hS x rfl
  unfold sc at e
  cases e1 : osum (mn z c S i) 0 j with
  | none => rw [e1] at e; cases e
  | some q =>
    rw [e1] at e
    have e : some (lt L S i + q) = some y := e
    cases e
    have := lt_nonneg hL (S := S) i
    have := osum_nonneg (fun v x h => mn_nonneg hc h) e1
    omega
end BK
namespace DL
open PySem L2
theorem flSetIx_in {i : Nat} {u : T} {ts : List T} {j : Nat} {ev : Lo} (h : j < ts.length) : flSetIx i (.ok u) (some (some (.lst ts, true))) (.ok (.int j)) ev = .nx (ev.set i (some (.lst (ts.set j u), true))) := by
  have : L2.ixN ts.length (j : Int) = some j := by
    unfold L2.ixN
    rw [if_pos (by omega), if_pos (by omega)]; simp
  show (match L2.ixN ts.length (j : Int) with
      | some n => Fl.nx (ev.set i (some (.lst (ts.set n u), true)))
      | none => .bad) = _
  rw [this]
theorem flSetIx_in0 {i : Nat} {u : T} {ts : List T} {ev : Lo} (h : 0 < ts.length) : flSetIx i (.ok u) (some (some (.lst ts, true))) (.ok (.int 0)) ev = .nx (ev.set i (some (.lst (ts.set 0 u), true))) := flSetIx_in h
end DL
namespace Pg
open PySem L2 DL BK
section
variable {ls : List Int} {g : Good}
theorem row_nonneg (ok : (Pl ls g).ok) (i : Nat) : 0 ≤ rowV ls g i := Rw_nonneg (cost_dom (pl_g ok)) (lit_nonneg ok) (fun i v x => cost_nonneg (pl_g ok)) (row_some ok)
theorem last_nonneg (ok : (Pl ls g).ok) {j : Nat} (h : j ≤ ls.length) : 0 ≤ lastV ls g j := Rw_nonneg (cost_dom (pl_g ok)) (lit_nonneg ok) (fun i v x => cost_nonneg (pl_g ok)) (last_some ok h)
theorem own_bd (ok : (Pl ls g).ok) {i : Nat} (h : i < ls.length) : 0 ≤ (g.day i).want * (g.day i).loaf ∧ (g.day i).want * (g.day i).loaf ≤ 1000000000000000000 := by
  obtain ⟨h1, h2, h3, h4, _⟩ := day_ok (pl_g ok) h
  refine ⟨Int.mul_nonneg h1 h3, ?_⟩
  have := Int.mul_le_mul h2 h4 h3 (by decide)
  omega
theorem row_ub (ok : (Pl ls g).ok) : ∀ i : Nat, i ≤ ls.length → rowV ls g i ≤ 1000000001000000000 * i
  | 0, _ => by rw [row_zero ok]; decide
  | i + 1, h => by
    have a := row_ub ok i (by omega)
    have b := row_day ok i
    have c := own_bd ok (show i < ls.length by omega)
    have d := lit_le ok i
    have d : lit ls i ≤ 1000000000 := d
    omega
theorem last_step (ok : (Pl ls g).ok) {j : Nat} (h : j < ls.length) : lastV ls g (j + 1) ≤ lastV ls g j + lit ls j + (g.day j).want * (g.day j).loaf := by
  refine last_ext ok (b := j) (f := j) (m := 1) h (by omega) ?_
  show oadd (some 0) (g.cost j (j + 0)) = _
  rw [zero_oadd]
  exact own_cost (pl_g ok) j
theorem last_ub (ok : (Pl ls g).ok) : ∀ i : Nat, i ≤ ls.length → lastV ls g i ≤ 1000000001000000000 * i
  | 0, _ => by rw [last_zero]; decide
  | i + 1, h => by
    have a := last_ub ok i (by omega)
    have b := last_step ok (show i < ls.length by omega)
    have c := own_bd ok (show i < ls.length by omega)
    have d : lit ls i ≤ 1000000000 := lit_le ok i
    omega
theorem row_bd (ok : (Pl ls g).ok) {i : Nat} (h : i ≤ ls.length) : 0 ≤ rowV ls g i ∧ rowV ls g i ≤ 41000000041000000000 := by
  have a := row_ub ok i h
  have b := row_nonneg ok i
  have hn : ls.length ≤ 40 := ok.l2
  omega
theorem last_bd (ok : (Pl ls g).ok) {i : Nat} (h : i ≤ ls.length) : 0 ≤ lastV ls g i ∧ lastV ls g i ≤ 41000000041000000000 := by
  have a := last_ub ok i h
  have b := last_nonneg ok h
  have hn : ls.length ≤ 40 := ok.l2
  omega
theorem price_bdV (ok : (Pl ls g).ok) {j : Nat} (h : j < ls.length) : -41000000041000000000 ≤ priceV ls g j ∧ priceV ls g j ≤ 1000000001000000000 := by
  have a := last_bd ok (show j ≤ ls.length by omega)
  have b := last_bd ok (show j + 1 ≤ ls.length by omega)
  have c := last_step ok h
  have d := own_bd ok h
  have e : lit ls j ≤ 1000000000 := lit_le ok j
  unfold priceV
  omega
theorem small2 {i : Int} (h : -1000000000000000000000000000000000000000000000000000000000000 ≤ i ∧ i ≤ 1000000000000000000000000000000000000000000000000000000000000) : i.natAbs < 10 ^ 100 := Nat.lt_of_le_of_lt (m := 1000000000000000000000000000000000000000000000000000000000000) (by omega) (by decide +kernel)
theorem repr_fn (f : Nat → Int) {n : Nat} (hn : n ≤ 1000) (h : ∀ i, i < n → -1000000000000000000000000000000000000000000000000000000000000 ≤ f i ∧ f i ≤ 1000000000000000000000000000000000000000000000000000000000000) :
    ∃ s, reprL [.lst ((List.range n).map fun i => T.int (f i))] = some (.str s) := by
  refine ⟨_, repr_of (n := 1) (w := 200000) ((Sh.lst (n := 0) (w := 101) fun t ht => ?_).mono (by omega) (by simp; omega)) (by decide) (by decide)⟩
  obtain ⟨i, hi, rfl⟩ := List.mem_map.mp ht
  exact .int (small2 (h i (List.mem_range.mp hi)))
theorem repr_prices (ok : (Pl ls g).ok) : ∃ s, reprL [.lst ((List.range ls.length).map fun j => T.int (priceV ls g j))] = some (.str s) := by
  have hn : ls.length ≤ 40 := ok.l2
  exact repr_fn _ (by omega) fun i hi => by have := price_bdV ok hi; omega
theorem repr_row (ok : (Pl ls g).ok) : ∃ s, reprL [.lst ((List.range (ls.length + 1)).map fun j => T.int (rowV ls g j))] = some (.str s) := by
  have hn : ls.length ≤ 40 := ok.l2
  exact repr_fn _ (by omega) fun i hi => by have := row_bd ok (show i ≤ ls.length by omega); omega
theorem psum_price (f : Nat) : ∀ m, psum (priceV ls g) f m = lastV ls g (f + m) - lastV ls g f
  | 0 => by show (0 : Int) = _; rw [Nat.add_zero]; omega
  | m + 1 => by
    show psum (priceV ls g) f m + priceV ls g (f + m) = _
    rw [psum_price f m]
    unfold priceV
    have : f + (m + 1) = f + m + 1 := by omega
    rw [this]; omega
theorem let_prices (ok : (Pl ls g).ok) : dn__law_let [eB (Pl ls g), .lst ((List.range ls.length).map fun j => .int (priceV ls g j))] = .ok (.bl true) := by
  refine law_let_ok ok (priceV ls g) (fun j hj hw => ?_) fun b f m x hb hf hx => ?_
  · unfold priceV; rw [last_free ok hw]; omega
  · have := last_ext ok hb hf hx
    rw [psum_price]; omega
end
end Pg

set_option maxHeartbeats 2000000
/-! prices that are let by -/
namespace DL
open PySem L2
theorem least_ex {P : Nat → Prop} [DecidablePred P] {n : Nat} (h : ¬ ∀ k, k < n → P k) : ∃ m, m < n ∧ ¬ P m ∧ ∀ k, k < m → P k := by
  induction n with
  | zero => exact absurd (fun k hk => by omega) h
  | succ n ih =>
    by_cases hn : ∀ k, k < n → P k
    · refine ⟨n, by omega, fun hp => h fun k hk => ?_, hn⟩
      by_cases e : k = n
      · rw [e]; exact hp
      · exact hn k (by omega)
    · obtain ⟨m, a, b, c⟩ := ih hn
      exact ⟨m, by omega, b, c⟩
end DL
namespace Pg
open PySem L2 DL BK
theorem holds_at_eq (L : Int) (c : Nat → Option Int) (p : Nat → Int) (n : Nat) :
    dn_holds_at [.int L, .lst ((List.range n).map fun v => eO (c v)), .lst ((List.range n).map fun v => .int (p v))] = .ok (.bl (decide (∀ k, k < n → runB c p (k + 1) ≤ L))) := by
  rw [eq_holds_at]; unfold b_holds_at
  have hz : zipT [.lst ((List.range n).map fun v => eO (c v)), .lst ((List.range n).map fun v => .int (p v))] = some ((List.range n).map fun k => .tup [eO (c k), .int (p k)]) := by
    rw [zipT_lst, zip_range]
  generalize (T.lst ((List.range n).map fun v => eO (c v))) = cs at *
  generalize (T.lst ((List.range n).map fun v => T.int (p v))) = ps at *
  have stepT : ∀ k, runB c p (k + 1) ≤ L → turn (gTp 2 (DL.gCons (gNm 4) (DL.gCons (gNm 5) DL.gNil))) b_holds_at_p1 (.tup [eO (c k), .int (p k)]) [some (.int L, false), some (cs, false), some (ps, false), some (.int (runB c p k), false), none, none]
      = .nx [some (.int L, false), some (cs, false), some (ps, false), some (.int (runB c p (k + 1)), false), none, none] := fun k h => by
    have hr : runB c p (k + 1) = match c k with
        | none => 0
        | some x => max0 (runB c p k) + p k - x := rfl
    unfold b_holds_at_p1
    cases e : c k with
    | none =>
      rw [e] at hr
      have hr : runB c p (k + 1) = 0 := hr
      have : ¬ (L < 0) := by omega
      rw [hr]; simp [this]
    | some x =>
      rw [e] at hr
      have hr : runB c p (k + 1) = max0 (runB c p k) + p k - x := hr
      have h' : ¬ (L < max0 (runB c p k) + p k - x) := by omega
      have hm : (if runB c p k < 0 then (0 : Int) else runB c p k) = max0 (runB c p k) := rfl
      rw [hr]
      simp [hm, h']
  have stepF : ∀ k, ¬ runB c p (k + 1) ≤ L → turn (gTp 2 (DL.gCons (gNm 4) (DL.gCons (gNm 5) DL.gNil))) b_holds_at_p1 (.tup [eO (c k), .int (p k)]) [some (.int L, false), some (cs, false), some (ps, false), some (.int (runB c p k), false), none, none]
      = .rt (.bl false) := fun k h => by
    have hr : runB c p (k + 1) = match c k with
        | none => 0
        | some x => max0 (runB c p k) + p k - x := rfl
    unfold b_holds_at_p1
    cases e : c k with
    | none =>
      rw [e] at hr
      have hr : runB c p (k + 1) = 0 := hr
      have : L < 0 := by omega
      simp [this]
    | some x =>
      rw [e] at hr
      have hr : runB c p (k + 1) = max0 (runB c p k) + p k - x := hr
      have h' : L < max0 (runB c p k) + p k - x := by omega
      have hm : (if runB c p k < 0 then (0 : Int) else runB c p k) = max0 (runB c p k) := rfl
      simp [hm, h']
  by_cases h : ∀ k, k < n → runB c p (k + 1) ≤ L
  · rw [decide_eq_true h]
    have S := forL_seq (g := gTp 2 (DL.gCons (gNm 4) (DL.gCons (gNm 5) DL.gNil))) (body := b_holds_at_p1) (fun k => .tup [eO (c k), .int (p k)]) (fun k => [some (.int L, false), some (cs, false), some (ps, false), some (.int (runB c p k), false), none, none]) (n := n) fun k hk => stepT k (h k hk)
    have e0 : runB c p 0 = 0 := rfl
    rw [e0] at S
    simp [hz, S]
  · rw [decide_eq_false h]
    obtain ⟨m, h1, h2, h3⟩ := least_ex h
    have S := forL_seqR (g := gTp 2 (DL.gCons (gNm 4) (DL.gCons (gNm 5) DL.gNil))) (body := b_holds_at_p1) (fun k => .tup [eO (c k), .int (p k)]) (fun k => [some (.int L, false), some (cs, false), some (ps, false), some (.int (runB c p k), false), none, none]) (n := n) (m := m) (t := .bl false) h1 (fun k hk => stepT k (h3 k hk)) (stepF m h2)
    have e0 : runB c p 0 = 0 := rfl
    rw [e0] at S
    simp [hz, S]
section
variable {ls : List Int} {g : Good}
theorem are_prices_int (ok : (Pl ls g).ok) (p : Nat → Int) : dn_are_prices [eB (Pl ls g), .lst ((List.range ls.length).map fun j => .int (p j))] = .ok (.bl (decide (∀ j, j < ls.length → (g.day j).want = 0 → p j = 0))) := by
  rw [eq_are_prices]; unfold b_are_prices
  have gk := pl_g ok
  have hn : ls.length ≤ 40 := ok.l2
  have gl : g.days.length = ls.length := gk.1
  have hx0 : ixT (eB (Pl ls g)) (.int 0) = some (.lst (ls.map .int)) := by simp [eB]
  have hx2 : ixT (eB (Pl ls g)) (.int 2) = some (.lst [eG g]) := by simp [eB]
  have gx : ixT (eG g) (.int 0) = some (.lst (g.days.map eD)) := by simp [eG]
  have dr := days_range g
  rw [gl] at dr
  have hz : zipT [.lst ((List.range ls.length).map fun j => .int (p j)), .lst (g.days.map eD)] = some ((List.range ls.length).map fun k => .tup [.int (p k), eD (g.day k)]) := by
    rw [zipT_lst, dr, zip_range]
  have pll : ((List.range ls.length).map fun j => T.int (p j)).length = ls.length := by simp
  generalize ((List.range ls.length).map fun j => T.int (p j)) = pl at *
  have A := forL_all (g := gTp 2 (DL.gCons (gNm 2) (DL.gCons (gNm 3) DL.gNil))) (body := b_are_prices_p1) (ev := [some (eB (Pl ls g), false), some (.lst pl, false), none, none]) (r := .bl false) (fun k => T.tup [.int (p k), eD (g.day k)]) (fun k => !(decide ((g.day k).want = 0) && !decide (p k = 0))) (xs := List.range ls.length) fun k hk => by
    unfold b_are_prices_p1
    by_cases hw : (g.day k).want = 0
    · by_cases hp : p k = 0
      · simp [is_whole_eq, eD, hw, hp]
      · simp [is_whole_eq, eD, hw, hp]
    · simp [is_whole_eq, eD, hw]
  have e : (List.range ls.length).all (fun k => !(decide ((g.day k).want = 0) && !decide (p k = 0))) = decide (∀ j, j < ls.length → (g.day j).want = 0 → p j = 0) := by
    rw [Bool.eq_iff_iff, List.all_eq_true, decide_eq_true_iff]
    constructor
    · intro h j hj hw
      have := h j (List.mem_range.mpr hj)
      simpa [hw] using this
    · intro h j hj
      have := h j (List.mem_range.mp hj)
      by_cases hw : (g.day j).want = 0
      · simp [this hw]
      · simp [hw]
  rw [e] at A
  simp [hx0, hx2, gx, hz, pll, -zipT_lst]
  rw [A]
  by_cases h : ∀ j, j < ls.length → (g.day j).want = 0 → p j = 0
  · rw [decide_eq_true h]; simp
  · rw [decide_eq_false h]; simp
def Let (ls : List Int) (g : Good) (p : Nat → Int) : Prop := (∀ j, j < ls.length → (g.day j).want = 0 → p j = 0) ∧ ∀ b f m x, b < ls.length → f + m ≤ ls.length → osum (g.cost b) f m = some x → psum p f m ≤ lit ls b + x
theorem lets_prices_int (ok : (Pl ls g).ok) (p : Nat → Int) : ∃ o : Bool, dn_lets_prices [eB (Pl ls g), .lst ((List.range ls.length).map fun j => .int (p j))] = .ok (.bl o) ∧ (o = true ↔ Let ls g p) := by
  have gk := pl_g ok
  have hn : ls.length ≤ 40 := ok.l2
  have a := are_prices_int ok p
  have lp := look_at_plain_ok ok
  by_cases h : ∀ j, j < ls.length → (g.day j).want = 0 → p j = 0
  · rw [decide_eq_true h] at a
    have hx0 : ixT (eB (Pl ls g)) (.int 0) = some (.lst ((List.range ls.length).map fun k => .int (lit ls k))) := by simp only [eB, ixT_tup, atI_zero, List.getElem?_cons_zero, lights_range ls]
    have hx2 : ixT (eB (Pl ls g)) (.int 2) = some (.lst [eG g]) := by simp [eB]
    obtain ⟨pl, hpl⟩ : ∃ pl, pl = ((List.range ls.length).map fun j => T.int (p j)) := ⟨_, rfl⟩
    have hc : ∀ ev : Lo, ev = [some (eB (Pl ls g), false), some (.lst pl, false), none, none] → compL (gTp 2 (DL.gCons (gNm 2) (DL.gCons (gNm 3) DL.gNil))) dYes (dCall dn_holds_at (dCons (dVar 3) (dCons (dCall dn_wants_from (dCons (d2 ixT (d2 ixT (dVar 0) (dC (.int 2))) (dC (.int 0))) (dCons (dVar 2) dNil))) (dCons (dVar 1) dNil)))) ev ((List.range ls.length).map fun (k : Nat) => .tup [.int k, .int (lit ls k)])
        = .ok ((List.range ls.length).map fun b => .bl (decide (∀ k, k < ls.length → runB (g.cost b) p (k + 1) ≤ lit ls b))) := fun ev he => by
      subst he
      apply compL_map
      intro b hb
      have hb := List.mem_range.mp hb
      have w := wants_from_eq g gk hn hb
      have hh := holds_at_eq (lit ls b) (g.cost b) p ls.length
      rw [← hpl] at hh
      rw [cturn_ap]
      simp [hx2, w, hh]
    have hc := hc _ rfl
    have hb : bls ((List.range ls.length).map fun b => T.bl (decide (∀ k, k < ls.length → runB (g.cost b) p (k + 1) ≤ lit ls b))) = some ((List.range ls.length).map fun b => decide (∀ k, k < ls.length → runB (g.cost b) p (k + 1) ≤ lit ls b)) := bls_map _ _
    have hl : ((List.range ls.length).map fun b => T.bl (decide (∀ k, k < ls.length → runB (g.cost b) p (k + 1) ≤ lit ls b))).length ≤ 1000 := by simp; omega
    have iff : ((List.range ls.length).map fun b => decide (∀ k, k < ls.length → runB (g.cost b) p (k + 1) ≤ lit ls b)).all id = true ↔ Let ls g p := by
      rw [List.all_eq_true]
      constructor
      · intro q
        refine ⟨h, fun b f m x hb hfm hx => ?_⟩
        have := q _ (List.mem_map.mpr ⟨b, List.mem_range.mpr hb, rfl⟩)
        have := of_decide_eq_true this
        exact (runB_iff (lit_nonneg ok b) ls.length).mp this f m x hfm hx
      · intro q o ho
        obtain ⟨b, hb, rfl⟩ := List.mem_map.mp ho
        have hb := List.mem_range.mp hb
        exact decide_eq_true ((runB_iff (lit_nonneg ok b) ls.length).mpr fun f m x hfm hx => q.2 b f m x hb hfm hx)
    rw [← hpl] at a ⊢
    generalize ((List.range ls.length).map fun b => T.bl (decide (∀ k, k < ls.length → runB (g.cost b) p (k + 1) ≤ lit ls b))) = u1 at *
    generalize ((List.range ls.length).map fun b => decide (∀ k, k < ls.length → runB (g.cost b) p (k + 1) ≤ lit ls b)) = u2 at *
    refine ⟨u2.all id, ?_, iff⟩
    rw [eq_lets_prices]; unfold b_lets_prices
    simp (disch := omega) [lp, a, hx0, enum_range, hc, hb]
  · rw [decide_eq_false h] at a
    refine ⟨false, ?_, by simp; exact fun z => h z.1⟩
    rw [eq_lets_prices]; unfold b_lets_prices
    simp [lp, a]
theorem lets_true (ok : (Pl ls g).ok) {p : Nat → Int} (h : Let ls g p) : dn_lets_prices [eB (Pl ls g), .lst ((List.range ls.length).map fun j => .int (p j))] = .ok (.bl true) := by
  obtain ⟨o, e, i⟩ := lets_prices_int ok p
  rw [e, i.mpr h]
theorem lets_false (ok : (Pl ls g).ok) {p : Nat → Int} (h : ¬ Let ls g p) : dn_lets_prices [eB (Pl ls g), .lst ((List.range ls.length).map fun j => .int (p j))] = .ok (.bl false) := by
  obtain ⟨o, e, i⟩ := lets_prices_int ok p
  rw [e]
  cases o with
  | true => exact absurd (i.mp rfl) h
  | false => rfl
theorem let_told (ok : (Pl ls g).ok) : Let ls g (priceV ls g) := by
  refine ⟨fun j hj hw => ?_, fun b f m x hb hf hx => ?_⟩
  · unfold priceV; rw [last_free ok hw]; omega
  · have := last_ext ok hb hf hx
    rw [psum_price]; omega
/-- prices that are let by come to no more than the least cost -/
theorem let_dual (ok : (Pl ls g).ok) {p : Nat → Int} (h : Let ls g p) : psum p 0 ls.length ≤ rowV ls g ls.length := by
  refine dual (L := lit ls) (z := g.zw) (c := g.cost) (n := ls.length) (fun v hv hz => h.1 v hv ?_) h.2 ls.length ls.length (Nat.le_refl _) (Nat.le_refl _) _ (row_some ok)
  unfold Good.zw at hz
  exact of_decide_eq_true hz
theorem psum_range (p : Nat → Int) : ∀ n, ((List.range n).map p).sum = psum p 0 n
  | 0 => rfl
  | n + 1 => by
    rw [List.range_succ, List.map_append, List.sum_append, psum_range p n]
    show _ = psum p 0 n + p (0 + n)
    simp
theorem psum_told (ok : (Pl ls g).ok) : psum (priceV ls g) 0 ls.length = rowV ls g ls.length := by rw [← psum_range]; exact prices_sum ok
end
end Pg

set_option maxHeartbeats 2000000
/-! reaches -/
namespace BK
theorem filter_mid (p : Nat → Bool) {n a c : Nat} (hac : a ≤ c) (hc : c < n) (hp : ∀ b, b < n → p b = (decide (a ≤ b) && decide (b ≤ c))) : (List.range n).filter p = (List.range (c + 1 - a)).map (a + ·) := by
  have key : ∀ m, m ≤ n → (List.range m).filter p = (List.range (min m (c + 1) - a)).map (a + ·) := fun m => by
    induction m with
    | zero => intro _; simp
    | succ m ih =>
      intro hm
      rw [List.range_succ, List.filter_append, ih (by omega)]
      have hpm := hp m (by omega)
      by_cases h1 : a ≤ m
      · by_cases h2 : m ≤ c
        · have e1 : p m = true := by rw [hpm]; simp [h1, h2]
          have e2 : min (m + 1) (c + 1) - a = (min m (c + 1) - a) + 1 := by omega
          have e3 : a + (min m (c + 1) - a) = m := by omega
          rw [e2, List.range_succ, List.map_append]
          simp [e1, e3]
        · have e1 : p m = false := by rw [hpm]; simp [h2]
          have e2 : min (m + 1) (c + 1) - a = min m (c + 1) - a := by omega
          rw [e2]; simp [e1]
      · have e1 : p m = false := by rw [hpm]; simp [h1]
        have e2 : min (m + 1) (c + 1) - a = min m (c + 1) - a := by omega
        rw [e2]; simp [e1]
  rw [key n (Nat.le_refl _)]
  have : min n (c + 1) = c + 1 := by omega
  rw [this]
def Good.there (g : Good) (v : Nat) : List Nat := (List.range g.days.length).filter fun b => (g.price b v).isSome
def Good.rf (g : Good) (v : Nat) : Nat := (g.there v).head?.getD 0
def Good.rl (g : Good) (v : Nat) : Nat := (g.there v).getLast?.getD 0
theorem there_mid {g : Good} {v a c : Nat} (hac : a ≤ c) (hc : c < g.days.length) (hp : ∀ b, b < g.days.length → (g.price b v).isSome = (decide (a ≤ b) && decide (b ≤ c))) :
    g.there v = (List.range (c + 1 - a)).map (a + ·) ∧ g.rf v = a ∧ g.rl v = c := by
  have h : g.there v = (List.range (c + 1 - a)).map (a + ·) := filter_mid _ hac hc hp
  refine ⟨h, ?_, ?_⟩
  · unfold Good.rf; rw [h]
    have : c + 1 - a = (c - a) + 1 := by omega
    rw [this, List.range_succ_eq_map]; simp
  · unfold Good.rl; rw [h]
    have : c + 1 - a = (c - a) + 1 := by omega
    rw [this, List.range_succ, List.map_append]; simp; omega
/-- where a day's loaves may be baked -/
theorem price_reach {g : Good} {n : Nat} (ok : g.ok n) {v c : Nat} (hv : v < n) (hvc : v ≤ c) (hc : c < n) (hp : g.pres v c) (hq : c + 1 < n → (g.day c).fine = none) {a : Nat} (ha : ∀ b, b ≤ v → (a ≤ b ↔ ∀ l, g.life = some l → (v : Int) - b ≤ l)) (b : Nat) (hb : b < n) : (g.price b v).isSome = (decide (a ≤ b) && decide (b ≤ c)) := by
  have av : a ≤ v := (ha v (Nat.le_refl _)).mpr fun l hl => by have := ok.2.2 l hl; omega
  have pr := price_pr g b v
  generalize g.price b v = o at pr
  cases pr with
  | ahead h1 h2 =>
    have := (ha b h1).mpr h2
    have h3 : b ≤ c := by omega
    simp [(ha b h1).mpr h2, h3]
  | old h1 l hl hx =>
    have h3 : ¬ a ≤ b := fun z => by have := (ha b h1).mp z l hl; omega
    simp [h3]
  | late h1 hpb =>
    have h2 : a ≤ b := by omega
    have h3 : b ≤ c := Nat.le_of_not_lt fun z => by
      have e : g.days[c]? = some (g.day c) := by
        unfold Good.day
        rw [List.getD_eq_getElem?_getD, List.getElem?_eq_getElem (by rw [ok.1]; omega)]; rfl
      exact hpb c _ hvc z e (hq (by omega))
    simp [h2, h3]
  | never h1 hpb =>
    have h3 : ¬ b ≤ c := fun z => hpb (pres_sub hp (Nat.le_refl _) z)
    simp [h3]
end BK
namespace Pg
open PySem L2 DL BK
theorem reach_ex {g : Good} {n : Nat} (ok : g.ok n) (hn : n ≤ 40) {v : Nat} (hv : v < n) : ∃ a c : Nat, dn_reach_of [eG g, .int v] = .ok (.tup [.int a, .int c]) ∧ a ≤ v ∧ v ≤ c ∧ c < n ∧ a = (match g.life with | none => 0 | some l => v - l.toNat) ∧ ∀ b, b < n → (g.price b v).isSome = (decide (a ≤ b) && decide (b ≤ c)) := by
  have gl : g.days.length = n := ok.1
  have da : ∀ i, i < n → (g.days.map eD)[i]? = some (eD (g.day i)) := fun i hi => by
    rw [days_range g, gl]; exact range_at _ hi
  have dl : ((g.days.map eD).length : Int) = n := by rw [List.length_map, gl]
  generalize hdl : g.days.map eD = dys at *
  obtain ⟨a, ha⟩ : ∃ a : Nat, a = (match g.life with | none => 0 | some l => v - l.toNat) := ⟨_, rfl⟩
  have av : a ≤ v := by rw [ha]; split <;> omega
  have haa : ∀ b, b ≤ v → (a ≤ b ↔ ∀ l, g.life = some l → (v : Int) - b ≤ l) := fun b hb => by
    rw [ha]
    cases e : g.life with
    | none => simp
    | some l =>
      have := ok.2.2 l e
      simp; omega
  have W : ∃ c : Nat, v ≤ c ∧ c < n ∧ g.pres v c ∧ (c + 1 < n → (g.day c).fine = none) ∧ whileL b_reach_of_p1 b_reach_of_p2 fuel [some (eG g, false), some (.int v, false), some (.int a, false), some (.int v, false), some (.lst dys, false), some (eO g.life, false)]
      = .nx [some (eG g, false), some (.int v, false), some (.int a, false), some (.int c, false), some (.lst dys, false), some (eO g.life, false)] := by
    have G := whileL_go (c := b_reach_of_p1) (body := b_reach_of_p2) (fun k : Nat => [some (eG g, false), some (.int v, false), some (.int a, false), some (.int ((v : Int) + k), false), some (.lst dys, false), some (eO g.life, false)])
      (fun fl => ∃ c : Nat, v ≤ c ∧ c < n ∧ g.pres v c ∧ (c + 1 < n → (g.day c).fine = none) ∧ fl = .nx [some (eG g, false), some (.int v, false), some (.int a, false), some (.int c, false), some (.lst dys, false), some (eO g.life, false)])
      (fun k => v + k < n ∧ g.pres v (v + k)) (fun k => n - (v + k)) (fun k hk => ?_) fuel 0 ⟨by omega, fun i d h1 h2 _ => by omega⟩ (by unfold fuel; omega)
    · simpa using G
    · obtain ⟨hk1, hk2⟩ := hk
      have e0 : (v : Int) + k = ((v + k : Nat) : Int) := by omega
      have dk : atI dys ((v : Int) + k) = some (eD (g.day (v + k))) := by rw [← da (v + k) hk1]; exact atI_cast dys (v + k)
      have hge : g.days[v + k]? = some (g.day (v + k)) := by
        unfold Good.day
        rw [List.getD_eq_getElem?_getD, List.getElem?_eq_getElem (by omega)]; rfl
      unfold b_reach_of_p1 b_reach_of_p2
      by_cases e : v + k + 1 < n
      · have e1 : (v : Int) + k < (dys.length : Int) - 1 := by omega
        cases hf : (g.day (v + k)).fine with
        | none =>
          left
          refine ⟨by simp [e1, dk, eD, hf], v + k, by omega, hk1, hk2, fun _ => hf, by rw [e0]⟩
        | some f =>
          right
          refine ⟨by simp [e1, dk, eD, hf], .inl ⟨k + 1, ⟨by omega, fun i d h1 h2 h3 => ?_⟩, by omega, ?_⟩⟩
          · by_cases q : i = v + k
            · subst q
              rw [hge] at h3
              cases h3
              rw [hf]; exact fun z => nomatch z
            · exact hk2 i d h1 (by omega) h3
          · have aa : ∀ x y : Int, augAdd (.int x) (.int y) = some (.int (x + y)) := fun _ _ => rfl
            have ae : (v : Int) + ((k + 1 : Nat) : Int) = (v : Int) + k + 1 := by omega
            rw [ae]
            simp [flAug, aa]
      · left
        have e1 : ¬ ((v : Int) + k < (dys.length : Int) - 1) := by omega
        exact ⟨by simp [e1], v + k, by omega, hk1, hk2, fun z => by omega, by rw [e0]⟩
  obtain ⟨c, h1, h2, h3, h4, W⟩ := W
  refine ⟨a, c, ?_, av, h1, h2, ha, fun b hb => price_reach ok hv h1 h2 h3 h4 haa b hb⟩
  rw [eq_reach_of]; unfold b_reach_of
  have hG : eG g = .tup [.lst dys, eO g.life] := by rw [← hdl]; rfl
  cases e : g.life with
  | none =>
    rw [e] at W ha hG
    simp only at ha
    subst ha
    rw [hG] at W ⊢
    try simp at W
    simp [W]
  | some l =>
    rw [e] at W ha hG
    simp only at ha
    have hl := ok.2.2 l e
    rw [hG] at W ⊢
    try simp at W
    have mx : (if 0 < (v : Int) - l then (v : Int) - l else 0) = (a : Int) := by rw [ha]; split <;> omega
    have mx2 : (if l < (v : Int) then (v : Int) - l else 0) = (a : Int) := by rw [ha]; split <;> omega
    simp [W, mx, mx2]
theorem reach_of_eq {g : Good} {n : Nat} (ok : g.ok n) (hn : n ≤ 40) {v : Nat} (hv : v < n) : dn_reach_of [eG g, .int v] = .ok (.tup [.int (g.rf v), .int (g.rl v)]) ∧ g.rf v ≤ v ∧ v ≤ g.rl v ∧ g.rl v < n ∧ g.there v = (List.range (g.rl v + 1 - g.rf v)).map (g.rf v + ·) ∧ ∀ b, b < n → (g.price b v).isSome = (decide (g.rf v ≤ b) && decide (b ≤ g.rl v)) := by
  obtain ⟨a, c, h1, h2, h3, h4, _, h5⟩ := reach_ex ok hn hv
  obtain ⟨q1, q2, q3⟩ := there_mid (g := g) (v := v) (a := a) (c := c) (by omega) (by rw [ok.1]; exact h4) (by rw [ok.1]; exact h5)
  rw [q2, q3]
  exact ⟨h1, h2, h3, h4, q1, h5⟩
theorem law_reach_eq {g : Good} {n : Nat} (ok : g.ok n) (hn : n ≤ 40) {v : Nat} (hv : v < n) : dn__law_reach [eG g, .int v] = .ok (.tup [.int (g.rf v), .int (g.rl v)]) := by
  rw [eq__law_reach]; unfold b__law_reach
  obtain ⟨_, h2, h3, h4, ht, _⟩ := reach_of_eq ok hn hv
  have gl : g.days.length = n := ok.1
  have hx : ixT (eG g) (.int 0) = some (.lst (g.days.map eD)) := by simp [eG]
  have hc : ∀ ev : Lo, ev = [some (eG g, false), some (.int v, false), none, none] → compL (gNm 3) (dTest (d1 notNonT (dCall dn__law_price (dCons (dVar 0) (dCons (dVar 3) (dCons (dVar 1) dNil)))))) (dVar 3) ev ((List.range n).map fun (i : Nat) => T.int (i : Int)) = .ok ((g.there v).map fun (i : Nat) => T.int (i : Int)) := fun ev he => by
    subst he
    unfold Good.there
    rw [gl]
    apply compL_flt
    intro b hb
    have hb := List.mem_range.mp hb
    rw [cturn_ap]
    cases hp : g.price b v <;> simp [law_price_eq g b v (by omega) (by omega), hp]
  have hc := hc _ rfl
  have l0 : ((g.there v).map fun (i : Nat) => T.int (i : Int))[0]? = some (.int (g.rf v)) := by
    rw [ht]
    have : g.rl v + 1 - g.rf v = (g.rl v - g.rf v) + 1 := by omega
    rw [this, List.range_succ_eq_map]; simp
  have l1 : ((g.there v).map fun (i : Nat) => T.int (i : Int)).getLast? = some (.int (g.rl v)) := by
    rw [ht]
    have : g.rl v + 1 - g.rf v = (g.rl v - g.rf v) + 1 := by omega
    rw [this, List.range_succ, List.map_append]; simp; omega
  have ll : ((g.there v).map fun (i : Nat) => T.int (i : Int)).length ≤ 1000 := by rw [ht]; simp; omega
  generalize ((g.there v).map fun (i : Nat) => T.int (i : Int)) = th at *
  simp (disch := omega) [hx, gl, rngT_eq, hc, l0, l1, -getElem?_pos]
end Pg

set_option maxHeartbeats 2000000
/-! stretches that want too much -/
namespace Pg
open PySem L2 DL BK
def eR (r : Int × Int × Int) : T := .tup [.int r.1, .int r.2.1, .int r.2.2]
@[simp] theorem kn_eR {r : Int × Int × Int} : kn (eR r) = true := Eq.trans rfl rfl
@[simp] theorem isMut_eR {r : Int × Int × Int} : isMut (eR r) = false := Eq.trans rfl rfl
def needed (rs : List (Int × Int × Int)) (f l : Nat) : Int := ((rs.filter fun r => decide ((f : Int) ≤ r.1) && decide (r.2.1 ≤ (l : Int))).map fun r => r.2.2).sum
def room (dk : List Int) (f l : Nat) : Nat := ((List.range (l + 1 - f)).filter fun (i : Nat) => !decide (((f : Int) + (i : Int)) ∈ dk)).length
def beyondB (bound : Option Int) (dk : List Int) (rs : List (Int × Int × Int)) (f l : Nat) : Bool := match bound with
  | none => decide (0 < needed rs f l) && decide (room dk f l = 0)
  | some b => decide (b * (room dk f l : Int) < needed rs f l)
theorem room_le (dk : List Int) (f l : Nat) : room dk f l ≤ l + 1 := by
  unfold room
  have := List.length_filter_le (fun (i : Nat) => !decide (((f : Int) + (i : Int)) ∈ dk)) (List.range (l + 1 - f))
  simp at this ⊢; omega
theorem is_beyond_eq {B : Bakery} (hb : ∀ k, B.bound = some k → 1 ≤ k ∧ k ≤ 1000000000) {dk : List Int} {rs : List (Int × Int × Int)} (hr : rs.length ≤ 100) {f l : Nat} (hf : f ≤ 100) (hl : l ≤ 100) :
    dn_is_beyond [eB B, .lst (dk.map .int), .lst (rs.map eR), .int f, .int l] = .ok (.bl (beyondB B.bound dk rs f l)) := by
  rw [eq_is_beyond]; unfold b_is_beyond
  have hx : ixT (eB B) (.int 1) = some (eO B.bound) := by simp [eB]
  generalize eB B = bk at *
  have c1 : ∀ ev : Lo, ev = [some (bk, false), some (.lst (dk.map .int), false), some (.lst (rs.map eR), false), some (.int f, false), some (.int l, false), none, none, none, none, none, none] →
      compL (gTp 3 (DL.gCons (gNm 8) (DL.gCons (gNm 9) (DL.gCons (gNm 10) DL.gNil)))) (dAnd (dTest (d2 leT (dVar 3) (dVar 8))) (dTest (d2 leT (dVar 9) (dVar 4)))) (dVar 10) ev (rs.map eR) = .ok ((rs.filter fun r => decide ((f : Int) ≤ r.1) && decide (r.2.1 ≤ (l : Int))).map fun r => .int r.2.2) := fun ev he => by
    subst he
    apply compL_flt
    intro r hr
    rw [cturn_ap]
    by_cases h1 : (f : Int) ≤ r.1 <;> by_cases h2 : r.2.1 ≤ (l : Int) <;> simp [eR, h1, h2]
  have c1 := c1 _ rfl
  have c2 : ∀ ev : Lo, ev = [some (bk, false), some (.lst (dk.map .int), false), some (.lst (rs.map eR), false), some (.int f, false), some (.int l, false), some (.int (needed rs f l), false), none, none, none, none, none] →
      compL (gNm 7) (dTest (d2 ninT (dVar 7) (dVar 1))) (dVar 7) ev ((List.range (l + 1 - f)).map fun (i : Nat) => T.int ((f : Int) + (i : Int))) = .ok (((List.range (l + 1 - f)).filter fun (i : Nat) => !decide (((f : Int) + (i : Int)) ∈ dk)).map fun (i : Nat) => T.int ((f : Int) + (i : Int))) := fun ev he => by
    subst he
    apply compL_flt
    intro i hi
    rw [cturn_ap]
    by_cases h : ((f : Int) + (i : Int)) ∈ dk <;> simp [ninT_ints, h]
  have c2 := c2 _ rfl
  have l1 : ((rs.filter fun r => decide ((f : Int) ≤ r.1) && decide (r.2.1 ≤ (l : Int))).map fun r => T.int r.2.2).length ≤ 1000 := by
    have := List.length_filter_le (fun r : Int × Int × Int => decide ((f : Int) ≤ r.1) && decide (r.2.1 ≤ (l : Int))) rs
    rw [List.length_map]; omega
  have s1 : nums ((rs.filter fun r => decide ((f : Int) ≤ r.1) && decide (r.2.1 ≤ (l : Int))).map fun r => T.int r.2.2) = some ((rs.filter fun r => decide ((f : Int) ≤ r.1) && decide (r.2.1 ≤ (l : Int))).map fun r => r.2.2) := nums_map _ _
  have l2 : (((List.range (l + 1 - f)).filter fun (i : Nat) => !decide (((f : Int) + (i : Int)) ∈ dk)).map fun (i : Nat) => T.int ((f : Int) + (i : Int))).length = room dk f l := by rw [List.length_map]; rfl
  have sm : ((rs.filter fun r => decide ((f : Int) ≤ r.1) && decide (r.2.1 ≤ (l : Int))).map fun r => r.2.2).sum = needed rs f l := rfl
  have rl := room_le dk f l
  have ee : ((l : Int) + 1 - f).toNat = l + 1 - f := by omega
  generalize ((rs.filter fun r => decide ((f : Int) ≤ r.1) && decide (r.2.1 ≤ (l : Int))).map fun r => T.int r.2.2) = u1 at *
  generalize (((List.range (l + 1 - f)).filter fun (i : Nat) => !decide (((f : Int) + (i : Int)) ∈ dk)).map fun (i : Nat) => T.int ((f : Int) + (i : Int))) = u2 at *
  generalize (rs.filter fun r => decide ((f : Int) ≤ r.1) && decide (r.2.1 ≤ (l : Int))).map (fun r => r.2.2) = u3 at *
  unfold beyondB
  cases e : B.bound with
  | none =>
    rw [e] at hx
    by_cases h1 : 0 < needed rs f l <;> simp (disch := omega) [hx, c1, c2, s1, l2, sm, ee, rngF_eq, h1]
  | some b =>
    rw [e] at hx
    have := hb b e
    have mm : mulT (.int b) (.int (room dk f l)) = some (.int (b * (room dk f l : Int))) := mulT_ok (by omega)
    simp (disch := omega) [hx, c1, c2, s1, l2, sm, ee, rngF_eq, mm]
/-- what all goods want, with their reaches -/
def goodR (n : Nat) (g : Good) : List (Int × Int × Int) := (List.range n).map fun v => ((g.rf v : Int), (g.rl v : Int), (g.day v).want)
def allR (B : Bakery) : List (Int × Int × Int) := (B.goods.map (goodR B.lights.length)).flatten
theorem allR_len {B : Bakery} (ok : B.ok) : (allR B).length ≤ 80 := by
  unfold allR
  have h1 := ok.l2
  have h2 := ok.g2
  have : ∀ gs : List Good, ((gs.map (goodR B.lights.length)).flatten).length = gs.length * B.lights.length := fun gs => by
    induction gs with
    | nil => simp
    | cons g gs ih => rw [List.map_cons, List.flatten_cons, List.length_append, ih, List.length_cons, Nat.succ_mul]; unfold goodR; rw [List.length_map, List.length_range]; omega
  rw [this]
  have := Nat.mul_le_mul h2 h1
  omega
theorem goods_range (B : Bakery) : B.goods.map eG = (List.range B.goods.length).map fun (k : Nat) => eG (B.goods.getD k ⟨[], none⟩) := map_range eG B.goods ⟨[], none⟩
theorem fold_good (n : Nat) (gs : List Good) : ∀ k, k ≤ gs.length → (List.range k).foldl (fun rs k => rs ++ goodR n (gs.getD k ⟨[], none⟩)) [] = ((gs.take k).map (goodR n)).flatten
  | 0, _ => by simp
  | k + 1, h => by
    rw [List.range_succ, List.foldl_append, fold_good n gs k (by omega), List.take_succ, List.getElem?_eq_getElem (show k < gs.length by omega)]
    have e : gs.getD k ⟨[], none⟩ = gs[k] := by rw [List.getD_eq_getElem?_getD, List.getElem?_eq_getElem (show k < gs.length by omega)]; rfl
    rw [List.map_append, List.flatten_append, List.foldl_cons, List.foldl_nil, e]
    show _ = _ ++ ([goodR n gs[k]]).flatten
    rw [List.flatten_cons, List.flatten_nil, List.append_nil]
theorem fold_all (B : Bakery) : (List.range B.goods.length).foldl (fun rs k => rs ++ goodR B.lights.length (B.goods.getD k ⟨[], none⟩)) [] = allR B := by
  rw [fold_good _ _ _ (Nat.le_refl _), List.take_length]; rfl
theorem goodR_len (n : Nat) (g : Good) : (goodR n g).length = n := by unfold goodR; simp
theorem good_ok {B : Bakery} (ok : B.ok) {k : Nat} (hk : k < B.goods.length) : (B.goods.getD k ⟨[], none⟩).ok B.lights.length := by
  rw [List.getD_eq_getElem?_getD, List.getElem?_eq_getElem hk]
  exact ok.gs _ (List.getElem_mem hk)
theorem reaches_of_eq {B : Bakery} (ok : B.ok) : dn_reaches_of [eB B] = .ok (.lst ((allR B).map eR)) := by
  rw [eq_reaches_of]; unfold b_reaches_of
  have hx : ixT (eB B) (.int 2) = some (.lst (B.goods.map eG)) := by simp [eB]
  have hn := ok.l2
  have h2 := ok.g2
  have L := forL_foldN (g := gNm 2) (body := b_reaches_of_p2) (fun (k : Nat) => eG (B.goods.getD k ⟨[], none⟩)) (fun rs : List (Int × Int × Int) => [some (eB B, false), some (.lst (rs.map eR), true), none, none, none, none, none]) (fun rs k => rs ++ goodR B.lights.length (B.goods.getD k ⟨[], none⟩)) (fun k rs => rs.length = k * B.lights.length) (n := B.goods.length) (s0 := []) (by simp) fun k rs hrs hk => ⟨?_, ?_⟩
  · have L := L.1
    rw [fold_all, ← goods_range] at L
    simp only [List.map_nil] at L
    simp [hx, L]
  · rw [List.length_append, goodR_len, hrs, Nat.succ_mul]
  · have gk := good_ok ok hk
    generalize B.goods.getD k ⟨[], none⟩ = g at *
    have gl : g.days.length = B.lights.length := gk.1
    have gx : ixT (eG g) (.int 0) = some (.lst (g.days.map eD)) := by simp [eG]
    have dr := days_range g
    rw [gl] at dr
    have hk2 : k * B.lights.length ≤ 1 * 40 := Nat.mul_le_mul (by omega) hn
    have I := forL_appN (g := gTp 2 (DL.gCons (gNm 3) (DL.gCons (gNm 4) DL.gNil))) (body := b_reaches_of_p1) (fun (v : Nat) => T.tup [.int v, eD (g.day v)]) (fun us => [some (eB B, false), some (.lst us, true), some (eG g, false), none, none, none, none]) (fun v => eR ((g.rf v : Int), (g.rl v : Int), (g.day v).want)) (xs := List.range B.lights.length) (rs.map eR) fun v us hv hu => by
      have hv := List.mem_range.mp hv
      simp at hu
      have ro := (reach_of_eq gk hn hv).1
      unfold b_reaches_of_p1
      simp (disch := omega) [ro, eD, eR]
    have e3 : rs.map eR ++ (List.range B.lights.length).map (fun v => eR ((g.rf v : Int), (g.rl v : Int), (g.day v).want)) = (rs ++ goodR B.lights.length g).map eR := by
      unfold goodR; rw [List.map_append, List.map_map]; rfl
    rw [e3] at I
    unfold b_reaches_of_p2
    simp [gx, dr, enum_range, I, -List.map_append]
/-- days that are dark: a rising list -/
def dkT (ds : List Nat) : List T := ds.map fun (i : Nat) => T.int (i : Int)
def dkI (ds : List Nat) : List Int := ds.map fun (i : Nat) => (i : Int)
theorem dk_eq (ds : List Nat) : dkT ds = (dkI ds).map .int := by unfold dkT dkI; rw [List.map_map]; rfl
structure Rising (ds : List Nat) (n : Nat) : Prop where
  lt : ∀ i, i + 1 < ds.length → ds.getD i 0 < ds.getD (i + 1) 0
  le : ∀ d ∈ ds, d < n
theorem rising_filter (p : Nat → Bool) (n : Nat) : Rising ((List.range n).filter p) n where
  lt := fun i h => by
    have pw : List.Pairwise (· < ·) ((List.range n).filter p) := List.Pairwise.filter _ List.pairwise_lt_range
    have := List.pairwise_iff_getElem.mp pw i (i + 1) (by omega) h (by omega)
    rw [List.getD_eq_getElem?_getD, List.getD_eq_getElem?_getD, List.getElem?_eq_getElem (show i < _ by omega), List.getElem?_eq_getElem h]
    exact this
  le := fun d hd => List.mem_range.mp (List.mem_filter.mp hd).1
theorem look_at_days_ok {B : Bakery} {ds : List Nat} (r : Rising ds B.lights.length) (hl : ds.length ≤ 1000) : dn_look_at_days [eB B, .lst (dkT ds)] = .ok .non := by
  rw [eq_look_at_days]; unfold b_look_at_days
  have hx : ixT (eB B) (.int 0) = some (.lst (B.lights.map .int)) := by simp [eB]
  have hc : ∀ ev : Lo, ev = [some (eB B, false), some (.lst (dkT ds), false), none, none] → compL (gNm 3) dYes (dCall dn_is_within (dCons (dVar 3) (dCons (dC (.int 0)) (dCons (d2 subT (dBlt lenL (dCons (d2 ixT (dVar 0) (dC (.int 0))) dNil)) (dC (.int 1))) dNil)))) ev (dkT ds) = .ok (ds.map fun _ => .bl true) := fun ev he => by
    subst he
    apply compL_map
    intro d hd
    have := r.le d hd
    have h1 : (0 : Int) ≤ d := by omega
    have h2 : (d : Int) ≤ (B.lights.length : Int) - 1 := by omega
    rw [cturn_ap]
    simp [hx, is_within_eq, h1, h2]
  have hc := hc _ rfl
  have hb : bls (ds.map fun _ => T.bl true) = some (ds.map fun _ => true) := bls_map (fun _ => true) ds
  have hdl : (dkT ds).length = ds.length := by unfold dkT; simp
  have da : ∀ i, i < ds.length → (dkT ds)[i]? = some (.int (ds.getD i 0)) := fun i hi => by
    unfold dkT
    rw [List.getElem?_map, List.getD_eq_getElem?_getD, List.getElem?_eq_getElem hi]; rfl
  have hall : (ds.map fun _ => true).all id = true := by simp
  have hml : (ds.map fun _ => T.bl true).length ≤ 1000 := by simp; omega
  generalize (ds.map fun _ => T.bl true) = bs at *
  generalize (ds.map fun _ => true) = bs2 at *
  have L : forL (gNm 2) b_look_at_days_p1 ((List.range (ds.length - 1)).map fun (i : Nat) => T.int (1 + (i : Int))) [some (eB B, false), some (.lst (dkT ds), false), none, none]
      = .nx [some (eB B, false), some (.lst (dkT ds), false), none, none] := by
    apply forL_same
    intro t ht
    obtain ⟨i, hi, rfl⟩ := List.mem_map.mp ht
    have hi := List.mem_range.mp hi
    have q1 := da i (by omega)
    have q2 : atI (dkT ds) (1 + (i : Int)) = some (.int (ds.getD (i + 1) 0)) := by
      rw [← da (i + 1) (by omega)]
      have := atI_cast (dkT ds) (i + 1)
      have e : ((i + 1 : Nat) : Int) = 1 + i := by omega
      rw [e] at this; exact this
    have hlt := r.lt i (by omega)
    have hno : ¬ (ds.getD (i + 1) 0 ≤ ds.getD i 0) := by omega
    have e1 : (1 : Int) + i - 1 = i := by omega
    generalize ds.getD (i + 1) 0 = y at *
    generalize ds.getD i 0 = x at *
    unfold b_look_at_days_p1
    simp [q2, e1, q1, hno, -getElem?_pos]
  generalize dkT ds = dk at *
  have ee : ((ds.length : Int) - 1).toNat = ds.length - 1 := by omega
  simp (disch := omega) [hx, hc, hb, hall, hdl, ee, rngF_eq, L]
/-- the first stretch that wants too much -/
def firstT (B : Bakery) (dk : List Int) : Option T := (List.range B.lights.length).findSome? fun f => (List.range (B.lights.length - f)).findSome? fun i => if beyondB B.bound dk (allR B) f (f + i) = true then some (.tup [.int f, .int ((f : Int) + i)]) else none
def nonO : Option T → T
  | none => .non
  | some t => t
theorem beyond_at {B : Bakery} (ok : B.ok) (dk : List Int) {f i : Nat} (h : f + i < B.lights.length) : dn_is_beyond [eB B, .lst (dk.map .int), .lst ((allR B).map eR), .int f, .int ((f : Int) + i)] = .ok (.bl (beyondB B.bound dk (allR B) f (f + i))) := by
  have hn := ok.l2
  have := is_beyond_eq ok.bd (dk := dk) (rs := allR B) (by have := allR_len ok; omega) (f := f) (l := f + i) (by omega) (by omega)
  have e : ((f + i : Nat) : Int) = (f : Int) + i := by omega
  rw [e] at this; exact this
theorem stretch_beyond_eq {B : Bakery} (ok : B.ok) (dk : List Int) : dn_stretch_beyond [eB B, .lst (dk.map .int)] = .ok (nonO (firstT B dk)) := by
  rw [eq_stretch_beyond]; unfold b_stretch_beyond
  have hx : ixT (eB B) (.int 0) = some (.lst (B.lights.map .int)) := by simp [eB]
  have hn := ok.l2
  have rs := reaches_of_eq ok
  have bt := fun {f i : Nat} (h : f + i < B.lights.length) => beyond_at ok dk h
  generalize hdk : dk.map T.int = dkt at *
  generalize hrr : (allR B).map eR = rr at *
  have L := forL_findS (g := gNm 4) (body := b_stretch_beyond_p2) (ev := [some (eB B, false), some (.lst dkt, false), some (.lst rr, false), some (.int B.lights.length, false), none, none]) (fun (f : Nat) => T.int (f : Int)) (fun f => (List.range (B.lights.length - f)).findSome? fun i => if beyondB B.bound dk (allR B) f (f + i) = true then some (T.tup [.int f, .int ((f : Int) + i)]) else none) (xs := List.range B.lights.length) fun f hf => by
    have hf := List.mem_range.mp hf
    have I := forL_findS (g := gNm 5) (body := b_stretch_beyond_p1) (ev := [some (eB B, false), some (.lst dkt, false), some (.lst rr, false), some (.int B.lights.length, false), some (.int f, false), none]) (fun (i : Nat) => T.int ((f : Int) + i)) (fun i => if beyondB B.bound dk (allR B) f (f + i) = true then some (T.tup [.int f, .int ((f : Int) + i)]) else none) (xs := List.range (B.lights.length - f)) fun i hi => by
      have hi := List.mem_range.mp hi
      have b := bt (f := f) (i := i) (by omega)
      unfold b_stretch_beyond_p1
      cases e : beyondB B.bound dk (allR B) f (f + i) <;> rw [e] at b <;> simp [b]
    have ee : ((B.lights.length : Int) - f).toNat = B.lights.length - f := by omega
    unfold b_stretch_beyond_p2
    generalize ((List.range (B.lights.length - f)).findSome? fun i => if beyondB B.bound dk (allR B) f (f + i) = true then some (T.tup [.int f, .int ((f : Int) + i)]) else none) = q at *
    cases q <;> simp (disch := omega) [ee, rngF_eq] <;> rw [I] <;> simp
  have hF : firstT B dk = (List.range B.lights.length).findSome? fun f => (List.range (B.lights.length - f)).findSome? fun i => if beyondB B.bound dk (allR B) f (f + i) = true then some (T.tup [.int f, .int ((f : Int) + i)]) else none := rfl
  rw [← hF] at L
  generalize firstT B dk = q at *
  simp (disch := omega) [hx, rs, rngT_eq]
  rw [L]
  cases q <;> simp [nonO]
theorem too_much_eq {B : Bakery} (ok : B.ok) {ds : List Nat} (r : Rising ds B.lights.length) (hl : ds.length ≤ 1000) : dn_too_much [eB B, .lst (dkT ds)] = .ok (nonO (firstT B (dkI ds))) := by
  rw [eq_too_much]; unfold b_too_much
  have l := look_at_bakery_ok ok
  have d := look_at_days_ok r hl
  have s := stretch_beyond_eq ok (dkI ds)
  rw [← dk_eq] at s
  simp [l, d, s]
theorem wants_too_much_eq {B : Bakery} (ok : B.ok) {ds : List Nat} (r : Rising ds B.lights.length) (hl : ds.length ≤ 1000) {f i : Nat} (h : f + i < B.lights.length) : dn_wants_too_much [eB B, .lst (dkT ds), .tup [.int f, .int ((f : Int) + i)]] = .ok (.bl (beyondB B.bound (dkI ds) (allR B) f (f + i))) := by
  rw [eq_wants_too_much]; unfold b_wants_too_much
  have l := look_at_bakery_ok ok
  have d := look_at_days_ok r hl
  have bt := beyond_at ok (dkI ds) h
  rw [← dk_eq] at bt
  have rs := reaches_of_eq ok
  have hx : ixT (eB B) (.int 0) = some (.lst (B.lights.map .int)) := by simp [eB]
  have s : dn_is_stretch_beyond [eB B, .lst (dkT ds), .tup [.int f, .int ((f : Int) + i)]] = .ok (.bl (beyondB B.bound (dkI ds) (allR B) f (f + i))) := by
    rw [eq_is_stretch_beyond]; unfold b_is_stretch_beyond
    generalize dkT ds = dkt at *
    have hc : ∀ ev : Lo, ev = [some (eB B, false), some (.lst dkt, false), some (.tup [.int f, .int ((f : Int) + i)], false), none] → compL (gNm 3) dYes (dCall dn_is_within (dCons (dVar 3) (dCons (dC (.int 0)) (dCons (d2 subT (dBlt lenL (dCons (d2 ixT (dVar 0) (dC (.int 0))) dNil)) (dC (.int 1))) dNil)))) ev [.int f, .int ((f : Int) + i)] = .ok [.bl true, .bl true] := fun ev he => by
      subst he
      have h1 : (0 : Int) ≤ f := by omega
      have h2 : (f : Int) ≤ (B.lights.length : Int) - 1 := by omega
      have h3 : (0 : Int) ≤ (f : Int) + i := by omega
      have h4 : (f : Int) + i ≤ (B.lights.length : Int) - 1 := by omega
      refine compL_c1 ?_ (compL_c1 ?_ compL_nil) <;> rw [cturn_ap] <;> simp [hx, is_within_eq, h1, h2, h3, h4]
    have hc := hc _ rfl
    have hno : ¬ ((f : Int) + i < f) := by omega
    simp (disch := omega) [hc, hno, rs, bt]
  simp [l, d, s]
end Pg

set_option maxHeartbeats 2000000
/-! what sets of lit days cost -/
namespace BK
theorem omin_none (a : Option Int) : omin a none = a := by cases a <;> rfl
theorem omin_map {w : Int} (hw : 0 < w) (a b : Option Int) : omin (a.map (w * ·)) (b.map (w * ·)) = (omin a b).map (w * ·) := by
  cases a with
  | none => rfl
  | some x =>
    cases b with
    | none => rfl
    | some y =>
      show some (if w * y < w * x then w * y else w * x) = some (w * if y < x then y else x)
      by_cases h : y < x
      · rw [if_pos (Int.mul_lt_mul_of_pos_left h hw), if_pos h]
      · have : ¬ w * y < w * x := by
          have := Int.mul_le_mul_of_nonneg_left (Int.not_lt.mp h) (Int.le_of_lt hw)
          omega
        rw [if_neg this, if_neg h]
def pm (f : Nat → Option Int) (S : Nat → Bool) : Nat → Option Int
  | 0 => none
  | i + 1 => if S i = true then omin (pm f S i) (f i) else pm f S i
theorem mn_pm (g : Good) (S : Nat → Bool) {v : Nat} (hw : 0 < (g.day v).want) : ∀ i, mn g.zw g.cost S i v = (pm (fun b => g.price b v) S i).map ((g.day v).want * ·)
  | 0 => by
    show (if g.zw v = true then some 0 else none) = none
    have : g.zw v = false := by unfold Good.zw; exact decide_eq_false (by omega)
    rw [this]; rfl
  | i + 1 => by
    have hc : g.cost i v = (g.price i v).map ((g.day v).want * ·) := by unfold Good.cost; rw [if_neg (by omega)]
    show (if S i = true then omin (mn g.zw g.cost S i v) (g.cost i v) else mn g.zw g.cost S i v) = (if S i = true then omin (pm _ S i) (g.price i v) else pm _ S i).map _
    rw [mn_pm g S hw i, hc]
    split
    · exact omin_map hw _ _
    · rfl
theorem pm_is (f : Nat → Option Int) (S : Nat → Bool) : ∀ i {x : Int}, pm f S i = some x → ∃ b, b < i ∧ f b = some x
  | i + 1, x, h => by
    have h : (if S i = true then omin (pm f S i) (f i) else pm f S i) = some x := h
    split at h
    · rcases omin_or (pm f S i) (f i) with e | e
      · rw [e] at h
        obtain ⟨b, h1, h2⟩ := pm_is f S i h
        exact ⟨b, by omega, h2⟩
      · rw [e] at h; exact ⟨i, by omega, h⟩
    · obtain ⟨b, h1, h2⟩ := pm_is f S i h
      exact ⟨b, by omega, h2⟩
theorem lt_sum (L : Nat → Int) (S : Nat → Bool) : ∀ m, (((List.range m).filter S).map L).sum = lt L S m
  | 0 => rfl
  | m + 1 => by
    show _ = lt L S m + if S m = true then L m else 0
    rw [List.range_succ, List.filter_append, List.map_append, List.sum_append, lt_sum L S m]
    by_cases h : S m = true
    · simp [h]
    · simp [h]
theorem osum_head (f : Nat → Option Int) (a n : Nat) : osum f a (n + 1) = oadd (f a) (osum f (a + 1) n) := by
  have := osum_add f a 1 n
  have e : osum f a 1 = f a := by show oadd (some 0) (f (a + 0)) = _; rw [zero_oadd]; rfl
  rw [e, Nat.add_comm 1 n] at this
  exact this
end BK
namespace DL
open PySem L2 BK
theorem minI_snoc (xs : List Int) (x : Int) : minI (xs ++ [x]) = omin (minI xs) (some x) := by
  cases xs with
  | nil => rfl
  | cons y ys =>
    show some ((ys ++ [x]).foldl _ y) = _
    rw [List.foldl_append]; rfl
/-- a sum whose parts may be lacking -/
theorem forL_part {g : T → Lo → Option Lo} {body : Lo → Fl} (enc : Nat → T) (E : Int → Lo) (f : Nat → Option Int) (r : T) {n : Nat} (h : ∀ k s, k < n → turn g body (enc k) (E s) = match f k with | some y => .nx (E (s + y)) | none => .rt r) (s : Int) :
    forL g body ((List.range n).map enc) (E s) = match osum f 0 n with | some x => .nx (E (s + x)) | none => .rt r := by
  have go : ∀ m a s, a + m ≤ n → forL g body ((List.range' a m).map enc) (E s) = match osum f a m with | some x => .nx (E (s + x)) | none => .rt r := fun m => by
    induction m with
    | zero => intro a s _; show Fl.nx (E s) = .nx (E (s + 0)); rw [Int.add_zero]
    | succ m ih =>
      intro a s ha
      rw [List.range'_succ, List.map_cons, forL_cons, h a s (by omega), osum_head]
      cases e : f a with
      | none => rfl
      | some y =>
        have := ih (a + 1) (s + y) (by omega)
        simp only [this]
        cases e2 : osum f (a + 1) m with
        | none => rfl
        | some z => show Fl.nx (E (s + y + z)) = .nx (E (s + (y + z))); rw [Int.add_assoc]
  rw [List.range_eq_range']
  exact go n 0 s (by omega)
end DL
namespace Pg
open PySem L2 DL BK
theorem there_min (g : Good) (S : Nat → Bool) (v : Nat) : ∀ m, minI (((List.range m).filter S).filterMap fun b => g.price b v) = pm (fun b => g.price b v) S m
  | 0 => rfl
  | m + 1 => by
    show _ = if S m = true then omin (pm _ S m) (g.price m v) else pm _ S m
    rw [List.range_succ, List.filter_append, List.filterMap_append]
    by_cases h : S m = true
    · rw [if_pos h]
      cases e : g.price m v with
      | none => simp [h, e, omin_none, there_min g S v m]
      | some x =>
        have : ([m].filter S).filterMap (fun b => g.price b v) = [x] := by simp [h, e]
        rw [this, minI_snoc, there_min g S v m]
    · simp [h, there_min g S v m]
section
variable {ls : List Int} {g : Good}
theorem set_cost_eq (ok : (Pl ls g).ok) (S : Nat → Bool) {m : Nat} (hm : m ≤ ls.length) :
    dn__law_set_cost [.lst (ls.map .int), eG g, .lst (dkT ((List.range m).filter S)), .int m] = .ok (eO (sc (lit ls) g.zw g.cost S m m)) := by
  rw [eq__law_set_cost]; unfold b__law_set_cost
  have gk := pl_g ok
  have hn : ls.length ≤ 40 := ok.l2
  have gl : g.days.length = ls.length := gk.1
  have hx : ixT (eG g) (.int 0) = some (.lst (g.days.map eD)) := by simp [eG]
  have da : ∀ i, i < ls.length → (g.days.map eD)[i]? = some (eD (g.day i)) := fun i hi => by
    rw [days_range g, gl]; exact range_at _ hi
  have la : ∀ i, i < ls.length → (ls.map T.int)[i]? = some (.int (lit ls i)) := fun i hi => ints_at hi
  obtain ⟨ds, hds⟩ : ∃ ds, ds = (List.range m).filter S := ⟨_, rfl⟩
  have dlt : ∀ d ∈ ds, d < m := fun d hd => by rw [hds] at hd; exact List.mem_range.mp (List.mem_filter.mp hd).1
  have dlen : ds.length ≤ 40 := by
    have := List.length_filter_le S (List.range m)
    rw [← hds, List.length_range] at this; omega
  rw [← hds]
  generalize g.days.map eD = dys at *
  generalize hlt : ls.map T.int = lts at *
  have c1 : ∀ ev : Lo, ev = [some (.lst lts, false), some (eG g, false), some (.lst (dkT ds), false), some (.int m, false), none, none, none, none, none, none, none, none] →
      compL (gNm 9) dYes (d2 ixT (dVar 0) (dVar 9)) ev (dkT ds) = .ok (ds.map fun d => .int (lit ls d)) := fun ev he => by
    subst he
    apply compL_map
    intro d hd
    have hd := dlt d hd
    rw [cturn_ap]
    simp [la d (by omega), -getElem?_pos]
  have c1 := c1 _ rfl
  have s1 : nums (ds.map fun d => T.int (lit ls d)) = some (ds.map (lit ls)) := nums_map _ _
  have l1 : (ds.map fun d => T.int (lit ls d)).length ≤ 1000 := by simp; omega
  have ls1 : (ds.map (lit ls)).sum = lt (lit ls) S m := by rw [hds]; exact lt_sum _ _ _
  generalize (ds.map fun d => T.int (lit ls d)) = u1 at *
  generalize ds.map (lit ls) = u2 at *
  have L := forL_part (g := gNm 5) (body := b__law_set_cost_p1) (fun (k : Nat) => T.int (k : Int)) (fun s => [some (.lst lts, false), some (eG g, false), some (.lst (dkT ds), false), some (.int m, false), some (.int s, false), none, none, none, none, none, none, none]) (fun v => mn g.zw g.cost S m v) .non (n := m) (fun v s hv => by
    have dv := da v (by omega)
    have dk := day_ok gk (show v < ls.length by omega)
    have c2 : ∀ ev : Lo, ev = [some (.lst lts, false), some (eG g, false), some (.lst (dkT ds), false), some (.int m, false), some (.int s, false), some (.int v, false), some (.int (g.day v).want, false), none, none, none, none, none] →
        compL (gNm 10) dYes (dCall dn__law_price (dCons (dVar 1) (dCons (dVar 10) (dCons (dVar 5) dNil)))) ev (dkT ds) = .ok (ds.map fun b => eO (g.price b v)) := fun ev he => by
      subst he
      apply compL_map
      intro d hd
      have hd := dlt d hd
      rw [cturn_ap]
      simp [law_price_eq g d v (by omega) (by omega)]
    have c2 := c2 _ rfl
    have l2 : (ds.map fun b => eO (g.price b v)).length ≤ 1000 := by simp; omega
    have c3 : ∀ pr : T, ∀ ev : Lo, ev = [some (.lst lts, false), some (eG g, false), some (.lst (dkT ds), false), some (.int m, false), some (.int s, false), some (.int v, false), some (.int (g.day v).want, false), some (pr, false), none, none, none, none] →
        compL (gNm 11) (dTest (d1 notNonT (dVar 11))) (dVar 11) ev (ds.map fun b => eO (g.price b v)) = .ok ((ds.filterMap fun b => g.price b v).map .int) := fun pr ev he => by
      subst he
      rw [List.map_filterMap]
      apply compL_fm
      intro d hd
      rw [cturn_ap]
      cases g.price d v <;> simp
    have l3 : ((ds.filterMap fun b => g.price b v).map T.int).length ≤ 1000 := by
      rw [List.length_map]
      have := List.length_filterMap_le (fun b => g.price b v) ds
      omega
    have tm : minI (ds.filterMap fun b => g.price b v) = pm (fun b => g.price b v) S m := by rw [hds]; exact there_min g S v m
    have e3 : ∀ ts : List Int, eqT (.lst (ts.map .int)) (.lst []) = some (.bl (decide (ts = []))) := fun ts => eqT_ints ts []
    have mnil : (ds.filterMap fun b => g.price b v) = [] ↔ pm (fun b => g.price b v) S m = none := by
      rw [← tm]
      cases ds.filterMap fun b => g.price b v with
      | nil => simp [minI]
      | cons a b => simp [minI]
    have c3 := c3 (.lst (ds.map fun b => eO (g.price b v)))
    generalize (ds.map fun b => eO (g.price b v)) = pr at *
    have c3 := c3 _ rfl
    generalize (ds.filterMap fun b => g.price b v) = th at *
    have nt := nums_ints th
    have l3' : th.length ≤ 1000 := by rw [List.length_map] at l3; exact l3
    unfold b__law_set_cost_p1
    by_cases hw : (g.day v).want = 0
    · have e : mn g.zw g.cost S m v = some 0 := mn_free (cost_dom gk) (by unfold Good.zw; exact decide_eq_true hw) m
      rw [e]
      rw [hw] at c2 c3
      simp (disch := omega) [hx, dv, eD, hw, c2, c3, e3, nt, -getElem?_pos]
    · have h0 := dk.1
      have h1 := dk.2.1
      have hpos : 0 < (g.day v).want := by omega
      rw [mn_pm g S hpos m]
      cases e : pm (fun b => g.price b v) S m with
      | none =>
        have := mnil.mpr e
        subst this
        simp at c3
        simp (disch := omega) [hx, dv, eD, hpos, c2, c3, -getElem?_pos]
        have e4 : eqT (.lst []) (.lst []) = some (.bl true) := eqT_ints [] []
        simp [e4]
      | some x =>
        have hne : ¬ th = [] := fun z => by rw [mnil.mp z] at e; cases e
        obtain ⟨b, hb, hbx⟩ := pm_is _ S m e
        have bd := price_bd gk hn (by omega) hbx
        have mm : mulT (.int (g.day v).want) (.int x) = some (.int ((g.day v).want * x)) := mulT_ok (by omega)
        simp (disch := omega) [hx, dv, eD, hpos, c2, c3, e3, hne, nt, tm, e, mm, -getElem?_pos]) (lt (lit ls) S m)
  have hsc : sc (lit ls) g.zw g.cost S m m = oadd (some (lt (lit ls) S m)) (osum (mn g.zw g.cost S m) 0 m) := rfl
  have hL : osum (fun v => mn g.zw g.cost S m v) 0 m = osum (mn g.zw g.cost S m) 0 m := rfl
  rw [hL] at L
  rw [hsc]
  cases e : osum (mn g.zw g.cost S m) 0 m with
  | none => rw [e] at L; simp (disch := omega) [c1, s1, ls1, rngT_eq, L, oadd]
  | some x => rw [e] at L; simp (disch := omega) [c1, s1, ls1, rngT_eq, L, oadd]
end
end Pg

/-! stretches of a cheapest plan -/
namespace BK
/-- stretches that are baked for, one behind the other up to n -/
def Ch (z : Nat → Bool) (c : Nat → Nat → Option Int) (n : Nat) : Nat → List (Nat × Nat × Nat) → Prop
  | u, [] => u = n
  | u, q :: r => q.2.1 = u ∧ q.2.1 < q.2.2 ∧ Ch z c n q.2.2 r ∧ (∀ s ∈ r, q.1 < s.1) ∧ q.1 < n ∧ (∃ x, osum (c q.1) q.2.1 (q.2.2 - q.2.1) = some x) ∧ ∃ v, q.2.1 ≤ v ∧ v < q.2.2 ∧ z v = false
def lotC (L : Nat → Int) (c : Nat → Nat → Option Int) (q : Nat × Nat × Nat) : Int := L q.1 + (osum (c q.1) q.2.1 (q.2.2 - q.2.1)).getD 0
def wanted (z : Nat → Bool) (a m : Nat) : List Nat := (List.range' a m).filter fun v => !z v
def planL (z : Nat → Bool) (lots : List (Nat × Nat × Nat)) : List (Nat × Nat) := lots.flatMap fun q => (wanted z q.2.1 (q.2.2 - q.2.1)).map fun v => (q.1, v)
section
variable {L : Nat → Int} {z : Nat → Bool} {c : Nat → Nat → Option Int} {n : Nat}
theorem Ch.le : ∀ {lots : List (Nat × Nat × Nat)} {u : Nat}, Ch z c n u lots → u ≤ n
  | [], u, h => Nat.le_of_eq h
  | q :: r, u, h => by
    obtain ⟨h1, h2, h3, _⟩ := h
    have := Ch.le h3
    omega
theorem wanted_add (z : Nat → Bool) (a m k : Nat) : wanted z a (m + k) = wanted z a m ++ wanted z (a + m) k := by
  unfold wanted
  rw [← List.filter_append]
  congr 1
  have := List.range'_append (s := a) (m := m) (n := k) (step := 1)
  simpa using this.symm
theorem mem_wanted {a m v : Nat} : v ∈ wanted z a m ↔ a ≤ v ∧ v < a + m ∧ z v = false := by
  unfold wanted
  rw [List.mem_filter, List.mem_range'_1]
  cases z v <;> simp [and_assoc]
/-- whose wants are met: all, each once -/
theorem planL_snd : ∀ {lots : List (Nat × Nat × Nat)} {u : Nat}, Ch z c n u lots → (planL z lots).map Prod.snd = wanted z u (n - u)
  | [], u, h => by have h : u = n := h; subst h; rw [Nat.sub_self]; rfl
  | q :: r, u, h => by
    obtain ⟨h1, h2, h3, _⟩ := h
    have ih := planL_snd h3
    have hl := h3.le
    have e : planL z (q :: r) = (wanted z q.2.1 (q.2.2 - q.2.1)).map (fun v => (q.1, v)) ++ planL z r := by unfold planL; rw [List.flatMap_cons]
    rw [e, List.map_append, ih, List.map_map]
    have e2 : (wanted z q.2.1 (q.2.2 - q.2.1)).map (Prod.snd ∘ fun v => (q.1, v)) = wanted z q.2.1 (q.2.2 - q.2.1) := by
      have : (Prod.snd ∘ fun v => (q.1, v)) = (id : Nat → Nat) := rfl
      rw [this, List.map_id]
    rw [e2, ← h1]
    have e3 : n - q.2.1 = (q.2.2 - q.2.1) + (n - q.2.2) := by omega
    have e4 : q.2.1 + (q.2.2 - q.2.1) = q.2.2 := by omega
    rw [e3, wanted_add, e4]
theorem planL_mem : ∀ {lots : List (Nat × Nat × Nat)} {u : Nat}, Ch z c n u lots → ∀ p ∈ planL z lots, p.1 < n ∧ u ≤ p.2 ∧ p.2 < n ∧ z p.2 = false ∧ (∃ x, c p.1 p.2 = some x) ∧ ∃ q ∈ lots, q.1 = p.1
  | [], u, h, p, hp => by cases hp
  | q :: r, u, h, p, hp => by
    obtain ⟨h1, h2, h3, h4, h5, ⟨x, h6⟩, h7⟩ := h
    have hl := h3.le
    have e : planL z (q :: r) = (wanted z q.2.1 (q.2.2 - q.2.1)).map (fun v => (q.1, v)) ++ planL z r := by unfold planL; rw [List.flatMap_cons]
    rw [e] at hp
    rcases List.mem_append.mp hp with hp | hp
    · obtain ⟨v, hv, rfl⟩ := List.mem_map.mp hp
      obtain ⟨a1, a2, a3⟩ := mem_wanted.mp hv
      exact ⟨h5, by show u ≤ v; omega, by show v < n; omega, a3, osum_some_all h6 v a1 (by omega), q, by simp, rfl⟩
    · obtain ⟨b1, b2, b3, b4, b5, s, b6, b7⟩ := planL_mem h3 p hp
      exact ⟨b1, by omega, b3, b4, b5, s, by simp [b6], b7⟩
/-- rising by day of baking and by day -/
theorem planL_lex : ∀ {lots : List (Nat × Nat × Nat)} {u : Nat}, Ch z c n u lots → (planL z lots).Pairwise fun p q => p.1 < q.1 ∨ (p.1 = q.1 ∧ p.2 < q.2)
  | [], u, h => List.Pairwise.nil
  | q :: r, u, h => by
    obtain ⟨h1, h2, h3, h4, h5, ⟨x, h6⟩, h7⟩ := h
    have e : planL z (q :: r) = (wanted z q.2.1 (q.2.2 - q.2.1)).map (fun v => (q.1, v)) ++ planL z r := by unfold planL; rw [List.flatMap_cons]
    rw [e, List.pairwise_append]
    refine ⟨?_, planL_lex h3, fun p hp p' hp' => ?_⟩
    · rw [List.pairwise_map]
      refine List.Pairwise.imp (R := (· < ·)) (fun {a b} hab => .inr ⟨rfl, hab⟩) ?_
      exact List.Pairwise.filter _ List.pairwise_lt_range'
    · obtain ⟨v, hv, rfl⟩ := List.mem_map.mp hp
      obtain ⟨_, _, _, _, _, s, b6, b7⟩ := planL_mem h3 p' hp'
      exact .inl (by rw [← b7]; exact h4 s b6)
theorem osum_free {f : Nat → Option Int} {z : Nat → Bool} (hf : ∀ v, z v = true → f v = some 0) {a : Nat} : ∀ {m : Nat} {x : Int}, osum f a m = some x → ((wanted z a m).map fun v => (f v).getD 0).sum = x
  | 0, x, h => by have h : some (0 : Int) = some x := h; cases h; rfl
  | m + 1, x, h => by
    obtain ⟨y, t, e1, e2, e3⟩ := oadd_some (show oadd (osum f a m) (f (a + m)) = some x from h)
    have ih := osum_free hf e1
    rw [wanted_add, List.map_append, List.sum_append, ih]
    have e4 : wanted z (a + m) 1 = if z (a + m) = true then [] else [a + m] := by
      unfold wanted
      rw [List.range'_one, List.filter_cons]
      cases z (a + m) <;> simp
    rw [e4]
    by_cases hz : z (a + m) = true
    · rw [if_pos hz]
      rw [hf _ hz] at e2
      cases e2
      rw [e3]; rfl
    · rw [if_neg hz]
      simp [e2]; omega
/-- what the plan's loaves cost -/
theorem planL_cost (D : Dom z c) : ∀ {lots : List (Nat × Nat × Nat)} {u : Nat}, Ch z c n u lots → ((lots.map fun q => L q.1).sum + ((planL z lots).map fun p => (c p.1 p.2).getD 0).sum) = (lots.map (lotC L c)).sum
  | [], u, h => rfl
  | q :: r, u, h => by
    obtain ⟨h1, h2, h3, h4, h5, ⟨x, h6⟩, h7⟩ := h
    have ih := planL_cost D h3
    have e : planL z (q :: r) = (wanted z q.2.1 (q.2.2 - q.2.1)).map (fun v => (q.1, v)) ++ planL z r := by unfold planL; rw [List.flatMap_cons]
    have e2 := osum_free (fun v hv => D.free q.1 v hv) h6
    have e3 : lotC L c q = L q.1 + x := by unfold lotC; rw [h6]; rfl
    rw [e, List.map_append, List.sum_append, List.map_map, List.map_cons, List.map_cons, List.sum_cons, List.sum_cons, e3, ← ih]
    have e4 : ((wanted z q.2.1 (q.2.2 - q.2.1)).map ((fun p => (c p.1 p.2).getD 0) ∘ fun v => (q.1, v))).sum = x := e2
    rw [e4]; omega
theorem Rw_frees (D : Dom z c) (hL : ∀ i, 0 ≤ L i) {i a : Nat} : ∀ {m : Nat}, (∀ v, a ≤ v → v < a + m → z v = true) → Rw L z c i (a + m) = Rw L z c i a
  | 0, _ => rfl
  | m + 1, h => by
    have := Rw_free' (i := i) D hL (h (a + m) (by omega) (by omega))
    rw [← Nat.add_assoc, this]
    exact Rw_frees D hL fun v h1 h2 => h v h1 (by omega)
theorem osum_frees (D : Dom z c) {i a : Nat} : ∀ {m : Nat}, (∀ v, a ≤ v → v < a + m → z v = true) → osum (c i) a m = some 0
  | 0, _ => rfl
  | m + 1, h => by
    show oadd (osum (c i) a m) (c i (a + m)) = _
    rw [osum_frees D fun v h1 h2 => h v h1 (by omega), D.free i _ (h (a + m) (by omega) (by omega))]; rfl
/-- where a day is lit, it bakes for a stretch -/
theorem lit_from {d u : Nat} {y : Int} (hy : Rw L z c (d + 1) u = some y) (hne : Rw L z c (d + 1) u ≠ Rw L z c d u) :
    ∃ k m x t, u = k + m ∧ 0 < m ∧ Rw L z c d k = some x ∧ osum (c d) k m = some t ∧ x + t = y - L d := by
  have h : omin (Rw L z c d u) (oadd (Tb c (Rw L z c d) d u) (some (L d))) = some y := hy
  rcases omin_or (Rw L z c d u) (oadd (Tb c (Rw L z c d) d u) (some (L d))) with e | e
  · exact absurd (show Rw L z c (d + 1) u = Rw L z c d u from e) hne
  · rw [e] at h
    obtain ⟨t, l, e1, e2, e3⟩ := oadd_some h
    cases e2
    rcases T_is (c := c) (R := Rw L z c d) (i := d) (j := u) with q | ⟨k, m, ej, hm, q⟩
    · rw [q] at e1; cases e1
    · rw [q] at e1
      obtain ⟨r, x, e4, e5, e6⟩ := oadd_some e1
      exact ⟨k, m, r, x, ej, hm, e4, e5, by omega⟩
/-- and there is a want on it -/
theorem lit_wants (D : Dom z c) (hL : ∀ i, 0 ≤ L i) {d k m : Nat} {y x t : Int} (hy : Rw L z c (d + 1) (k + m) = some y) (hne : Rw L z c (d + 1) (k + m) ≠ Rw L z c d (k + m)) (hx : Rw L z c d k = some x) (ht : osum (c d) k m = some t) (e : x + t = y - L d) :
    ∃ v, k ≤ v ∧ v < k + m ∧ z v = false := by
  refine Classical.byContradiction fun no => hne ?_
  have all : ∀ v, k ≤ v → v < k + m → z v = true := fun v h1 h2 => by
    cases q : z v with
    | true => rfl
    | false => exact absurd ⟨v, h1, h2, q⟩ no
  have e1 := Rw_frees (i := d) D hL all
  rw [osum_frees D all] at ht
  cases ht
  have h : Le (Rw L z c (d + 1) (k + m)) (Rw L z c d (k + m)) := omin_le1 _ _
  rw [hy, e1, hx] at h
  have := h.of_some
  have := hL d
  rw [hy, e1, hx]
  congr 1; omega
/-- ahead of all that is baked nothing is wanted -/
theorem R0_zero : ∀ {j : Nat} {x : Int}, R0 z j = some x → x = 0 ∧ ∀ v, v < j → z v = true
  | 0, x, h => by have h : some (0 : Int) = some x := h; cases h; exact ⟨rfl, fun v h => by omega⟩
  | j + 1, x, h => by
    have h : (if z j = true then R0 z j else none) = some x := h
    by_cases e : z j = true
    · rw [if_pos e] at h
      obtain ⟨a, b⟩ := R0_zero h
      refine ⟨a, fun v hv => ?_⟩
      by_cases q : v = j
      · rw [q]; exact e
      · exact b v (by omega)
    · rw [if_neg e] at h; cases h
end
end BK

set_option maxHeartbeats 2000000
/-! a cheapest plan -/
namespace DL
open PySem L2
@[simp] theorem rngD_ok {a b : Int} (h : -1000000000 ≤ a ∧ a ≤ 1000000000 ∧ -1000000000 ≤ b ∧ b ≤ 1000000000) : rngD [.int a, .int b, .int (-1)] = some (rngB a (a - b).toNat) := by
  show (if -(2 ^ 62) ≤ a ∧ a < 2 ^ 62 ∧ -(2 ^ 62) ≤ b ∧ b < 2 ^ 62 ∧ (-1 : Int) = -1 then some (rngB a (a - b).toNat) else none) = _
  rw [if_pos (by omega)]
theorem rngB_eq (a : Int) (n : Nat) : rngB a n = (List.range n).map fun (i : Nat) => T.int (a - (i : Int)) := rfl
section
variable {g : T → Lo → Option Lo} {body : Lo → Fl} {α σ : Type}
/-- a loop whose state is told by what holds of it -/
theorem forL_inv (enc : Nat → T) (E : σ → Lo) (I : Nat → σ → Prop) {n : Nat} {s0 : σ} (h0 : I 0 s0) (h : ∀ k s, k < n → I k s → ∃ s', turn g body (enc k) (E s) = .nx (E s') ∧ I (k + 1) s') :
    ∃ s', forL g body ((List.range n).map enc) (E s0) = .nx (E s') ∧ I n s' := by
  have go : ∀ m k s, k + m = n → I k s → ∃ s', forL g body (((List.range n).drop k).map enc) (E s) = .nx (E s') ∧ I n s' := fun m => by
    induction m with
    | zero => intro k s e hs; have : k = n := by omega
              subst this; rw [List.drop_of_length_le (by simp)]; exact ⟨s, rfl, hs⟩
    | succ m ih =>
      intro k s e hs
      rw [List.drop_eq_getElem_cons (by simp; omega), List.map_cons, forL_cons]
      have eg : (List.range n)[k]'(by simp; omega) = k := by simp
      rw [eg]
      obtain ⟨s', h1, h2⟩ := h k s (by omega) hs
      rw [h1]; exact ih (k + 1) s' (by omega) h2
  have := go n 0 s0 (by omega) h0
  rwa [List.drop_zero] at this
/-- a list that grows where something holds -/
theorem forL_flt (enc : α → T) (E : List T → Lo) (p : α → Bool) (f : α → T) {xs : List α} (us0 : List T) (h : ∀ x us, x ∈ xs → us.length < us0.length + xs.length → turn g body (enc x) (E us) = .nx (E (if p x = true then us ++ [f x] else us))) :
    forL g body (xs.map enc) (E us0) = .nx (E (us0 ++ (xs.filter p).map f)) := by
  induction xs generalizing us0 with
  | nil => simp [forL_nil]
  | cons x xs ih =>
    rw [List.map_cons, forL_cons, h x us0 (by simp) (by simp)]
    dsimp only
    by_cases hp : p x = true
    · rw [if_pos hp, List.filter_cons, if_pos hp]
      have := ih (us0 ++ [f x]) fun y us hy hl => h y us (by simp [hy]) (by simp at hl ⊢; omega)
      rw [this, List.append_assoc]; rfl
    · rw [if_neg hp, List.filter_cons, if_neg hp]
      exact ih us0 fun y us hy hl => h y us (by simp [hy]) (by simp at hl ⊢; omega)
theorem fold_app {β : Type} (f : α → List β) (xs : List α) (d : α) : ∀ k, k ≤ xs.length → (List.range k).foldl (fun us k => us ++ f (xs.getD k d)) [] = (xs.take k).flatMap f
  | 0, _ => by simp
  | k + 1, h => by
    rw [List.range_succ, List.foldl_append, fold_app f xs d k (by omega), List.take_succ, List.getElem?_eq_getElem (show k < xs.length by omega)]
    have e : xs.getD k d = xs[k] := by rw [List.getD_eq_getElem?_getD, List.getElem?_eq_getElem (show k < xs.length by omega)]; rfl
    rw [List.flatMap_append, List.foldl_cons, List.foldl_nil, e]
    simp
end
/-! what is sorted stays -/
def encL (ks : List Int) : T := .tup (ks.map .int)
theorem tups_map : ∀ kss : List (List Int), tups (kss.map encL) = some kss
  | [] => rfl
  | ks :: kss => by
    show (match nums (ks.map .int), tups (kss.map encL) with
      | some ks, some kss => some (ks :: kss)
      | _, _ => none) = _
    rw [nums_ints, tups_map kss]
theorem sortL_same {kss : List (List Int)} (h : kss.Pairwise fun a b => lexLe a b = true) : sortL kss = kss := by
  induction kss with
  | nil => rfl
  | cons ks kss ih =>
    obtain ⟨h1, h2⟩ := List.pairwise_cons.mp h
    show insL ks (sortL kss) = _
    rw [ih h2]
    cases kss with
    | nil => rfl
    | cons y ys => show (if lexLe ks y = true then _ else _) = _; rw [if_pos (h1 y (by simp))]
theorem sorted_tups {kss : List (List Int)} (h : kss.Pairwise fun a b => lexLe a b = true) (hl : kss.length < 64) (ho : okTups kss = true) : sorted1L [.lst (kss.map encL)] = some (.lst (kss.map encL)) := by
  have : (tups (kss.map encL)).bind (fun kss => if kss.length < 64 ∧ okTups kss = true then some (T.lst ((sortL kss).map fun ks => .tup (ks.map .int))) else none) = some (.lst (kss.map encL)) := by
    rw [tups_map, Option.bind_some, if_pos ⟨hl, ho⟩, sortL_same h]; rfl
  cases kss with
  | nil => rfl
  | cons ks kss =>
    show (match nums (encL ks :: kss.map encL) with
      | some ns => some (T.lst ((sortI ns).map .int))
      | none => _) = _
    exact this
theorem okTups_of {d : Nat} (hd : 1 ≤ d) {kss : List (List Int)} (h : ∀ ks ∈ kss, ks.length = d ∧ ∀ i ∈ ks, 0 ≤ i ∧ i < 1000000000000000000000000000000) : okTups kss = true := by
  cases kss with
  | nil => rfl
  | cons k kr =>
    unfold okTups
    have h0 := h k (by simp)
    simp only [Bool.and_eq_true, decide_eq_true_eq, List.all_eq_true, beq_iff_eq]
    exact ⟨by omega, fun ks hk => ⟨by rw [(h ks hk).1, h0.1], fun i hi => (h ks hk).2 i hi⟩⟩
theorem insI_same {x : Int} {xs : List Int} (h : ∀ y ∈ xs, x ≤ y) : insI x xs = x :: xs := by
  cases xs with
  | nil => rfl
  | cons y ys => show (if x ≤ y then _ else _) = _; rw [if_pos (h y (by simp))]
theorem sortI_same {xs : List Int} (h : xs.Pairwise (· ≤ ·)) : sortI xs = xs := by
  induction xs with
  | nil => rfl
  | cons x xs ih =>
    obtain ⟨h1, h2⟩ := List.pairwise_cons.mp h
    show insI x (sortI xs) = _
    rw [ih h2, insI_same h1]
theorem dedI_rep {x : Int} {xs : List Int} (h : x ∉ xs) : ∀ {k : Nat}, 0 < k → dedI (List.replicate k x ++ xs) = x :: dedI xs
  | 0, h0 => absurd h0 (by omega)
  | 1, _ => by
    show (if x ∈ xs then dedI xs else x :: dedI xs) = _
    rw [if_neg h]
  | k + 2, _ => by
    show (if x ∈ (List.replicate (k + 1) x ++ xs) then dedI (List.replicate (k + 1) x ++ xs) else _) = _
    rw [if_pos (by simp [List.replicate_succ])]
    exact dedI_rep h (by omega)
theorem ssetL_ints {ns ds : List Int} (e : dedI ns = ds) (hs : ds.Pairwise (· ≤ ·)) (hl : ds.length < 64) (h4 : ns.length ≤ 4000) : ssetL [.lst (ns.map .int)] = some (.lst (ds.map .int)) := by
  show (nums (ns.map T.int)).bind (fun ns => if ns.length ≤ 4000 ∧ (dedI ns).length < 64 then some (T.lst ((sortI (dedI ns)).map .int)) else none) = _
  rw [nums_ints, Option.bind_some, e, if_pos ⟨h4, hl⟩, sortI_same hs]
end DL
namespace Pg
open PySem L2 DL BK
theorem begin_of_ex {n : Nat} (hn : n ≤ 40) {C : Int} {c R : Nat → Option Int} {u k m : Nat} {x t : Int} (hu : u ≤ n) (e : u = k + m) (hm : 0 < m) (hx : R k = some x) (ht : osum c k m = some t) (hC : x + t = C) :
    ∃ b m' x' t', u = b + m' ∧ 0 < m' ∧ R b = some x' ∧ osum c b m' = some t' ∧ x' + t' = C ∧
      dn_begin_of [.int C, .lst ((List.range n).map fun v => eO (c v)), .lst ((List.range (n + 1)).map fun j => eO (R j)), .int u] = .ok (.int b) := by
  obtain ⟨tot, htot⟩ : ∃ tot : Nat → Int, tot = fun j => (osum c (u - j) j).getD 0 := ⟨_, rfl⟩
  obtain ⟨Pb, hPb⟩ : ∃ Pb : Nat → Bool, Pb = fun i => match R (u - 1 - i) with | some x => decide (x + tot (i + 1) = C) | none => false := ⟨_, rfl⟩
  have all : ∀ i, k ≤ i → i < k + m → ∃ y, c i = some y := osum_some_all ht
  have som : ∀ j, j ≤ m → osum c (u - j) j = some (tot j) := fun j hj => by
    obtain ⟨y, hy⟩ := osum_of_all (f := c) (a := u - j) (n := j) fun i h1 h2 => by
      obtain ⟨y, hy⟩ := all i (by omega) (by omega)
      rw [hy]; exact fun z => nomatch z
    rw [htot]; dsimp only; rw [hy]; rfl
  have nxt : ∀ i, i < m → ∃ y, c (u - 1 - i) = some y ∧ tot (i + 1) = tot i + y := fun i hi => by
    obtain ⟨y, hy⟩ := all (u - 1 - i) (by omega) (by omega)
    refine ⟨y, hy, ?_⟩
    have h1 := som (i + 1) (by omega)
    have h0 := som i (by omega)
    have ea : u - (i + 1) = u - 1 - i := by omega
    have eb : u - 1 - i + 1 = u - i := by omega
    rw [ea, osum_head, hy, eb, h0] at h1
    have h1 : some (y + tot i) = some (tot (i + 1)) := h1
    have h1 := Option.some.inj h1
    omega
  have hP : ¬ ∀ i, i < m → Pb i = false := fun h => by
    have := h (m - 1) (by omega)
    have e1 : u - 1 - (m - 1) = k := by omega
    have e2 : m - 1 + 1 = m := by omega
    have e3 : u - m = k := by omega
    have tm := som m (Nat.le_refl _)
    rw [e3, ht] at tm
    cases tm
    rw [hPb] at this
    dsimp only at this
    rw [e1, hx, e2] at this
    have := of_decide_eq_false this
    exact this hC
  obtain ⟨i0, h1, h2, h3⟩ := least_ex hP
  have h2 : Pb i0 = true := by cases q : Pb i0 <;> simp_all
  have hR0 : ∃ x', R (u - 1 - i0) = some x' ∧ x' + tot (i0 + 1) = C := by
    rw [hPb] at h2
    dsimp only at h2
    cases q : R (u - 1 - i0) with
    | none => rw [q] at h2; cases h2
    | some x' => rw [q] at h2; exact ⟨x', rfl, of_decide_eq_true h2⟩
  obtain ⟨x', hx1, hx2⟩ := hR0
  have ts := som (i0 + 1) (by omega)
  have eu : u - (i0 + 1) = u - 1 - i0 := by omega
  rw [eu] at ts
  refine ⟨u - 1 - i0, i0 + 1, x', tot (i0 + 1), by omega, by omega, hx1, ts, hx2, ?_⟩
  rw [eq_begin_of]; unfold b_begin_of
  have ca : ∀ i, i < n → ((List.range n).map fun v => eO (c v))[i]? = some (eO (c i)) := fun i hi => range_at _ hi
  have ra : ∀ i, i < n + 1 → ((List.range (n + 1)).map fun v => eO (R v))[i]? = some (eO (R i)) := fun i hi => range_at _ hi
  generalize ((List.range n).map fun v => eO (c v)) = cs at *
  generalize ((List.range (n + 1)).map fun v => eO (R v)) = rs at *
  have aa : ∀ x y : Int, augAdd (.int x) (.int y) = some (.int (x + y)) := fun _ _ => rfl
  have L := forL_seqR (g := gNm 5) (body := b_begin_of_p1) (fun i => T.int ((u : Int) - 1 - (i : Int))) (fun i => [some (.int C, false), some (.lst cs, false), some (.lst rs, false), some (.int u, false), some (.int (tot i), false), none]) (n := u) (m := i0) (t := .int ((u - 1 - i0 : Nat) : Int)) (by omega) (fun i hi => by
    obtain ⟨y, hy, hty⟩ := nxt i (by omega)
    have ed : (u : Int) - 1 - (i : Int) = ((u - 1 - i : Nat) : Int) := by omega
    have c1 := ca (u - 1 - i) (by omega)
    have r1 := ra (u - 1 - i) (by omega)
    have np := h3 i hi
    rw [hPb] at np
    dsimp only at np
    rw [hy] at c1
    unfold b_begin_of_p1
    rw [ed]
    generalize u - 1 - i = d at *
    cases q : R d with
    | none => rw [q] at r1; simp [c1, r1, hty, -getElem?_pos]
    | some x =>
      rw [q] at r1 np
      have np := of_decide_eq_false np
      rw [hty] at np
      simp [c1, r1, hty, np, -getElem?_pos]) (by
    obtain ⟨y, hy, hty⟩ := nxt i0 (by omega)
    have ed : (u : Int) - 1 - (i0 : Int) = ((u - 1 - i0 : Nat) : Int) := by omega
    have c1 := ca (u - 1 - i0) (by omega)
    have r1 := ra (u - 1 - i0) (by omega)
    rw [hy] at c1
    rw [hx1] at r1
    rw [hty] at hx2
    unfold b_begin_of_p1
    rw [ed]
    generalize u - 1 - i0 = d at *
    simp [c1, r1, hty, hx2, -getElem?_pos])
  have t0 : tot 0 = 0 := by rw [htot]; rfl
  rw [t0] at L
  have en : ((u : Int) - 1 - -1).toNat = u := by omega
  simp (disch := omega) [en, rngB_eq]
  rw [L]; simp
def eQ (q : Nat × Nat × Nat) : T := .tup [.int q.1, .int q.2.1, .int q.2.2]
@[simp] theorem isMut_eQ {q : Nat × Nat × Nat} : isMut (eQ q) = false := Eq.trans rfl rfl
section
variable {ls : List Int} {g : Good}
theorem rowT_at (ls : List Int) (g : Good) (i : Nat) {u : Nat} (h : u ≤ ls.length) : ixT (rowT ls g i) (.int u) = some (eO (RR ls g i u)) := by
  unfold rowT
  rw [ixT_lst, atI_cast]
  exact range_at (fun j => eO (RR ls g i j)) (by omega)
theorem lot_rows_ex (ok : (Pl ls g).ok) : ∃ (u : Nat) (lots : List (Nat × Nat × Nat)), dn_lot_rows [eB (Pl ls g)] = .ok (.lst (lots.map eQ)) ∧ Ch g.zw g.cost ls.length u lots ∧ (∀ v, v < u → g.zw v = true) ∧ (lots.map (lotC (lit ls) g.cost)).sum = rowV ls g ls.length ∧ lots.length ≤ ls.length := by
  have gk := pl_g ok
  have hn : ls.length ≤ 40 := ok.l2
  have kr := known_rows_eq ok
  have hx0 : ixT (eB (Pl ls g)) (.int 0) = some (.lst (ls.map .int)) := by simp [eB]
  have hx2 : ixT (eB (Pl ls g)) (.int 2) = some (.lst [eG g]) := by simp [eB]
  have la : ∀ i, i < ls.length → (ls.map T.int)[i]? = some (.int (lit ls i)) := fun i hi => ints_at hi
  have ra : ∀ i, i < ls.length + 1 → ((List.range (ls.length + 1)).map (rowT ls g))[i]? = some (rowT ls g i) := fun i hi => range_at _ hi
  have lln : (ls.map T.int).length = ls.length := by simp
  generalize ((List.range (ls.length + 1)).map (rowT ls g)) = rows at *
  generalize ls.map T.int = lts at *
  have hrv := row_some ok (i := ls.length)
  obtain ⟨⟨u, found⟩, hL, hu, y, hy, hch, hge, hsum, hlen⟩ := forL_inv (g := gNm 4) (body := b_lot_rows_p1) (fun k => T.int ((ls.length : Int) - 1 - (k : Int)))
    (fun st : Nat × List (Nat × Nat × Nat) => [some (eB (Pl ls g), false), some (.lst rows, false), some (.int st.1, false), some (.lst (st.2.map eQ), true), none, none, none])
    (fun k st => st.1 ≤ ls.length ∧ ∃ y, RR ls g (ls.length - k) st.1 = some y ∧ Ch g.zw g.cost ls.length st.1 st.2.reverse ∧ (∀ q ∈ st.2, ls.length - k ≤ q.1) ∧ y + (st.2.reverse.map (lotC (lit ls) g.cost)).sum = rowV ls g ls.length ∧ st.2.length ≤ k)
    (n := ls.length) (s0 := (ls.length, [])) ⟨Nat.le_refl _, _, hrv, rfl, (fun q h => by cases h), by simp, Nat.zero_le _⟩ (fun k st hk hst => by
      obtain ⟨u, found⟩ := st
      obtain ⟨hu, y, hy, hch, hge, hsum, hlen⟩ := hst
      dsimp only at hu hy hch hge hsum hlen
      obtain ⟨d, hd⟩ : ∃ d, d = ls.length - 1 - k := ⟨_, rfl⟩
      have ed : (ls.length : Int) - 1 - (k : Int) = (d : Int) := by omega
      have ed1 : ls.length - k = d + 1 := by omega
      have ed2 : ls.length - (k + 1) = d := by omega
      rw [ed1] at hy hge
      rw [ed2]
      have r0 := ra d (by omega)
      have r1 := ra (d + 1) (by omega)
      have r1' : atI rows ((d : Int) + 1) = some (rowT ls g (d + 1)) := by
        have := atI_cast rows (d + 1)
        rw [r1] at this; exact this
      have l0 := la d (by omega)
      have v0 := rowT_at ls g d hu
      have v1 := rowT_at ls g (d + 1) hu
      by_cases he : RR ls g (d + 1) u = RR ls g d u
      · refine ⟨(u, found), ?_, hu, y, by dsimp only; rw [← he]; exact hy, hch, (fun q hq => by have := hge q hq; omega), hsum, by dsimp only; omega⟩
        unfold b_lot_rows_p1
        rw [ed]
        simp [r0, r1', v0, v1, he, -getElem?_pos]
      · obtain ⟨k', m', x', t', q1, q2, q3, q4, q5⟩ := lit_from (L := lit ls) (z := g.zw) (c := g.cost) hy he
        obtain ⟨b, m2, x2, t2, p1, p2, p3, p4, p5, p6⟩ := begin_of_ex (n := ls.length) hn (c := g.cost d) (R := RR ls g d) hu q1 q2 q3 q4 q5
        have w := wants_from_eq g gk hn (show d < ls.length by omega)
        have lw := lit_wants (L := lit ls) (cost_dom gk) (lit_nonneg ok) (d := d) (k := b) (m := m2) (by rw [← p1]; exact hy) (by rw [← p1]; exact he) p3 p4 p5
        have wT : rowT ls g d = .lst ((List.range (ls.length + 1)).map fun j => eO (RR ls g d j)) := rfl
        rw [← wT] at p6
        have em : u - b = m2 := by omega
        refine ⟨(b, found ++ [(d, b, u)]), ?_, by dsimp only; omega, x2, p3, ?_, ?_, ?_, by dsimp only; rw [List.length_append]; show found.length + 1 ≤ k + 1; omega⟩
        · unfold b_lot_rows_p1
          rw [ed]
          rw [hy] at v1 he
          have lf : found.length ≤ 100 := by omega
          simp (disch := omega) [r0, r1', v0, v1, hx2, hx0, l0, he, w, p6, eQ, -getElem?_pos]
        · dsimp only
          rw [List.reverse_append]
          refine ⟨rfl, by show b < u; omega, hch, fun s hs => ?_, by show d < ls.length; omega, ⟨t2, ?_⟩, ?_⟩
          · have := hge s (by simpa using hs)
            show d < s.1; omega
          · show osum (g.cost d) b (u - b) = _
            rw [em]; exact p4
          · obtain ⟨v, a1, a2, a3⟩ := lw
            exact ⟨v, a1, by show v < u; omega, a3⟩
        · dsimp only
          intro q hq
          rcases List.mem_append.mp hq with h | h
          · have := hge q h; omega
          · rw [List.mem_singleton.mp h]; exact Nat.le_refl _
        · dsimp only
          rw [List.reverse_append]
          show x2 + (lotC (lit ls) g.cost (d, b, u) + (found.reverse.map (lotC (lit ls) g.cost)).sum) = _
          have : lotC (lit ls) g.cost (d, b, u) = lit ls d + t2 := by
            unfold lotC
            show lit ls d + (osum (g.cost d) b (u - b)).getD 0 = _
            rw [em, p4]; rfl
          rw [this]; omega)
  rw [Nat.sub_self] at hy
  obtain ⟨z1, z2⟩ := R0_zero (z := g.zw) (show R0 g.zw u = some y from hy)
  refine ⟨u, found.reverse, ?_, hch, z2, by dsimp only at hsum; omega, by rw [List.length_reverse]; exact hlen⟩
  rw [eq_lot_rows]; unfold b_lot_rows
  have en : ((ls.length : Int) - 1 - -1).toNat = ls.length := by omega
  simp only [List.map_nil] at hL
  simp (disch := omega) [kr, hx0, lln, en, rngB_eq]
  rw [hL]
  simp
def eL (g : Good) (p : Nat × Nat) : T := .tup [.int p.1, .int 0, .int p.2, .int (g.day p.2).want]
@[simp] theorem isMut_eL {p : Nat × Nat} : isMut (eL g p) = false := Eq.trans rfl rfl
theorem eL_encL (p : Nat × Nat) : eL g p = encL [(p.1 : Int), 0, (p.2 : Int), (g.day p.2).want] := rfl
theorem plan_sorted {lots : List (Nat × Nat × Nat)} {n u : Nat} (h : Ch g.zw g.cost n u lots) (gk : g.ok n) (hn : n ≤ 40) : sorted1L [.lst ((planL g.zw lots).map (eL g))] = some (.lst ((planL g.zw lots).map (eL g))) := by
  have e : (planL g.zw lots).map (eL g) = ((planL g.zw lots).map fun p => [(p.1 : Int), 0, (p.2 : Int), (g.day p.2).want]).map encL := by rw [List.map_map]; rfl
  rw [e]
  have ln : (planL g.zw lots).length ≤ n := by
    have := planL_snd h
    have e : (planL g.zw lots).length = ((planL g.zw lots).map Prod.snd).length := by rw [List.length_map]
    rw [e, this]
    unfold wanted
    have := List.length_filter_le (fun v => !g.zw v) (List.range' u (n - u))
    simp at this; omega
  refine sorted_tups ?_ (by rw [List.length_map]; omega) (okTups_of (d := 4) (by omega) fun ks hk => ?_)
  rotate_left
  · obtain ⟨p, hp, rfl⟩ := List.mem_map.mp hk
    obtain ⟨q1, q2, q3, _⟩ := planL_mem h p hp
    have dk := day_ok gk q3
    have := dk.1
    have := dk.2.1
    refine ⟨rfl, fun i hi => ?_⟩
    simp at hi
    rcases hi with e | e | e | e <;> subst e <;> omega
  rw [List.pairwise_map]
  refine List.Pairwise.imp ?_ (planL_lex h)
  intro a b hab
  unfold lexLe
  by_cases h1 : (a.1 : Int) = b.1
  · rw [if_pos h1]
    have h2 : a.2 < b.2 := by rcases hab with h | h <;> omega
    unfold lexLe
    rw [if_pos rfl]
    unfold lexLe
    rw [if_neg (by omega)]
    exact decide_eq_true (by omega)
  · rw [if_neg h1]
    exact decide_eq_true (by rcases hab with h | h <;> omega)
theorem wanted_range (z : Nat → Bool) (b m : Nat) : wanted z b m = ((List.range m).filter fun i => !z (b + i)).map (b + ·) := by
  unfold wanted
  rw [List.range'_eq_map_range, List.filter_map]; rfl
theorem wanted_len (z : Nat → Bool) (b m : Nat) : (wanted z b m).length ≤ m := by
  unfold wanted
  have := List.length_filter_le (fun v => !z v) (List.range' b m)
  simpa using this
def lotT (g : Good) (q : Nat × Nat × Nat) : List T := (wanted g.zw q.2.1 (q.2.2 - q.2.1)).map fun v => eL g (q.1, v)
/-- a cheapest plan that is told -/
theorem cheapest_ex (ok : (Pl ls g).ok) : ∃ (u : Nat) (lots : List (Nat × Nat × Nat)), dn_cheapest [eB (Pl ls g)] = .ok (.lst ((planL g.zw lots).map (eL g))) ∧ Ch g.zw g.cost ls.length u lots ∧ (∀ v, v < u → g.zw v = true) ∧ (lots.map (lotC (lit ls) g.cost)).sum = rowV ls g ls.length ∧ lots.length ≤ ls.length := by
  obtain ⟨u, lots, h1, h2, h3, h4, h5⟩ := lot_rows_ex ok
  refine ⟨u, lots, ?_, h2, h3, h4, h5⟩
  have gk := pl_g ok
  have hn : ls.length ≤ 40 := ok.l2
  have lp := look_at_plain_ok ok
  have hx2 : ixT (eB (Pl ls g)) (.int 2) = some (.lst [eG g]) := by simp [eB]
  have gx : ixT (eG g) (.int 0) = some (.lst (g.days.map eD)) := by simp [eG]
  have gl : g.days.length = ls.length := gk.1
  have da : ∀ i, i < ls.length → (g.days.map eD)[i]? = some (eD (g.day i)) := fun i hi => by
    rw [days_range g, gl]; exact range_at _ hi
  have srt := plan_sorted h2 (pl_g ok) ok.l2
  have bnd : ∀ q ∈ lots, q.2.1 ≤ q.2.2 ∧ q.2.2 ≤ ls.length := by
    have go : ∀ (l : List (Nat × Nat × Nat)) u, Ch g.zw g.cost ls.length u l → ∀ q ∈ l, q.2.1 ≤ q.2.2 ∧ q.2.2 ≤ ls.length := fun l => by
      induction l with
      | nil => intro u _ q hq; cases hq
      | cons a l ih =>
        intro u hc q hq
        obtain ⟨c1, c2, c3, _⟩ := hc
        rcases List.mem_cons.mp hq with e | e
        · rw [e]; exact ⟨by omega, c3.le⟩
        · exact ih _ c3 q e
    exact go lots u h2
  generalize g.days.map eD = dys at *
  have L := forL_foldN (g := gTp 3 (DL.gCons (gNm 2) (DL.gCons (gNm 3) (DL.gCons (gNm 4) DL.gNil)))) (body := b_cheapest_p2) (fun k => eQ (lots.getD k (0, 0, 0))) (fun us : List T => [some (eB (Pl ls g), false), some (.lst us, true), none, none, none, none, none])
    (fun us k => us ++ lotT g (lots.getD k (0, 0, 0))) (fun k us => us.length ≤ 40 * k) (n := lots.length) (s0 := []) (by simp) fun k us hus hk => by
    have hq : lots.getD k (0, 0, 0) ∈ lots := by
      rw [List.getD_eq_getElem?_getD, List.getElem?_eq_getElem hk]; exact List.getElem_mem hk
    generalize lots.getD k (0, 0, 0) = q at *
    obtain ⟨d, b, e⟩ := q
    obtain ⟨b1, b2⟩ := bnd _ hq
    dsimp only at b1 b2
    refine ⟨?_, ?_⟩
    · unfold lotT
      dsimp only
      rw [List.length_append, List.length_map]
      have := wanted_len g.zw b (e - b)
      omega
    · have I := forL_flt (g := gNm 5) (body := b_cheapest_p1) (fun i : Nat => T.int ((b : Int) + (i : Int))) (fun us : List T => [some (eB (Pl ls g), false), some (.lst us, true), some (.int d, false), some (.int b, false), some (.int e, false), none, none])
        (fun i => !g.zw (b + i)) (fun i => eL g (d, b + i)) (xs := List.range (e - b)) us fun i us' hi hl => by
        have hi := List.mem_range.mp hi
        rw [List.length_range] at hl
        have dv := da (b + i) (by omega)
        have dk := day_ok gk (show b + i < ls.length by omega)
        have dv : atI dys ((b : Int) + (i : Int)) = some (eD (g.day (b + i))) := by
          have := atI_cast dys (b + i)
          rw [dv] at this; exact this
        have lt : us'.length ≤ 10000 := by omega
        have h0 := dk.1
        unfold b_cheapest_p1
        by_cases hw : (g.day (b + i)).want = 0
        · have hz : g.zw (b + i) = true := by unfold Good.zw; exact decide_eq_true hw
          rw [hz]
          simp (disch := omega) [hx2, gx, dv, eD, hw, -getElem?_pos]
        · have hz : g.zw (b + i) = false := by unfold Good.zw; exact decide_eq_false hw
          have hw1 : 0 < (g.day (b + i)).want := by omega
          rw [hz]
          simp (disch := omega) [hx2, gx, dv, eD, hw1, eL, -getElem?_pos]
      have e3 : us ++ ((List.range (e - b)).filter fun i => !g.zw (b + i)).map (fun i => eL g (d, b + i)) = us ++ lotT g (d, b, e) := by
        unfold lotT
        rw [wanted_range, List.map_map]; rfl
      rw [e3] at I
      have ee : ((e : Int) - b).toNat = e - b := by omega
      unfold b_cheapest_p2
      simp (disch := omega) [eQ, ee, rngF_eq]
      rw [I]
      simp
  have L := L.1
  rw [fold_app (lotT g) lots (0, 0, 0) lots.length (Nat.le_refl _), List.take_length] at L
  have e4 : lots.flatMap (lotT g) = (planL g.zw lots).map (eL g) := by
    unfold planL
    rw [List.map_flatMap]
    congr 1
    funext q
    unfold lotT
    rw [List.map_map]; rfl
  rw [e4] at L
  have e5 : (List.range lots.length).map (fun k => eQ (lots.getD k (0, 0, 0))) = lots.map eQ := (map_range eQ lots (0, 0, 0)).symm
  rw [e5] at L
  rw [eq_cheapest]; unfold b_cheapest
  simp (disch := omega) [lp, h1]
  rw [L]
  simp [srt]
end
end Pg

set_option maxHeartbeats 2000000
/-! plans that are told; goods whose nights are free -/
namespace BK
theorem planL_cons (z : Nat → Bool) (q : Nat × Nat × Nat) (r : List (Nat × Nat × Nat)) : planL z (q :: r) = (wanted z q.2.1 (q.2.2 - q.2.1)).map (fun v => (q.1, v)) ++ planL z r := by unfold planL; rw [List.flatMap_cons]
theorem planL_days {z : Nat → Bool} {c : Nat → Nat → Option Int} {n : Nat} : ∀ {lots : List (Nat × Nat × Nat)} {u : Nat}, Ch z c n u lots → DL.dedI ((planL z lots).map fun p => (p.1 : Int)) = lots.map fun q => (q.1 : Int)
  | [], u, h => rfl
  | q :: r, u, h => by
    obtain ⟨h1, h2, h3, h4, h5, h6, v, v1, v2, v3⟩ := h
    have ih := planL_days h3
    have e : ((wanted z q.2.1 (q.2.2 - q.2.1)).map (fun v => (q.1, v))).map (fun p => (p.1 : Int)) = List.replicate (wanted z q.2.1 (q.2.2 - q.2.1)).length (q.1 : Int) := by
      rw [List.map_map]
      have e0 : ((fun p : Nat × Nat => (p.1 : Int)) ∘ fun v => (q.1, v)) = fun _ => (q.1 : Int) := rfl
      rw [e0, List.map_const']
    rw [planL_cons, List.map_append, e, DL.dedI_rep, ih, List.map_cons]
    · intro hm
      obtain ⟨p, hp, he⟩ := List.mem_map.mp hm
      obtain ⟨_, _, _, _, _, s, s1, s2⟩ := planL_mem h3 p hp
      have := h4 s s1
      omega
    · exact List.length_pos_of_mem (mem_wanted.mpr ⟨v1, by omega, v3⟩)
theorem lots_rise {z : Nat → Bool} {c : Nat → Nat → Option Int} {n : Nat} : ∀ {lots : List (Nat × Nat × Nat)} {u : Nat}, Ch z c n u lots → (lots.map fun q => (q.1 : Int)).Pairwise (· ≤ ·)
  | [], u, h => List.Pairwise.nil
  | q :: r, u, h => by
    obtain ⟨h1, h2, h3, h4, h5, h6, v, v1, v2, v3⟩ := h
    rw [List.map_cons, List.pairwise_cons]
    refine ⟨fun y hy => ?_, lots_rise h3⟩
    obtain ⟨s, hs, rfl⟩ := List.mem_map.mp hy
    have := h4 s hs
    omega
theorem lots_lt {z : Nat → Bool} {c : Nat → Nat → Option Int} {n : Nat} : ∀ {lots : List (Nat × Nat × Nat)} {u : Nat}, Ch z c n u lots → ∀ q ∈ lots, q.1 < n
  | [], u, h, q, hq => by cases hq
  | a :: r, u, h, q, hq => by
    obtain ⟨h1, h2, h3, h4, h5, h6, v, v1, v2, v3⟩ := h
    rcases List.mem_cons.mp hq with e | e
    · rw [e]; exact h5
    · exact lots_lt h3 q e
theorem planL_len {z : Nat → Bool} {c : Nat → Nat → Option Int} {n u : Nat} {lots : List (Nat × Nat × Nat)} (h : Ch z c n u lots) : (planL z lots).length ≤ n := by
  have := planL_snd h
  have e : (planL z lots).length = ((planL z lots).map Prod.snd).length := by rw [List.length_map]
  rw [e, this]
  unfold wanted
  have := List.length_filter_le (fun v => !z v) (List.range' u (n - u))
  simp at this; omega
/-- days of one loaf price, whose nights are free -/
def flatG (ws : List Int) (loaf : Int) (fine : Option Int) (life : Option Int) : Good := ⟨ws.map fun w => ⟨w, loaf, 0, fine⟩, life⟩
theorem flat_day (ws : List Int) (loaf : Int) (fine life : Option Int) {i : Nat} (h : i < ws.length) : (flatG ws loaf fine life).day i = ⟨ws.getD i 0, loaf, 0, fine⟩ := by
  unfold Good.day flatG
  rw [List.getD_eq_getElem?_getD, List.getElem?_map, List.getElem?_eq_getElem h, List.getD_eq_getElem?_getD, List.getElem?_eq_getElem h]; rfl
theorem slice_flat (ws : List Int) (loaf : Int) (fine : Option Int) (a b : Nat) : slice (ws.map fun w => (⟨w, loaf, 0, fine⟩ : Day)) a b = (slice ws a b).map fun w => ⟨w, loaf, 0, fine⟩ := by
  unfold slice; rw [List.map_take, List.map_drop]
theorem sum_const0 (xs : List Int) : (xs.map fun _ => (0 : Int)).sum = 0 := by
  induction xs with
  | nil => rfl
  | cons x xs ih => rw [List.map_cons, List.sum_cons, ih]; rfl
theorem flat_ahead (ws : List Int) (loaf : Int) (fine life : Option Int) {b v : Nat} (hb : b < ws.length) (h : b ≤ v) : (flatG ws loaf fine life).price b v = if longB life ((v : Int) - b) = true then none else some loaf := by
  unfold Good.price Good.nights Good.keeps
  rw [if_pos h, flat_day ws loaf fine life hb]
  have e : ((slice (flatG ws loaf fine life).days b v).map Day.keep).sum = 0 := by
    show ((slice (ws.map fun w => (⟨w, loaf, 0, fine⟩ : Day)) b v).map Day.keep).sum = 0
    rw [slice_flat, List.map_map]
    exact sum_const0 _
  rw [e]
  show Option.map _ (if longB life ((v : Int) - b) = true then none else some 0) = _
  split
  · rfl
  · show some (loaf + 0) = _; rw [Int.add_zero]
theorem flat_behind0 (ws : List Int) (loaf : Int) (life : Option Int) {b v : Nat} (hb : b < ws.length) (h : v < b) : (flatG ws loaf (some 0) life).price b v = some loaf := by
  unfold Good.price Good.nights Good.fines
  rw [if_neg (by omega), flat_day ws loaf (some 0) life hb]
  have e : (slice (flatG ws loaf (some 0) life).days v b).map Day.fine = (slice ws v b).map fun _ => some (0 : Int) := by
    show (slice (ws.map fun w => (⟨w, loaf, 0, some 0⟩ : Day)) v b).map Day.fine = _
    rw [slice_flat, List.map_map]; rfl
  rw [e]
  unfold osumL
  rw [if_neg (by simp)]
  show some (loaf + _) = _
  rw [List.map_map]
  have : ((slice ws v b).map ((fun x => Option.getD x 0) ∘ fun _ => some (0 : Int))).sum = 0 := sum_const0 _
  rw [this, Int.add_zero]
theorem flat_behindN (ws : List Int) (loaf : Int) (life : Option Int) {b v : Nat} (hb : b < ws.length) (h : v < b) : (flatG ws loaf none life).price b v = none := by
  unfold Good.price Good.nights Good.fines
  rw [if_neg (by omega)]
  have e : (slice (flatG ws loaf none life).days v b).map Day.fine = (slice ws v b).map fun _ => (none : Option Int) := by
    show (slice (ws.map fun w => (⟨w, loaf, 0, none⟩ : Day)) v b).map Day.fine = _
    rw [slice_flat, List.map_map]; rfl
  rw [e]
  unfold osumL
  have hl : (slice ws v b) ≠ [] := by
    unfold slice
    intro z
    have := congrArg List.length z
    simp at this; omega
  rw [if_pos]
  · rfl
  · cases q : slice ws v b with
    | nil => exact absurd q hl
    | cons x xs => simp
theorem flat_ok {ws : List Int} {loaf : Int} {fine life : Option Int} (hw : ∀ w ∈ ws, numOk w) (h1 : numOk loaf) (h2 : ∀ f, fine = some f → numOk f) (h3 : ∀ l, life = some l → 0 ≤ l ∧ l ≤ 40) : (flatG ws loaf fine life).ok ws.length := by
  refine ⟨by show (ws.map _).length = _; rw [List.length_map], fun d hd => ?_, h3⟩
  obtain ⟨w, hw', rfl⟩ := List.mem_map.mp hd
  have := hw w hw'
  exact ⟨this.1, this.2, h1.1, h1.2, Int.le_refl _, (show (0 : Int) ≤ 1000000000 by decide), fun f e => h2 f e⟩
end BK
namespace Pg
open PySem L2 DL BK
theorem set_range {α : Type} (f : Nat → α) (n k : Nat) (x : α) : ((List.range n).map f).set k x = (List.range n).map fun i => if i = k then x else f i := by
  apply List.ext_getElem
  · simp
  · intro i h1 h2
    rw [List.getElem_set]
    simp only [List.getElem_map, List.getElem_range]
    by_cases e : k = i
    · subst e; simp
    · rw [if_neg e, if_neg (fun z => e z.symm)]
theorem bent_range {α : Type} (f : Nat → α) {n k : Nat} (hk : k < n) (x : α) : ((List.range n).map f).take k ++ [x] ++ ((List.range n).map f).drop (k + 1) = (List.range n).map fun i => if i = k then x else f i := by
  rw [← set_range]
  rw [List.set_eq_take_append_cons_drop]
  simp [hk]
theorem fold_sum {α : Type} (f : α → Int) : ∀ (xs : List α) (s : Int), xs.foldl (fun s x => s + f x) s = s + (xs.map f).sum
  | [], s => by simp
  | x :: xs, s => by rw [List.foldl_cons, fold_sum f xs, List.map_cons, List.sum_cons]; omega
section
variable {ls : List Int} {g : Good}
/-- the lit days of a told plan -/
theorem plan_sset {u : Nat} {lots : List (Nat × Nat × Nat)} (h : Ch g.zw g.cost ls.length u lots) (hl : lots.length ≤ ls.length) (hn : ls.length ≤ 40) :
    ssetL [.lst ((planL g.zw lots).map fun p => .int (p.1 : Int))] = some (.lst (lots.map fun q => .int (q.1 : Int))) := by
  have e1 : ((planL g.zw lots).map fun p => T.int (p.1 : Int)) = ((planL g.zw lots).map fun p => (p.1 : Int)).map .int := by rw [List.map_map]; rfl
  have e2 : (lots.map fun q => T.int (q.1 : Int)) = (lots.map fun q => (q.1 : Int)).map .int := by rw [List.map_map]; rfl
  rw [e1, e2]
  exact ssetL_ints (planL_days h) (lots_rise h) (by rw [List.length_map]; omega) (by rw [List.length_map]; have := planL_len h; omega)
end
end Pg

set_option maxHeartbeats 2000000
/-! the same days over and over -/
namespace Pg
open PySem L2 DL BK
def rep40 {α : Type} (xs : List α) : List α := (List.replicate 40 xs).flatten
theorem rep_len {α : Type} (xs : List α) : ∀ n, ((List.replicate n xs).flatten).length = n * xs.length
  | 0 => by rw [Nat.zero_mul]; rfl
  | n + 1 => by rw [List.replicate_succ, List.flatten_cons, List.length_append, rep_len xs n, Nat.succ_mul]; omega
def longL {α : Type} (xs : List α) : List α := (rep40 xs).take 40
theorem longL_map {α β : Type} (f : α → β) (xs : List α) : (rep40 (xs.map f)).take 40 = (longL xs).map f := by
  unfold longL rep40; rw [List.map_take, List.map_flatten, List.map_replicate]
theorem longL_len {α : Type} {xs : List α} (h : 1 ≤ xs.length) : (longL xs).length = 40 := by
  unfold longL rep40
  rw [List.length_take, rep_len]; omega
theorem longL_mem {α : Type} {xs : List α} {x : α} (h : x ∈ longL xs) : x ∈ xs := by
  obtain ⟨l, h1, h2⟩ := List.mem_flatten.mp (List.mem_of_mem_take h)
  rw [List.eq_of_mem_replicate h1] at h2
  exact h2
def longer (B : Bakery) (l : Int) : Bakery := ⟨longL B.lights, B.bound, B.goods.map fun g => ⟨longL g.days, some l⟩⟩
theorem longer_ok {B : Bakery} (ok : B.ok) {l : Int} (h0 : 0 ≤ l) (h1 : l ≤ 40) : (longer B l).ok := by
  have hl : (longL B.lights).length = 40 := longL_len ok.l1
  refine ⟨by show 1 ≤ (longL B.lights).length; omega, by show (longL B.lights).length ≤ 40; omega, fun x hx => ok.ls x (longL_mem hx), ok.bd, by show 1 ≤ (B.goods.map _).length; rw [List.length_map]; exact ok.g1, by show (B.goods.map _).length ≤ 2; rw [List.length_map]; exact ok.g2, fun g hg => ?_⟩
  obtain ⟨g', hg', rfl⟩ := List.mem_map.mp hg
  have gk := ok.gs g' hg'
  refine ⟨?_, fun d hd => gk.2.1 d (longL_mem hd), fun l' e => ?_⟩
  · show (longL g'.days).length = (longL B.lights).length
    rw [hl, longL_len (by rw [gk.1]; exact ok.l1)]
  · have e : some l = some l' := e
    cases e; exact ⟨h0, h1⟩
theorem longer_eq {B : Bakery} (ok : B.ok) (l : Int) : dn__law_longer [eB B, .int l] = .ok (eB (longer B l)) := by
  rw [eq__law_longer]; unfold b__law_longer
  have hl : B.lights.length ≤ 40 := ok.l2
  have hg2 := ok.g2
  have m40 : ∀ xs : List T, xs.length ≤ 200 → mulT (.lst xs) (.int 40) = some (.lst (rep40 xs)) := fun xs h => by
    rw [mulT_lk (by omega) (by show xs.length * 40 ≤ 10000; omega)]; rfl
  have hc : ∀ ev : Lo, ev.length = 7 → ev[1]? = some (some (.int l, false)) → compL (gTp 2 (DL.gCons (gNm 5) (DL.gCons (gNm 6) DL.gNil))) dYes (dTup (dCons (dSlice (d2 mulT (dVar 5) (dC (.int 40))) dPn (dPs (dC (.int 40)))) (dCons (dVar 1) dNil))) ev (B.goods.map eG)
      = .ok (B.goods.map fun g => eG ⟨longL g.days, some l⟩) := fun ev hev h1 => by
    match ev, hev with
    | [v0, v1, v2, v3, v4, v5, v6], _ =>
      simp at h1
      subst h1
      apply compL_map
      intro g hg
      have gk := ok.gs g hg
      have gl := gk.1
      have q := longL_map eD g.days
      rw [cturn_ap]
      have m := m40 (g.days.map eD) (by simp; omega)
      simp (disch := omega) [eG, q, m]
  have q := longL_map T.int B.lights
  unfold eB
  have m := m40 (B.lights.map T.int) (by simp; omega)
  have hc := hc [some (T.tup [T.lst (List.map T.int B.lights), eO B.bound, T.lst (List.map eG B.goods)], false), some (T.int l, false), some (T.lst (List.map T.int B.lights), false), some (eO B.bound, false), some (T.lst (List.map eG B.goods), false), none, none] rfl rfl
  simp (disch := omega) [q, m, hc, longer, Function.comp_def]
end Pg

set_option maxHeartbeats 2000000
/-! stretches, reaches -/
namespace BK
theorem osum_shift (f : Nat → Option Int) (a : Nat) : ∀ n, osum (fun k => f (a + k)) 0 n = osum f a n
  | 0 => rfl
  | n + 1 => by
    show oadd (osum (fun k => f (a + k)) 0 n) (f (a + (0 + n))) = oadd (osum f a n) (f (a + n))
    rw [osum_shift f a n, Nat.zero_add]
end BK
namespace Pg
open PySem L2 DL BK
theorem cost_turn {g : Good} {n : Nat} (gk : g.ok n) (hn : n ≤ 40) {b v : Nat} (hb : b < n) (hv : v < n) : (g.day v).want = 0 ∧ g.cost b v = some 0 ∨ 0 < (g.day v).want ∧ g.price b v = none ∧ g.cost b v = none ∨
    ∃ y, 0 < (g.day v).want ∧ g.price b v = some y ∧ g.cost b v = some ((g.day v).want * y) ∧ mulT (.int (g.day v).want) (.int y) = some (.int ((g.day v).want * y)) := by
  have dk := day_ok gk hv
  have h0 := dk.1
  have h1 := dk.2.1
  unfold Good.cost
  by_cases hw : (g.day v).want = 0
  · exact .inl ⟨hw, if_pos hw⟩
  · rw [if_neg hw]
    cases hp : g.price b v with
    | none => exact .inr (.inl ⟨by omega, rfl, rfl⟩)
    | some y =>
      have bd := price_bd gk hn hb hp
      exact .inr (.inr ⟨y, by omega, rfl, rfl, mulT_ok (by omega)⟩)
theorem stretch_of_eq {g : Good} {n : Nat} (gk : g.ok n) (hn : n ≤ 40) {b f l : Nat} (hb : b < n) (hf : f ≤ 1000) (hl : l < n) : dn_stretch_of [eG g, .int b, .int f, .int l] = .ok (eO (osum (g.cost b) f (l + 1 - f))) := by
  rw [eq_stretch_of]; unfold b_stretch_of
  have gl : g.days.length = n := gk.1
  have gx : ixT (eG g) (.int 0) = some (.lst (g.days.map eD)) := by simp [eG]
  have da : ∀ i, i < n → (g.days.map eD)[i]? = some (eD (g.day i)) := fun i hi => by
    rw [days_range g, gl]; exact range_at _ hi
  generalize g.days.map eD = dys at *
  have L := forL_part (g := gNm 5) (body := b_stretch_of_p1) (fun (k : Nat) => T.int ((f : Int) + (k : Int))) (fun s => [some (eG g, false), some (.int b, false), some (.int f, false), some (.int l, false), some (.int s, false), none, none, none]) (fun k => g.cost b (f + k)) .non (n := l + 1 - f) (fun k s hk => by
    have hv : f + k < n := by omega
    have dv : atI dys ((f : Int) + (k : Int)) = some (eD (g.day (f + k))) := by
      have := atI_cast dys (f + k)
      rw [da _ hv] at this; exact this
    have p := price_of_eq g b (f + k) (by omega) (by omega)
    have p' : dn_price_of [eG g, .int b, .int ((f : Int) + (k : Int))] = .ok (eO (g.price b (f + k))) := p
    unfold b_stretch_of_p1
    rcases cost_turn gk hn hb hv with ⟨h1, h2⟩ | ⟨h1, h2, h3⟩ | ⟨y, h1, h2, h3, h4⟩
    · rw [h2]; simp [gx, dv, eD, h1]
    · rw [h3]; rw [h2] at p'; simp at p'; simp [gx, dv, eD, h1, p']
    · rw [h3]; rw [h2] at p'; simp at p'; simp [gx, dv, eD, h1, p', h4]) 0
  rw [osum_shift] at L
  have ee : ((l : Int) + 1 - f).toNat = l + 1 - f := by omega
  cases e : osum (g.cost b) f (l + 1 - f) with
  | none => rw [e] at L; simp (disch := omega) [ee, rngF_eq]; rw [L]; simp
  | some x => rw [e] at L; simp (disch := omega) [ee, rngF_eq]; rw [L]; simp
theorem reach_eq {B : Bakery} (ok : B.ok) {j v : Nat} (hj : j < B.goods.length) (hv : v < B.lights.length) : dn_reach [eB B, .int j, .int v] = .ok (.tup [.int (B.goods[j].rf v), .int (B.goods[j].rl v)]) := by
  rw [eq_reach]; unfold b_reach
  have l := look_at_bakery_ok ok
  have n := look_at_number_ok (B := B) (j := j) (by omega) (by omega)
  have d := look_at_day_ok (B := B) (j := v) (by omega) (by omega)
  have r := (reach_of_eq (ok.gs _ (List.getElem_mem hj)) ok.l2 hv).1
  simp [l, n, d]
  unfold eB
  simp [good_at hj, r]
theorem stretch_price_eq {B : Bakery} (ok : B.ok) {j b f l : Nat} (hj : j < B.goods.length) (hb : b < B.lights.length) (hf : f ≤ l) (hl : l < B.lights.length) :
    dn_stretch_price [eB B, .int j, .int b, .int f, .int l] = .ok (eO (osum (B.goods[j].cost b) f (l + 1 - f))) := by
  rw [eq_stretch_price]; unfold b_stretch_price
  have lo := look_at_bakery_ok ok
  have n := look_at_number_ok (B := B) (j := j) (by omega) (by omega)
  have d1 := look_at_day_ok (B := B) (j := b) (by omega) (by omega)
  have d2 := look_at_day_ok (B := B) (j := f) (by omega) (by omega)
  have d3 := look_at_day_ok (B := B) (j := l) (by omega) (by omega)
  have s := stretch_of_eq (ok.gs _ (List.getElem_mem hj)) ok.l2 (b := b) (f := f) hb (by have := ok.l2; omega) hl
  have hx : ixT (eB B) (.int 2) = some (.lst (B.goods.map eG)) := by simp [eB]
  have gj : (B.goods.map eG)[j]? = some (eG B.goods[j]) := by rw [List.getElem?_map, List.getElem?_eq_getElem hj]; rfl
  have no : ¬ ((l : Int) < f) := by omega
  generalize eB B = Bt at *
  have L : forL (gNm 5) b_stretch_price_p1 [.int b, .int f, .int l] [some (Bt, false), some (.int j, false), some (.int b, false), some (.int f, false), some (.int l, false), none] = .nx [some (Bt, false), some (.int j, false), some (.int b, false), some (.int f, false), some (.int l, false), none] := by
    apply forL_same
    intro t ht
    simp at ht
    unfold b_stretch_price_p1
    rcases ht with e | e | e <;> subst e <;> simp [d1, d2, d3]
  simp (disch := omega) [lo, n, L, no, hx, gj, s, -getElem?_pos]
end Pg

set_option maxHeartbeats 2000000
/-! what is let by is a bakery; doors that ask for a good and days -/
namespace Pg
open PySem L2 DL BK
theorem num_is {t : T} {a b : Int} (h : withinB t a b = true) : ∃ i : Int, t = .int i ∧ a ≤ i ∧ i ≤ b := by
  cases t <;> first | exact Bool.noConfusion h | skip
  rename_i i
  simp at h
  exact ⟨i, rfl, h.1, h.2⟩
theorem nn_is {t : T} {a b : Int} (h : (isNonB t || withinB t a b) = true) : ∃ o : Option Int, t = eO o ∧ ∀ i, o = some i → a ≤ i ∧ i ≤ b := by
  rcases Bool.or_eq_true_iff.mp h with h | h
  · cases t <;> first | exact Bool.noConfusion h | skip
    exact ⟨none, rfl, fun i e => by cases e⟩
  · obtain ⟨i, rfl, h1, h2⟩ := num_is h
    exact ⟨some i, rfl, fun j e => by cases e; exact ⟨h1, h2⟩⟩
theorem day_is {t : T} (h : dayB t = true) : ∃ d : Day, t = eD d ∧ d.ok := by
  unfold dayB at h
  split at h
  · rename_i a b c f
    simp only [Bool.and_eq_true] at h
    obtain ⟨⟨h1, h2, h3⟩, h4⟩ := h
    obtain ⟨a, rfl, a1, a2⟩ := num_is h1
    obtain ⟨b, rfl, b1, b2⟩ := num_is h2
    obtain ⟨c, rfl, c1, c2⟩ := num_is h3
    obtain ⟨o, rfl, ho⟩ := nn_is (t := f) (a := 0) (b := 1000000000) h4
    exact ⟨⟨a, b, c, o⟩, rfl, a1, a2, b1, b2, c1, c2, ho⟩
  · cases h
theorem rows_is : ∀ (rs : List T) (k : Nat), rowsW k rs = none → ∃ ds : List Day, rs = ds.map eD ∧ ∀ d ∈ ds, d.ok
  | [], _, _ => ⟨[], rfl, fun d h => by cases h⟩
  | r :: rs, k, h => by
    unfold rowsW at h
    split at h
    · rename_i q
      obtain ⟨d, rfl, hd⟩ := day_is q
      obtain ⟨ds, rfl, hds⟩ := rows_is rs (k + 1) h
      exact ⟨d :: ds, rfl, fun x hx => (List.mem_cons.mp hx).elim (fun e => by rw [e]; exact hd) (hds x)⟩
    · cases h
theorem good_is {t : T} {n : Nat} (h : goodW n t = none) : ∃ g : Good, t = eG g ∧ g.ok n := by
  unfold goodW at h
  split at h
  · rename_i rows life
    split at h
    · rename_i c
      obtain ⟨ds, rfl, hds⟩ := rows_is rows 0 (Option.map_eq_none_iff.mp h)
      obtain ⟨o, rfl, ho⟩ := nn_is (t := life) (a := 0) (b := 40) c.2
      exact ⟨⟨ds, o⟩, rfl, by have := c.1; simpa using this, hds, ho⟩
    · cases h
  · cases h
theorem goods_is (n : Nat) : ∀ (gs : List T) (k : Nat), goodsW n k gs = none → ∃ xs : List Good, gs = xs.map eG ∧ ∀ g ∈ xs, g.ok n
  | [], _, _ => ⟨[], rfl, fun d h => by cases h⟩
  | g :: gs, k, h => by
    unfold goodsW at h
    split at h
    · cases h
    · rename_i q
      obtain ⟨x, rfl, hx⟩ := good_is q
      obtain ⟨xs, rfl, hxs⟩ := goods_is n gs (k + 1) h
      exact ⟨x :: xs, rfl, fun y hy => (List.mem_cons.mp hy).elim (fun e => by rw [e]; exact hx) (hxs y)⟩
theorem lights_is : ∀ (ls : List T), ls.all numB = true → ∃ xs : List Int, ls = xs.map .int ∧ ∀ l ∈ xs, numOk l
  | [], _ => ⟨[], rfl, fun d h => by cases h⟩
  | l :: ls, h => by
    rw [List.all_cons, Bool.and_eq_true] at h
    obtain ⟨i, rfl, h1, h2⟩ := num_is h.1
    obtain ⟨xs, rfl, hxs⟩ := lights_is ls h.2
    exact ⟨i :: xs, rfl, fun y hy => (List.mem_cons.mp hy).elim (fun e => by rw [e]; exact ⟨h1, h2⟩) (hxs y)⟩
theorem bakery_is {t : T} (h : bakeryW t = none) : ∃ B : Bakery, t = eB B ∧ B.ok := by
  obtain ⟨ls, bd, gs, rfl, fr⟩ := bakeryW_ok h
  rw [bakeryW_3, if_pos fr] at h
  rw [frameB_3] at fr
  simp only [Bool.and_eq_true] at fr
  obtain ⟨f1, f2, f3⟩ := fr
  have f1 : (decide (1 ≤ ls.length) && (decide (ls.length ≤ 40) && ls.all numB)) = true := f1
  have f3 : (decide (1 ≤ gs.length) && decide (gs.length ≤ 2)) = true := f3
  simp only [Bool.and_eq_true, decide_eq_true_eq] at f1 f3
  obtain ⟨l1, l2, l3⟩ := f1
  obtain ⟨xs, rfl, hxs⟩ := lights_is ls l3
  obtain ⟨o, rfl, ho⟩ := nn_is f2
  obtain ⟨ys, rfl, hys⟩ := goods_is _ gs 0 h
  refine ⟨⟨xs, o, ys⟩, rfl, ⟨by simpa using l1, by simpa using l2, hxs, ho, by simpa using f3.1, by simpa using f3.2, ?_⟩⟩
  simpa using hys
theorem look_at_number_eq {B : Bakery} {t : T} (h : kn t = true) : dn_look_at_number [eB B, t] = if withinB t 0 ((B.goods.length : Int) - 1) = true then .ok .non else .ex "NoGood" [] := by
  rw [eq_look_at_number]; unfold b_look_at_number
  have hx2 : ixT (eB B) (.int 2) = some (.lst (B.goods.map eG)) := by simp [eB]
  have w := is_within_eq h 0 ((B.goods.length : Int) - 1)
  have lg : (B.goods.map eG).length = B.goods.length := by simp
  generalize withinB t 0 ((B.goods.length : Int) - 1) = z at *
  cases z <;> simp [hx2, lg, w]
theorem look_at_day_eq {B : Bakery} {t : T} (h : kn t = true) : dn_look_at_day [eB B, t] = if withinB t 0 ((B.lights.length : Int) - 1) = true then .ok .non else .ex "NoDay" [] := by
  rw [eq_look_at_day]; unfold b_look_at_day
  have hx0 : ixT (eB B) (.int 0) = some (.lst (B.lights.map .int)) := by simp [eB]
  have w := is_within_eq h 0 ((B.lights.length : Int) - 1)
  have ll : (B.lights.map T.int).length = B.lights.length := by simp
  generalize withinB t 0 ((B.lights.length : Int) - 1) = z at *
  cases z <;> simp [hx0, ll, w]
theorem nat_of {t : T} {n : Nat} (h : withinB t 0 ((n : Int) - 1) = true) : ∃ k : Nat, t = .int k ∧ k < n := by
  obtain ⟨i, rfl, h1, h2⟩ := num_is h
  obtain ⟨k, rfl⟩ : ∃ k : Nat, i = k := ⟨i.toNat, by omega⟩
  exact ⟨k, rfl, by omega⟩
end Pg

set_option maxHeartbeats 2000000
/-! dark days, stretches: of any data -/
namespace Pg
open PySem L2 DL BK
theorem forL_allX {g : T → Lo → Option Lo} {body : Lo → Fl} {α : Type} {ev : Lo} (enc : α → T) (p : α → Bool) {c : Str} {fs : List (Str × T)} {xs : List α} (h : ∀ x ∈ xs, (p x = true → turn g body (enc x) ev = .nx ev) ∧ (p x = false → ∃ e, turn g body (enc x) ev = .ex c fs e)) :
    (xs.all p = true ∧ forL g body (xs.map enc) ev = .nx ev) ∨ (xs.all p = false ∧ ∃ e, forL g body (xs.map enc) ev = .ex c fs e) := by
  induction xs with
  | nil => exact .inl ⟨rfl, rfl⟩
  | cons x xs ih =>
    rw [List.map_cons, forL_cons, List.all_cons]
    obtain ⟨h1, h2⟩ := h x (by simp)
    cases q : p x with
    | true =>
      rw [h1 q]
      exact ih fun y hy => h y (by simp [hy])
    | false =>
      obtain ⟨e, he⟩ := h2 q
      rw [he]
      exact .inr ⟨rfl, e, rfl⟩
abbrev Wn (n : Nat) (t : T) : Bool := withinB t 0 ((n : Int) - 1)
def ltB : T → T → Bool
  | .int a, .int b => decide (a < b)
  | _, _ => false
def risB (ts : List T) : Bool := (List.range (ts.length - 1)).all fun i => ltB (ts.getD i .non) (ts.getD (i + 1) .non)
def daysB (n : Nat) : T → Bool
  | .lst ts => ts.all (Wn n) && risB ts
  | _ => false
theorem daysB_lst {n : Nat} {ts : List T} : daysB n (.lst ts) = (ts.all (Wn n) && risB ts) := rfl
theorem int_at {n : Nat} {ts : List T} (h : ts.all (Wn n) = true) {i : Nat} (hi : i < ts.length) : ∃ k : Nat, ts.getD i .non = .int k ∧ k < n ∧ ts[i]? = some (.int k) := by
  have e : ts[i]? = some (ts.getD i .non) := by rw [List.getD_eq_getElem?_getD, List.getElem?_eq_getElem hi]; rfl
  have m : ts.getD i .non ∈ ts := by rw [List.getD_eq_getElem?_getD, List.getElem?_eq_getElem hi]; exact List.getElem_mem hi
  obtain ⟨k, hk, hl⟩ := nat_of (List.all_eq_true.mp h _ m)
  exact ⟨k, hk, hl, by rw [e, hk]⟩
theorem days_is {n : Nat} {t : T} (h : daysB n t = true) : ∃ ds : List Nat, t = .lst (dkT ds) ∧ Rising ds n := by
  cases t with
  | lst ts =>
    rw [daysB_lst, Bool.and_eq_true] at h
    obtain ⟨h1, h2⟩ := h
    have key : ∃ ds : List Nat, ts = dkT ds ∧ ∀ d ∈ ds, d < n := by
      clear h2
      induction ts with
      | nil => exact ⟨[], rfl, fun d h => by cases h⟩
      | cons t ts ih =>
        rw [List.all_cons, Bool.and_eq_true] at h1
        obtain ⟨k, rfl, hk⟩ := nat_of h1.1
        obtain ⟨ds, rfl, hd⟩ := ih h1.2
        exact ⟨k :: ds, rfl, fun d hx => (List.mem_cons.mp hx).elim (fun e => by rw [e]; exact hk) (hd d)⟩
    obtain ⟨ds, rfl, hd⟩ := key
    refine ⟨ds, rfl, ⟨fun i hi => ?_, hd⟩⟩
    have dl : (dkT ds).length = ds.length := by unfold dkT; simp
    have := List.all_eq_true.mp h2 i (List.mem_range.mpr (by rw [dl]; omega))
    have at_ : ∀ j, j < ds.length → (dkT ds).getD j .non = .int (ds.getD j 0 : Nat) := fun j hj => by
      unfold dkT
      rw [List.getD_eq_getElem?_getD, List.getElem?_map, List.getD_eq_getElem?_getD, List.getElem?_eq_getElem hj]; rfl
    rw [at_ i (by omega), at_ (i + 1) hi] at this
    have := of_decide_eq_true (show decide (((ds.getD i 0 : Nat) : Int) < ((ds.getD (i + 1) 0 : Nat) : Int)) = true from this)
    omega
  | _ => cases h
theorem days_of {n : Nat} {ds : List Nat} (r : Rising ds n) : daysB n (.lst (dkT ds)) = true := by
  rw [daysB_lst, Bool.and_eq_true]
  refine ⟨?_, ?_⟩
  · rw [List.all_eq_true]
    intro t ht
    obtain ⟨d, hd, rfl⟩ := List.mem_map.mp ht
    have := r.le d hd
    simp; omega
  · unfold risB
    rw [List.all_eq_true]
    intro i hi
    have dl : (dkT ds).length = ds.length := by unfold dkT; simp
    have hi := List.mem_range.mp hi
    rw [dl] at hi
    have at_ : ∀ j, j < ds.length → (dkT ds).getD j .non = .int (ds.getD j 0 : Nat) := fun j hj => by
      unfold dkT
      rw [List.getD_eq_getElem?_getD, List.getElem?_map, List.getD_eq_getElem?_getD, List.getElem?_eq_getElem hj]; rfl
    rw [at_ i (by omega), at_ (i + 1) (by omega)]
    have := r.lt i (by omega)
    exact decide_eq_true (by omega)
theorem at_next {n : Nat} {ts : List T} (ha : ts.all (Wn n) = true) {i : Nat} (hi : i < ts.length - 1) : ∃ a b : Nat, ts[i]? = some (.int a) ∧ atI ts (1 + (i : Int)) = some (.int b) ∧ ltB (ts.getD i .non) (ts.getD (i + 1) .non) = decide (a < b) := by
  obtain ⟨a, e1, _, e2⟩ := int_at ha (i := i) (by omega)
  obtain ⟨b, e3, _, e4⟩ := int_at ha (i := i + 1) (by omega)
  refine ⟨a, b, e2, ?_, ?_⟩
  · have := atI_cast ts (i + 1)
    have e : ((i + 1 : Nat) : Int) = 1 + i := by omega
    rw [e, e4] at this; exact this
  · rw [e1, e3]
    show decide ((a : Int) < (b : Int)) = _
    by_cases h : a < b
    · rw [decide_eq_true h, decide_eq_true (by omega)]
    · rw [decide_eq_false h, decide_eq_false (by omega)]
theorem look_at_days_eq {B : Bakery} (ok : B.ok) {t : T} (h : kd 1 t = true) : dn_look_at_days [eB B, t] = if daysB B.lights.length t = true then .ok .non else .ex "NoDays" [] := by
  rw [eq_look_at_days]; unfold b_look_at_days
  have hx : ixT (eB B) (.int 0) = some (.lst (B.lights.map .int)) := by simp [eB]
  have ll : (B.lights.map T.int).length = B.lights.length := by simp
  cases t with
  | lst ts =>
    obtain ⟨tl, hk⟩ := kd_lst_iff.mp h
    rw [daysB_lst]
    have hc : ∀ ev : Lo, ev = [some (eB B, false), some (.lst ts, false), none, none] → compL (gNm 3) dYes (dCall dn_is_within (dCons (dVar 3) (dCons (dC (.int 0)) (dCons (d2 subT (dBlt lenL (dCons (d2 ixT (dVar 0) (dC (.int 0))) dNil)) (dC (.int 1))) dNil)))) ev ts = .ok (ts.map fun t => .bl (Wn B.lights.length t)) := fun ev he => by
      subst he
      have := compL_map (g := gNm 3) (c := dYes) (de := dCall dn_is_within (dCons (dVar 3) (dCons (dC (.int 0)) (dCons (d2 subT (dBlt lenL (dCons (d2 ixT (dVar 0) (dC (.int 0))) dNil)) (dC (.int 1))) dNil)))) (ev := [some (eB B, false), some (.lst ts, false), none, none]) (fun t : T => t) (fun t => .bl (Wn B.lights.length t)) (xs := ts) fun t ht => by
        have w := is_within_eq (kd_kn (hk t ht)) 0 ((B.lights.length : Int) - 1)
        rw [cturn_ap]
        simp [hx, ll, w]
      simpa using this
    have hc := hc _ rfl
    have hb : bls (ts.map fun t => T.bl (Wn B.lights.length t)) = some (ts.map fun t => Wn B.lights.length t) := bls_map (fun t => Wn B.lights.length t) ts
    have hall : (ts.map fun t => Wn B.lights.length t).all id = ts.all (Wn B.lights.length) := by rw [List.all_map]; rfl
    have hml : (ts.map fun t => T.bl (Wn B.lights.length t)).length ≤ 1000 := by simp; omega
    generalize (ts.map fun t => T.bl (Wn B.lights.length t)) = bs at *
    generalize (ts.map fun t => Wn B.lights.length t) = bs2 at *
    cases qa : ts.all (Wn B.lights.length) with
    | false =>
      rw [qa] at hall
      simp (disch := omega) [hx, ll, hc, hb, hall]
    | true =>
      rw [qa] at hall
      have L := forL_allX (g := gNm 2) (body := b_look_at_days_p1) (ev := [some (eB B, false), some (.lst ts, false), none, none]) (fun (i : Nat) => T.int (1 + (i : Int))) (fun i => ltB (ts.getD i .non) (ts.getD (i + 1) .non)) (c := "NoDays") (fs := []) (xs := List.range (ts.length - 1)) fun i hi => by
        have hi := List.mem_range.mp hi
        obtain ⟨a, b, e1, e2, e3⟩ := at_next qa hi
        rw [e3]
        have e0 : (1 : Int) + i - 1 = i := by omega
        refine ⟨fun q => ?_, fun q => ?_⟩
        · have q := of_decide_eq_true q
          have no : ¬ (b ≤ a) := by omega
          unfold b_look_at_days_p1
          simp [e2, e0, e1, no, -getElem?_pos]
        · have q := of_decide_eq_false q
          have yes : b ≤ a := by omega
          unfold b_look_at_days_p1
          exact ⟨[some (eB B, false), some (.lst ts, false), some (.int (1 + (i : Int)), false), none], by simp [e2, e0, e1, yes, -getElem?_pos]⟩
      have ee : ((ts.length : Int) - 1).toNat = ts.length - 1 := by omega
      have hr : risB ts = (List.range (ts.length - 1)).all fun i => ltB (ts.getD i .non) (ts.getD (i + 1) .non) := rfl
      rw [← hr] at L
      generalize eB B = E at *
      rcases L with ⟨q, L⟩ | ⟨q, e, L⟩
      · rw [q]; simp (disch := omega) [hx, ll, hc, hb, hall, ee, rngF_eq, L]
      · rw [q]; simp (disch := omega) [hx, ll, hc, hb, hall, ee, rngF_eq, L]
  | _ => first | exact Bool.noConfusion (kd_kl h) | (simp [daysB]; done)
def strB (n : Nat) : T → Bool
  | .tup [a, b] => Wn n a && (Wn n b && !ltB b a)
  | _ => false
theorem strB_2 {n : Nat} {a b : T} : strB n (.tup [a, b]) = (Wn n a && (Wn n b && !ltB b a)) := rfl
theorem strB_n2 {n : Nat} {ts : List T} (h : ts.length ≠ 2) : strB n (.tup ts) = false := by
  unfold strB
  split
  · rename_i e; cases e; exact absurd rfl h
  · rfl
theorem is_stretch_beyond_eq {B : Bakery} (ok : B.ok) {ds : List Nat} {t : T} (h : kd 1 t = true) : (strB B.lights.length t = false ∧ dn_is_stretch_beyond [eB B, .lst (dkT ds), t] = .ok (.bl false)) ∨ (strB B.lights.length t = true ∧ ∃ b, dn_is_stretch_beyond [eB B, .lst (dkT ds), t] = .ok (.bl b)) := by
  rw [eq_is_stretch_beyond]; unfold b_is_stretch_beyond
  have hx : ixT (eB B) (.int 0) = some (.lst (B.lights.map .int)) := by simp [eB]
  have ll : (B.lights.map T.int).length = B.lights.length := by simp
  cases t with
  | tup ts =>
    obtain ⟨tl, hk⟩ := kd_tup_iff.mp h
    by_cases hl : ts.length = 2
    · obtain ⟨a, b, rfl⟩ := len2 hl
      have wa := is_within_eq (kd_kn (hk a (by simp))) 0 ((B.lights.length : Int) - 1)
      have wb := is_within_eq (kd_kn (hk b (by simp))) 0 ((B.lights.length : Int) - 1)
      rw [strB_2]
      have rs := reaches_of_eq ok
      have bt := fun {f i : Nat} (h : f + i < B.lights.length) => beyond_at ok (dkI ds) h
      have hd : (dkI ds).map T.int = dkT ds := (dk_eq ds).symm
      rw [hd] at bt
      have hc : ∀ v0 v1 v2 : Option (T × Bool), v0 = some (eB B, false) → compL (gNm 3) dYes (dCall dn_is_within (dCons (dVar 3) (dCons (dC (.int 0)) (dCons (d2 subT (dBlt lenL (dCons (d2 ixT (dVar 0) (dC (.int 0))) dNil)) (dC (.int 1))) dNil)))) [v0, v1, v2, none] [a, b] = .ok [.bl (Wn B.lights.length a), .bl (Wn B.lights.length b)] := fun v0 v1 v2 e0 => by
        subst e0
        refine compL_c1 ?_ (compL_c1 ?_ compL_nil)
        · rw [cturn_ap]; simp [hx, ll, wa]
        · rw [cturn_ap]; simp [hx, ll, wb]
      have hc := hc _ (some (.lst (dkT ds), false)) (some (.tup [a, b], false)) rfl
      generalize B.lights.map T.int = ls at *
      generalize dkT ds = dk at *
      generalize (allR B).map eR = rr at *
      generalize hE : eB B = E at *
      cases za : Wn B.lights.length a with
      | false => rw [za] at hc; exact .inl ⟨rfl, by generalize Wn B.lights.length b = zb at *; simp (disch := omega) [hc]⟩
      | true =>
        cases zb : Wn B.lights.length b with
        | false => rw [za, zb] at hc; exact .inl ⟨rfl, by simp (disch := omega) [hc]⟩
        | true =>
          rw [za, zb] at hc
          obtain ⟨f, rfl, hf⟩ := nat_of za
          obtain ⟨l, rfl, hl2⟩ := nat_of zb
          have elt : ltB (.int (l : Int)) (.int (f : Int)) = decide (l < f) := by
            show decide ((l : Int) < (f : Int)) = _
            by_cases h : l < f
            · rw [decide_eq_true h, decide_eq_true (by omega)]
            · rw [decide_eq_false h, decide_eq_false (by omega)]
          rw [elt]
          by_cases hlt : l < f
          · refine .inl ⟨by simp [hlt], ?_⟩
            simp (disch := omega) [hc, hlt]
          · refine .inr ⟨by simp [hlt], ?_⟩
            have b1 := bt (f := f) (i := l - f) (by omega)
            have e2 : (f : Int) + ((l - f : Nat) : Int) = l := by omega
            rw [e2] at b1
            exact ⟨_, by simp (disch := omega) [hc, hlt, rs, b1]; rfl⟩
    · refine .inl ⟨strB_n2 hl, ?_⟩
      have hl' : ¬ ((ts.length : Int) = 2) := by omega
      simp [hl']
  | _ => first | exact Bool.noConfusion (kd_kl h) | exact .inl ⟨rfl, by simp⟩
theorem dark_eq2 (x : Int) (n : Nat) (hn : n ≤ 1000) : ∃ ds : List Nat, dn__law_dark [.int x, .int n] = .ok (.lst (dkT ds)) ∧ Rising ds n ∧ ds.length ≤ n := by
  refine ⟨(List.range n).filter fun d => decide (Builtin.bitAnd (x / 2 ^ d) 1 = 1), ?_, rising_filter _ _, ?_⟩
  · rw [eq__law_dark]; unfold b__law_dark dkT
    have hc : ∀ ev : Lo, ev = [some (.int x, false), some (.int n, false), none] → compL (gNm 2) (dTest (d2 eqT (d2 bandT (d2 shrT (dVar 0) (dVar 2)) (dC (.int 1))) (dC (.int 1)))) (dVar 2) ev ((List.range n).map fun (i : Nat) => T.int (i : Int)) = .ok (((List.range n).filter fun d => decide (Builtin.bitAnd (x / 2 ^ d) 1 = 1)).map fun (i : Nat) => T.int (i : Int)) := fun ev he => by
      subst he
      apply compL_flt
      intro d hd
      rw [cturn_ap]
      by_cases h : Builtin.bitAnd (x / 2 ^ d) 1 = 1 <;> simp [h]
    have hc := hc _ rfl
    have hl : (((List.range n).filter fun d => decide (Builtin.bitAnd (x / 2 ^ d) 1 = 1)).map fun (i : Nat) => T.int (i : Int)).length ≤ 1000 := by
      have := List.length_filter_le (fun d => decide (Builtin.bitAnd (x / 2 ^ d) 1 = 1)) (List.range n)
      simp at this ⊢; omega
    generalize (((List.range n).filter fun d => decide (Builtin.bitAnd (x / 2 ^ d) 1 = 1)).map fun (i : Nat) => T.int (i : Int)) = us at *
    simp (disch := omega) [rngT_eq, hc]
  · have := List.length_filter_le (fun d => decide (Builtin.bitAnd (x / 2 ^ d) 1 = 1)) (List.range n)
    simp at this ⊢; omega
end Pg

set_option maxHeartbeats 4000000
namespace DL
open PySem L2
theorem Sh.lst3 {a b c : T} {n wa wb wc : Nat} (ha : Sh a n wa) (hb : Sh b n wb) (hc : Sh c n wc) : Sh (.lst [a, b, c]) (n + 1) (wa + wb + wc + 8) where
  pl := by unfold plR plRs plRs plRs plRs; rw [ha.pl, hb.pl, hc.pl]; rfl
  sh := by unfold py pys pys pys pys PyData.showable PyData.showableAll PyData.showableAll PyData.showableAll PyData.showableAll; rw [ha.sh, hb.sh, hc.sh]; rfl
  dp := by
    unfold py pys pys pys pys PyData.depth PyData.depthAll PyData.depthAll PyData.depthAll PyData.depthAll
    have := ha.dp
    have := hb.dp
    have := hc.dp
    omega
  ln := by
    unfold py PyData.shown
    have h := listText_le (PyData.shownAll (pys [a, b, c]))
    have e : piled (PyData.shownAll (pys [a, b, c])) = ((py a).shown.length + 2) + (((py b).shown.length + 2) + (((py c).shown.length + 2) + 0)) := by
      unfold pys pys pys pys PyData.shownAll PyData.shownAll PyData.shownAll PyData.shownAll
      rw [piled_cons, piled_cons, piled_cons]; rfl
    have := ha.ln
    have := hb.ln
    have := hc.ln
    omega
end DL
namespace K44
open PySem L2 DL Pg BK
theorem named_bakery (g d : T) : dn__law_named_8 [.exc "NoBakery" (noBk g d)] = .ok (.str "bakery") := by rfl
theorem named_days : dn__law_named_8 [.exc "NoDays" []] = .ok (.str "days") := by rfl
theorem x1 : xsub "NoBakery" "BakeError" = true := by decide
theorem x2 : xsub "NoDays" "BakeError" = true := by decide
section
variable {t g d days thing : T}
theorem told_no (h : kd 5 t = true) (q : bakeryW t = some (g, d)) {door : Nat} (hd : door < 2) : dn__law_told_22 [.int door, t, days, thing] = .ok (.str "bakery") := by
  have l := look_at_bakery_eq h
  rw [q] at l
  have e0 : dn_too_much [t, days] = .ex "NoBakery" (noBk g d) := by rw [eq_too_much]; unfold b_too_much; simp [l]
  have e1 : dn_wants_too_much [t, days, thing] = .ex "NoBakery" (noBk g d) := by rw [eq_wants_too_much]; unfold b_wants_too_much; simp [l]
  have nb := named_bakery g d
  generalize noBk g d = fs at *
  rw [eq__law_told_22]; unfold b__law_told_22
  have hdd : door = 0 ∨ door = 1 := by omega
  rcases hdd with rfl | rfl
  · simp [e0, notNonT, x1, nb]
  · simp [e1, notNonT, x1, nb]
variable {B : Bakery}
theorem told_days (ok : B.ok) (h : kd 1 days = true) (q : daysB B.lights.length days = false) {door : Nat} (hd : door < 2) : dn__law_told_22 [.int door, eB B, days, thing] = .ok (.str "days") := by
  have l := look_at_bakery_ok ok
  have ld := look_at_days_eq ok h
  rw [q, if_neg Bool.false_ne_true] at ld
  have e0 : dn_too_much [eB B, days] = .ex "NoDays" [] := by rw [eq_too_much]; unfold b_too_much; simp [l, ld]
  have e1 : dn_wants_too_much [eB B, days, thing] = .ex "NoDays" [] := by rw [eq_wants_too_much]; unfold b_wants_too_much; simp [l, ld]
  have nb := named_days
  rw [eq__law_told_22]; unfold b__law_told_22
  have hdd : door = 0 ∨ door = 1 := by omega
  rcases hdd with rfl | rfl
  · simp [e0, notNonT, x2, nb]
  · simp [e1, notNonT, x2, nb]
theorem wants_eq (ok : B.ok) (h : kd 1 days = true) (q : daysB B.lights.length days = true) (ht : kd 1 thing = true) : (strB B.lights.length thing = false ∧ dn_wants_too_much [eB B, days, thing] = .ok (.bl false)) ∨ (strB B.lights.length thing = true ∧ ∃ b, dn_wants_too_much [eB B, days, thing] = .ok (.bl b)) := by
  have l := look_at_bakery_ok ok
  have ld := look_at_days_eq ok h
  rw [if_pos q] at ld
  obtain ⟨ds, rfl, r⟩ := days_is q
  rw [eq_wants_too_much]; unfold b_wants_too_much
  rcases is_stretch_beyond_eq ok (ds := ds) ht with ⟨a, e⟩ | ⟨a, b, e⟩
  · exact .inl ⟨a, by simp [l, ld, e]⟩
  · exact .inr ⟨a, b, by simp [l, ld, e]⟩
theorem told_ok (ok : B.ok) (h : kd 1 days = true) (q : daysB B.lights.length days = true) (ht : kd 1 thing = true) {door : Nat} (hd : door < 2) : dn__law_told_22 [.int door, eB B, days, thing] = .ok (.str "told") := by
  have w := wants_eq ok h q ht
  have e0 : ∃ u, dn_too_much [eB B, days] = .ok u := by
    have l := look_at_bakery_ok ok
    have ld := look_at_days_eq ok h
    rw [if_pos q] at ld
    obtain ⟨ds, rfl, r⟩ := days_is q
    have s := stretch_beyond_eq ok (dkI ds)
    rw [← dk_eq] at s
    exact ⟨_, by rw [eq_too_much]; unfold b_too_much; simp [l, ld, s]; rfl⟩
  obtain ⟨u, e0⟩ := e0
  obtain ⟨b, e1⟩ : ∃ b, dn_wants_too_much [eB B, days, thing] = .ok (.bl b) := by
    rcases w with ⟨_, e⟩ | ⟨_, b, e⟩
    · exact ⟨_, e⟩
    · exact ⟨b, e⟩
  rw [eq__law_told_22]; unfold b__law_told_22
  have hdd : door = 0 ∨ door = 1 := by omega
  rcases hdd with rfl | rfl
  · simp [e0, notNonT]
  · simp [e1, notNonT]
end
theorem are_days_eq {n : Nat} {t : T} (hn : n ≤ 1000) (h : kd 1 t = true) : dn__law_are_days [t, .int n] = .ok (.bl (daysB n t)) := by
  rw [eq__law_are_days]; unfold b__law_are_days
  cases t with
  | lst ts =>
    obtain ⟨tl, hk⟩ := kd_lst_iff.mp h
    rw [daysB_lst]
    have C : ∀ v0 v1 v2 : Option (T × Bool), v1 = some (.int n, false) → compL (gNm 3) (dNot (dTest (dCall dn__law_number (dCons (dVar 3) (dCons (d2 subT (dVar 1) (dC (.int 1))) dNil))))) (dVar 3) [v0, v1, v2, none] ts = .ok (ts.filter fun t => !Wn n t) := fun v0 v1 v2 e1 => by
      refine comp_not ((n : Int) - 1) ts (fun t ht => kd_kn (hk t ht)) 3 [v0, v1, v2, none] (fun t => by simp) _ (fun t => ?_)
      rw [e1]
      simp
    have C := C (some (.lst ts, false)) _ none rfl
    have z : (ts.filter fun t => !Wn n t).length ≤ 100000 := Nat.le_trans (List.length_filter_le ..) (by omega)
    have f := filter_empty ts (Wn n)
    generalize (ts.filter fun t => !Wn n t) = fl at *
    cases qa : ts.all (Wn n) with
    | false =>
      rw [qa] at f
      simp (disch := omega) [C, fitL_ok z, f]
    | true =>
      rw [qa] at f
      have D := compL_flt (g := gNm 2) (c := dTest (d2 geX (d2 ixT (dVar 0) (d2 subT (dVar 2) (dC (.int 1)))) (d2 ixT (dVar 0) (dVar 2)))) (de := dVar 2) (ev := [some (.lst ts, false), some (.int n, false), none, none]) (fun (i : Nat) => T.int (1 + (i : Int))) (fun (i : Nat) => T.int (1 + (i : Int))) (fun i => !ltB (ts.getD i .non) (ts.getD (i + 1) .non)) (xs := List.range (ts.length - 1)) fun i hi => by
        have hi := List.mem_range.mp hi
        obtain ⟨a, b, e1, e2, e3⟩ := at_next qa hi
        have e0 : (1 : Int) + i - 1 = i := by omega
        rw [cturn_ap, e3]
        by_cases hlt : a < b
        · have no : ¬ (b ≤ a) := by omega
          simp [e2, e0, e1, no, hlt, -getElem?_pos]
        · have yes : b ≤ a := by omega
          simp [e2, e0, e1, yes, hlt, -getElem?_pos]
      have ee : ((ts.length : Int) - 1).toNat = ts.length - 1 := by omega
      have dz : (((List.range (ts.length - 1)).filter fun i => !ltB (ts.getD i .non) (ts.getD (i + 1) .non)).map fun (i : Nat) => T.int (1 + (i : Int))).length ≤ 100000 := by
        rw [List.length_map]
        exact Nat.le_trans (List.length_filter_le ..) (by rw [List.length_range]; omega)
      have de : (((List.range (ts.length - 1)).filter fun i => !ltB (ts.getD i .non) (ts.getD (i + 1) .non)).map fun (i : Nat) => T.int (1 + (i : Int))).isEmpty = risB ts := by
        rw [List.isEmpty_map]
        show ((List.range (ts.length - 1)).filter fun i => !ltB (ts.getD i .non) (ts.getD (i + 1) .non)).isEmpty = (List.range (ts.length - 1)).all fun i => ltB (ts.getD i .non) (ts.getD (i + 1) .non)
        generalize List.range (ts.length - 1) = xs
        induction xs with
        | nil => rfl
        | cons x xs ih =>
          rw [List.filter_cons, List.all_cons]
          cases ltB (ts.getD x .non) (ts.getD (x + 1) .non)
          · rfl
          · exact ih
      generalize (((List.range (ts.length - 1)).filter fun i => !ltB (ts.getD i .non) (ts.getD (i + 1) .non)).map fun (i : Nat) => T.int (1 + (i : Int))) = gl at *
      simp (disch := omega) [C, fitL_ok z, f, ee, rngF_eq, D, fitL_ok dz, de]
  | _ => first | exact Bool.noConfusion (kd_kl h) | (simp [daysB]; done)
theorem is_stretch_eq {n : Nat} {t : T} (h : kd 1 t = true) : dn__law_is_stretch [t, .int n] = .ok (.bl (strB n t)) := by
  rw [eq__law_is_stretch]; unfold b__law_is_stretch
  cases t with
  | tup ts =>
    obtain ⟨tl, hk⟩ := kd_tup_iff.mp h
    by_cases hl : ts.length = 2
    · obtain ⟨a, b, rfl⟩ := len2 hl
      have wa := law_number_eq (kd_kn (hk a (by simp))) ((n : Int) - 1)
      have wb := law_number_eq (kd_kn (hk b (by simp))) ((n : Int) - 1)
      rw [strB_2]
      cases za : Wn n a with
      | false =>
        have wa : dn__law_number [a, .int ((n : Int) - 1)] = .ok (.bl false) := by rw [wa]; exact congrArg _ (congrArg _ za)
        simp [wa]
      | true =>
        have wa : dn__law_number [a, .int ((n : Int) - 1)] = .ok (.bl true) := by rw [wa]; exact congrArg _ (congrArg _ za)
        cases zb : Wn n b with
        | false =>
          have wb : dn__law_number [b, .int ((n : Int) - 1)] = .ok (.bl false) := by rw [wb]; exact congrArg _ (congrArg _ zb)
          simp [wa, wb]
        | true =>
          have wb : dn__law_number [b, .int ((n : Int) - 1)] = .ok (.bl true) := by rw [wb]; exact congrArg _ (congrArg _ zb)
          obtain ⟨f, rfl, hf⟩ := nat_of za
          obtain ⟨l, rfl, hl2⟩ := nat_of zb
          have elt : ltB (.int (l : Int)) (.int (f : Int)) = decide ((l : Int) < (f : Int)) := rfl
          rw [elt]
          by_cases hlt : f ≤ l
          · have : ¬ ((l : Int) < f) := by omega
            simp [wa, wb, hlt]
          · have : ((l : Int) < f) := by omega
            simp [wa, wb, hlt]; omega
    · have hl' : ¬ ((ts.length : Int) = 2) := by omega
      rw [strB_n2 hl]
      simp [hl']
  | _ => first | exact Bool.noConfusion (kd_kl h) | (simp [strB]; done)
theorem odd_days {ts : List T} (h : ∀ t ∈ ts, Odd t) (hl : ts.length ≤ 81) : Pd 3 25000 (.lst ts) := (Pd.lstL (n := 1) (w := 300) (L := 81) (W := 24500) h hl).mono
theorem dk_odd {n : Nat} {ds : List Nat} (r : Rising ds n) (h40 : n ≤ 40) : ∀ t ∈ dkT ds, Odd t := fun t ht => by
  obtain ⟨d, hd, rfl⟩ := List.mem_map.mp ht
  have := r.le d hd
  exact (Pd.int (small (by omega))).mono
theorem days_bent_ok {n : Nat} (h1 : 1 ≤ n) (h40 : n ≤ 40) {ds : List Nat} (r : Rising ds n) (dl : ds.length ≤ n) {dT : List T} {x : Nat → Int} (a1 : dT[1]? = some (.int (x 1))) (a2 : dT[2]? = some (.int (x 2))) (a3 : dT[3]? = some (.int (x 3))) (a4 : dT[4]? = some (.int (x 4))) (a17 : dT[17]? = some (.int (x 17))) (b4 : 0 ≤ x 4 ∧ x 4 < 4) (b17 : 0 ≤ x 17 ∧ x 17 < 8) :
    ∃ t, dn__law_days_bent [.lst (dkT ds), .lst dT, .int n] = .ok t ∧ Pd 3 25000 t := by
  rw [eq__law_days_bent]; unfold b__law_days_bent
  have po := dk_odd r h40
  have pl : (dkT ds).length ≤ 40 := by unfold dkT; simp; omega
  have nz : (dkT ds).length = ds.length := by unfold dkT; simp
  generalize dkT ds = ts at *
  obtain ⟨o, ho, pod⟩ := odd_ok (x 2)
  have e1 : 0 ≤ x 1 % ((ts.length : Int) + 1) := Int.emod_nonneg _ (by omega)
  obtain ⟨k, hk⟩ : ∃ k : Nat, x 1 % ((ts.length : Int) + 1) = k := ⟨(x 1 % ((ts.length : Int) + 1)).toNat, by omega⟩
  have e3 : 0 ≤ x 3 % (n : Int) := Int.emod_nonneg _ (by omega)
  have e3' : x 3 % (n : Int) < n := Int.emod_lt_of_pos _ (by omega)
  have sm : ∀ i : Int, -1000 ≤ i ∧ i ≤ 1000 → Odd (.int i) := fun i h => (Pd.int (small (by omega))).mono
  obtain ⟨w, hw, pw⟩ := pick_ok (P := Odd) (L := [o, .int n, .int (-1), .int (x 3 % (n : Int))]) (i := x 4) rfl b4.1 b4.2 (fun t ht => by
    simp only [List.mem_cons, List.not_mem_nil, or_false] at ht
    rcases ht with rfl | rfl | rfl | rfl
    · exact pod
    · exact sm _ (by omega)
    · exact sm _ (by omega)
    · exact sm _ (by omega))
  have p1 : Pd 3 25000 (.lst (ts.take k ++ [w] ++ ts.drop k)) := odd_days (fun t ht => by
    simp only [List.mem_append, List.mem_singleton] at ht
    rcases ht with (h | h) | h
    · exact po t (List.mem_of_mem_take h)
    · rw [h]; exact pw
    · exact po t (List.mem_of_mem_drop h)) (by simp; omega)
  have p2 : Pd 3 25000 (.tup ts) := (Pd.tupL (n := 1) (w := 300) (L := 81) (W := 24500) po (by omega)).mono
  have p3 : Pd 3 25000 (.lst ts.reverse) := odd_days (fun t ht => po t (List.mem_reverse.mp ht)) (by simp; omega)
  have p4 : Pd 3 25000 (.lst (ts ++ ts)) := odd_days (fun t ht => (List.mem_append.mp ht).elim (po t) (po t)) (by simp; omega)
  have p5 : Pd 3 25000 .non := Pd.non.mono
  have p6 : Pd 3 25000 (.dic []) := Pd.dic.mono
  have p7 : Pd 3 25000 w := pw.mono
  have pD : Pd 2 12082 (.lst ts) := Pd.lstL (n := 1) (w := 300) (L := 40) po pl
  have p8 : Pd 3 25000 (.lst [.lst ts]) := (Pd.lstL (n := 2) (w := 12082) (L := 1) (W := 12086) (fun t ht => by rw [List.mem_singleton.mp ht]; exact pD) (by simp)).mono
  obtain ⟨t, et, ht⟩ := pick_ok (P := Pd 3 25000) (L := [.lst (ts.take k ++ [w] ++ ts.drop k), .tup ts, .lst ts.reverse, .lst (ts ++ ts), .non, .dic [], w, .lst [.lst ts]]) rfl b17.1 b17.2 (fun t ht => by
    simp only [List.mem_cons, List.not_mem_nil, or_false] at ht
    rcases ht with rfl | rfl | rfl | rfl | rfl | rfl | rfl | rfl <;> assumption)
  refine ⟨t, ?_, ht⟩
  have z1 : (ts.take k).length ≤ 1000 := by simp; omega
  have z2 : (ts.drop k).length ≤ 1000 := by simp; omega
  generalize hA : ts.take k = A at *
  generalize hB : ts.drop k = C at *
  generalize hR : ts.reverse = R at *
  simp (disch := omega) [a1, a2, a3, a4, a17, ho, hk, hw, hA, hB, hR, et, -getElem?_pos, -List.append_assoc]
theorem thing_ok {a b : Int} (ha : 0 ≤ a ∧ a < 40) (hb : 0 ≤ b ∧ b < 40) {o : T} (po : Odd o) {n : Nat} (h40 : n ≤ 40) {i : Int} (i0 : 0 ≤ i) (i8 : i < 8) :
    ∃ t, atI [.tup [.int a, .int b], .tup [.int a, o], .tup [o, .int b], .lst [.int a, .int b], .tup [.int a, .int b, o], o, .tup [.int ((n : Int) - 1), .int n], .tup [.int a]] i = some t ∧ Pd 3 25000 t := by
  have sm : ∀ i : Int, -1000 ≤ i ∧ i ≤ 1000 → Odd (.int i) := fun i h => (Pd.int (small (by omega))).mono
  have pa := sm a (by omega)
  have pb := sm b (by omega)
  have pn := sm n (by omega)
  have pm := sm ((n : Int) - 1) (by omega)
  have P : ∀ ts : List T, ts.length ≤ 3 → (∀ t ∈ ts, Odd t) → Pd 3 25000 (.tup ts) := fun ts hl h => (Pd.tupL (n := 1) (w := 300) (L := 3) (W := 909) h hl).mono
  have Q : ∀ ts : List T, ts.length ≤ 3 → (∀ t ∈ ts, Odd t) → Pd 3 25000 (.lst ts) := fun ts hl h => (Pd.lstL (n := 1) (w := 300) (L := 3) (W := 908) h hl).mono
  refine pick_ok (P := Pd 3 25000) rfl i0 i8 (fun t ht => ?_)
  simp only [List.mem_cons, List.not_mem_nil, or_false] at ht
  rcases ht with rfl | rfl | rfl | rfl | rfl | rfl | rfl | rfl
  · exact P _ (by simp) (by simp only [List.mem_cons, List.not_mem_nil, or_false]; rintro t (rfl | rfl) <;> assumption)
  · exact P _ (by simp) (by simp only [List.mem_cons, List.not_mem_nil, or_false]; rintro t (rfl | rfl) <;> assumption)
  · exact P _ (by simp) (by simp only [List.mem_cons, List.not_mem_nil, or_false]; rintro t (rfl | rfl) <;> assumption)
  · exact Q _ (by simp) (by simp only [List.mem_cons, List.not_mem_nil, or_false]; rintro t (rfl | rfl) <;> assumption)
  · exact P _ (by simp) (by simp only [List.mem_cons, List.not_mem_nil, or_false]; rintro t (rfl | rfl | rfl) <;> assumption)
  · exact Pd.mono po
  · exact P _ (by simp) (by simp only [List.mem_cons, List.not_mem_nil, or_false]; rintro t (rfl | rfl) <;> assumption)
  · exact P _ (by simp) (by simp only [List.mem_cons, List.not_mem_nil, or_false]; rintro t rfl; assumption)
theorem law_true (ns : List Int) (hl : ns.length ≤ 63) : dn_law_k44 [.scr ns] = .ok (.bl true) := by
  rw [eq_law_k44]; unfold b_law_k44
  obtain ⟨B, e, ok, hlen⟩ := law_two_ok ns hl 7 (by omega) 4400 (by omega)
  have e' : dn__law_two [.scr ns, .int 7, .int 4400] = .ok (eB B) := e
  have n1 := ok.l1
  have n40 := ok.l2
  have L : forL (gTp 2 (DL.gCons (gNm 3) (DL.gCons (gNm 4) DL.gNil))) b_law_k44_p2 (enumL ((3 :: (ns.drop 7).take 12).map T.int)) [some (.scr ns, false), some (eB B, false), some (.int B.lights.length, false), none, none, none, none, none, none, none, none, none, none, none, none, none] = .nx [some (.scr ns, false), some (eB B, false), some (.int B.lights.length, false), none, none, none, none, none, none, none, none, none, none, none, none, none] := by
    apply forL_same
    intro t ht
    obtain ⟨k, c, rfl, hk⟩ := enum_ints ht
    have hk : k ≤ 60 := by simp at hk; omega
    obtain ⟨dT, x, hn, hdl, hdb, hda⟩ := digits_of c (4420 + k) [64, 7, 18, 6, 4, 8, 3, 3, 6, 6, 9, 2, 8, 18, 4, 40, 8, 8] (by omega) (by simp) (by simp)
    have hD := dg_drop hda 10 (by simp)
    have a0 := hda 0 (by simp)
    have a1 := hda 1 (by simp)
    have a2 := hda 2 (by simp)
    have a3 := hda 3 (by simp)
    have a4 := hda 4 (by simp)
    have a5 := hda 5 (by simp)
    have a6 := hda 6 (by simp)
    have a7 := hda 7 (by simp)
    have a8 := hda 8 (by simp)
    have a9 := hda 9 (by simp)
    have a17 := hda 17 (by simp)
    have b4 := hdb 4 (by simp)
    have b5 := hdb 5 (by simp)
    have b6 := hdb 6 (by simp)
    have b7 := hdb 7 (by simp)
    have b17 := hdb 17 (by simp)
    simp at b4 b5 b6 b7 b17
    obtain ⟨u, hu, pu⟩ := spoilt_ok ok hD
    have pB := bakery_bk ok
    obtain ⟨ds, hds, rs, dl⟩ := dark_eq2 (x 0) B.lights.length (by omega)
    obtain ⟨bt, hb, pb⟩ := days_bent_ok n1 n40 rs dl a1 a2 a3 a4 a17 b4 b17
    have pdk : Pd 3 25000 (.lst (dkT ds)) := odd_days (dk_odd rs n40) (by unfold dkT; simp; omega)
    obtain ⟨o, ho, po⟩ := odd_ok (x 2)
    have q8 : 0 ≤ x 8 % (B.lights.length : Int) ∧ x 8 % (B.lights.length : Int) < 40 := ⟨Int.emod_nonneg _ (by omega), by have := Int.emod_lt_of_pos (x 8) (show (0 : Int) < B.lights.length by omega); omega⟩
    have q9 : 0 ≤ x 9 % (B.lights.length : Int) ∧ x 9 % (B.lights.length : Int) < 40 := ⟨Int.emod_nonneg _ (by omega), by have := Int.emod_lt_of_pos (x 9) (show (0 : Int) < B.lights.length by omega); omega⟩
    obtain ⟨thing, hth, pth⟩ := thing_ok q8 q9 po n40 b5.1 b5.2
    obtain ⟨days, hdy, pdy⟩ := pick_ok (P := Pd 3 25000) (L := [.lst (dkT ds), .lst (dkT ds), bt]) (i := x 6) rfl b6.1 b6.2 (fun t ht => by
      simp only [List.mem_cons, List.not_mem_nil, or_false] at ht
      rcases ht with rfl | rfl | rfl <;> assumption)
    obtain ⟨house, hhs, phs⟩ := pick_ok (P := Bk) (L := [eB B, eB B, u]) (i := x 7) rfl b7.1 b7.2 (fun t ht => by
      simp only [List.mem_cons, List.not_mem_nil, or_false] at ht
      rcases ht with rfl | rfl | rfl <;> assumption)
    have rp : reprL [.lst [house, days, thing]] = some (.str (py (.lst [house, days, thing])).shown) := repr_of (Sh.lst3 (n := 6) phs.sh (pdy.sh.mono (by omega) (Nat.le_refl _)) (pth.sh.mono (by omega) (Nat.le_refl _))) (by decide) (by decide)
    generalize (py (.lst [house, days, thing])).shown = rr at *
    have kh := phs.kd 5
    have kdy := pdy.kd 1
    have kth := pth.kd 1
    have lw := law_wrong_eq kh
    have hx0' : ixT (eB B) (.int 0) = some (.lst (B.lights.map .int)) := by simp [eB]
    have ll : (B.lights.map T.int).length = B.lights.length := by simp
    have sl : cut dT (some 10) none = dT.drop 10 := cut_some_none dT 10
    simp only [List.map_cons, List.map_nil] at hn
    have IL : ∀ (want : Str), (∀ door : Nat, door < 2 → dn__law_told_22 [.int door, house, days, thing] = .ok (.str want)) → ∀ (v0 v1 v2 v3 v4 v5 v6 v7 v8 v9 v13 : Option (T × Bool)), forL (gNm 15) b_law_k44_p1 [.int 0, .int 1] [v0, v1, v2, v3, v4, v5, v6, v7, v8, v9, some (thing, false), some (days, false), some (house, false), v13, some (.str want, false), none] = .nx [v0, v1, v2, v3, v4, v5, v6, v7, v8, v9, some (thing, false), some (days, false), some (house, false), v13, some (.str want, false), none] := fun want hw v0 v1 v2 v3 v4 v5 v6 v7 v8 v9 v13 => by
      apply forL_same
      intro t ht
      have w0 := hw 0 (by omega)
      have w1 := hw 1 (by omega)
      simp only [List.mem_cons, List.not_mem_nil, or_false] at ht
      unfold b_law_k44_p1
      rcases ht with rfl | rfl
      · have w0 : dn__law_told_22 [.int 0, house, days, thing] = .ok (.str want) := w0
        simp [w0]
      · have w1 : dn__law_told_22 [.int 1, house, days, thing] = .ok (.str want) := w1
        simp [w1]
    have s1 : ¬ (Str.ofString "bakery" = Str.ofString "told") := by decide
    have s2 : ¬ (Str.ofString "days" = Str.ofString "told") := by decide
    have rg : rngT 2 = [T.int 0, T.int 1] := by rfl
    unfold b_law_k44_p2
    generalize dT.drop 10 = dE at *
    cases q : bakeryW house with
    | some gd =>
      obtain ⟨g, d⟩ := gd
      rw [q] at lw
      have IL := IL "bakery" (fun door hd => told_no kh q hd)
      generalize B.lights.map T.int = ls at *
      generalize eB B = E at *
      generalize T.lst (dkT ds) = dk at *
      simp (disch := omega) [hn, a0, a1, a2, a3, a4, a5, a6, a7, a8, a9, a17, hds, ho, hth, hb, hdy, sl, hu, hhs, rp, lw, notNonT, IL, rg, s1, s2, -getElem?_pos]
    | none =>
      rw [q] at lw
      obtain ⟨B2, rfl, ok2⟩ := bakery_is q
      have hx2 : ixT (eB B2) (.int 0) = some (.lst (B2.lights.map .int)) := by simp [eB]
      have ll2 : (B2.lights.map T.int).length = B2.lights.length := by simp
      have n42 := ok2.l2
      have ad := are_days_eq (n := B2.lights.length) (by omega) kdy
      have ist := is_stretch_eq (n := B2.lights.length) kth
      cases q2 : daysB B2.lights.length days with
      | false =>
        rw [q2] at ad
        have IL := IL "days" (fun door hd => told_days ok2 kdy q2 hd)
        generalize B2.lights.map T.int = ls2 at *
        generalize eB B2 = E2 at *
        generalize B.lights.map T.int = ls at *
        generalize eB B = E at *
        generalize T.lst (dkT ds) = dk at *
        simp (disch := omega) [hn, a0, a1, a2, a3, a4, a5, a6, a7, a8, a9, a17, hds, ho, hth, hb, hdy, sl, hu, hhs, rp, lw, notNonT, IL, rg, s1, s2, hx2, ll2, ad, -getElem?_pos]
      | true =>
        rw [q2] at ad
        have IL := IL "told" (fun door hd => told_ok ok2 kdy q2 kth hd)
        have w := wants_eq ok2 kdy q2 kth
        generalize B2.lights.map T.int = ls2 at *
        generalize eB B2 = E2 at *
        generalize B.lights.map T.int = ls at *
        generalize eB B = E at *
        generalize T.lst (dkT ds) = dk at *
        rcases w with ⟨s, w⟩ | ⟨s, b, w⟩
        · rw [s] at ist
          simp (disch := omega) [hn, a0, a1, a2, a3, a4, a5, a6, a7, a8, a9, a17, hds, ho, hth, hb, hdy, sl, hu, hhs, rp, lw, notNonT, IL, rg, s1, s2, hx2, ll2, ad, ist, w, -getElem?_pos]
        · rw [s] at ist
          simp (disch := omega) [hn, a0, a1, a2, a3, a4, a5, a6, a7, a8, a9, a17, hds, ho, hth, hb, hdy, sl, hu, hhs, rp, lw, notNonT, IL, rg, s1, s2, hx2, ll2, ad, ist, w, -getElem?_pos]
  have hc : cut ns (some 7) (some 19) = (ns.drop 7).take 12 := cut_ss ns 7 19
  have hcl : ((ns.drop 7).take 12).length ≤ 100 := by simp; omega
  have hx0 : ixT (eB B) (.int 0) = some (.lst (B.lights.map .int)) := by simp [eB]
  have ll : (B.lights.map T.int).length = B.lights.length := by simp
  generalize B.lights.map T.int = ls at *
  generalize eB B = E at *
  simp only [List.map_cons] at L
  generalize (ns.drop 7).take 12 = cells at *
  simp (disch := omega) [e', L, hc, hx0, ll]
end K44

set_option maxHeartbeats 4000000
namespace K44
open PySem PySem.Spec PyProof.Rows L2 DL Pg

def top (i : Nat) : Stmt := PySem.Challenge.pw_bakeahead_k44_no_stretches.main.body.getD i (.Pass ⟨0, 0, 0, 0⟩)
abbrev st_is_whole : Stmt := top 8
theorem sc_is_whole : FnScope ["thing"] ["thing"] (defScope st_is_whole) := ⟨rfl, rfl, rfl, by decide +kernel, rfl, by decide +kernel, by decide +kernel⟩
theorem ok_is_whole {P : Program} {w : World} {K : PySem.W.Frag} {mg : Str → Option Value} {base : Heap} (B : Bi mg) (F : ∃ fd, FunD K "is_whole" "is_whole" (defArgs st_is_whole) (defBody st_is_whole) (defScope st_is_whole) [] [] (He.ga K "is_whole") fd) (hm : mg "is_whole" = some (.ref (He.ga K "is_whole"))) : GF P w K mg base 1 "is_whole" 1 .f dn_is_whole := by
  refine gf_of F hm sc_is_whole (by intro z; cases z) (fun _ _ _ _ _ _ us hl => match us, hl with | [_], _ => rfl) fun cdv A outer s H E S0 cn => ?_
  show PSs _ _ (tS _ K S0 H _ b_is_whole)
  unfold b_is_whole
  exact (ss_one (s_retF (e_andV (wk (e_isi B.isinstance B.int_ (by decide +kernel) (by decide) (wk (e_var 0)))) (e_one (e_notV (wk (e_isi B.isinstance B.bool_ (by decide +kernel) (by decide) (wk (e_var 0)))))))))
abbrev st_is_within : Stmt := top 9
theorem sc_is_within : FnScope ["thing", "least", "most"] ["thing", "least", "most"] (defScope st_is_within) := ⟨rfl, rfl, rfl, by decide +kernel, rfl, by decide +kernel, by decide +kernel⟩
theorem ok_is_within {P : Program} {w : World} {K : PySem.W.Frag} {mg : Str → Option Value} {base : Heap} (B : Bi mg) (F : ∃ fd, FunD K "is_within" "is_within" (defArgs st_is_within) (defBody st_is_within) (defScope st_is_within) [] [] (He.ga K "is_within") fd) (hm : mg "is_within" = some (.ref (He.ga K "is_within"))) (g_is_whole : GF P w K mg base 1 "is_whole" 1 .f dn_is_whole) : GF P w K mg base 2 "is_within" 3 .f dn_is_within := by
  refine gf_of F hm sc_is_within (by intro z; cases z) (fun _ _ _ _ _ _ us hl => match us, hl with | [_, _, _], _ => rfl) fun cdv A outer s H E S0 cn => ?_
  show PSs _ _ (tS _ K S0 H _ b_is_within)
  unfold b_is_within
  exact (ss_one (s_retF (e_andV (wk (e_call cn (GF.mono g_is_whole) (a_cons (e_var 0) a_nil) (n_cons n_nil))) (e_one (e_chain op_le op_le (int0 cmpOk) (int0 cmpOk) (wk (e_var 1)) (wk (e_var 0)) (wk (e_var 2)))))))
abbrev st_is_number : Stmt := top 10
theorem sc_is_number : FnScope ["thing"] ["thing"] (defScope st_is_number) := ⟨rfl, rfl, rfl, by decide +kernel, rfl, by decide +kernel, by decide +kernel⟩
theorem ok_is_number {P : Program} {w : World} {K : PySem.W.Frag} {mg : Str → Option Value} {base : Heap} (B : Bi mg) (h_MOST : ∃ t, mg "MOST" = some (.int 1000000000 t)) (F : ∃ fd, FunD K "is_number" "is_number" (defArgs st_is_number) (defBody st_is_number) (defScope st_is_number) [] [] (He.ga K "is_number") fd) (hm : mg "is_number" = some (.ref (He.ga K "is_number"))) (g_is_within : GF P w K mg base 2 "is_within" 3 .f dn_is_within) : GF P w K mg base 3 "is_number" 1 .f dn_is_number := by
  refine gf_of F hm sc_is_number (by intro z; cases z) (fun _ _ _ _ _ _ us hl => match us, hl with | [_], _ => rfl) fun cdv A outer s H E S0 cn => ?_
  show PSs _ _ (tS _ K S0 H _ b_is_number)
  unfold b_is_number
  exact (ss_one (s_retF (e_call cn (GF.mono g_is_within) (a_cons (e_var 0) (a_cons e_int (a_cons (e_gint h_MOST) a_nil))) (n_cons (n_cons (n_cons n_nil))))))
abbrev st_is_day : Stmt := top 15
theorem sc_is_day : FnScope ["thing", "part"] ["thing"] (defScope st_is_day) := ⟨rfl, rfl, rfl, by decide +kernel, rfl, by decide +kernel, by decide +kernel⟩
theorem ok_is_day {P : Program} {w : World} {K : PySem.W.Frag} {mg : Str → Option Value} {base : Heap} (B : Bi mg) (F : ∃ fd, FunD K "is_day" "is_day" (defArgs st_is_day) (defBody st_is_day) (defScope st_is_day) [] [] (He.ga K "is_day") fd) (hm : mg "is_day" = some (.ref (He.ga K "is_day"))) (g_is_number : GF P w K mg base 3 "is_number" 1 .f dn_is_number) : GF P w K mg base 4 "is_day" 1 .s dn_is_day := by
  refine gf_of F hm sc_is_day (by intro z; cases z) (fun _ _ _ _ _ _ us hl => match us, hl with | [_], _ => rfl) fun cdv A outer s H E S0 cn => ?_
  show PSs _ _ (tS _ K S0 H _ b_is_day)
  unfold b_is_day
  exact (ss_cons (s_if (PW.pt (tw_or (t_not (tst_of (e_isi B.isinstance B.tuple_ (by decide +kernel) (by decide) (wk (e_var 0))))) (pw_or1 (t_ne cn (wk (e_len B.len (wk (e_var 0)))) (wk e_int)))))
 (ss_one (s_retS e_bl))
 ss_nil)
 (ss_one (s_retS (fs (e_andV (wk (e_all cn B.all_ (wk (e_comp cn (i_seq (by intro z; cases z) (wk (e_slice (wk (e_var 0)) o_none (o_some (wk e_int))))) (own := [("part", 1)]) (by kernel_rfl) (fun _ _ _ _ _ _ nd calm => (g_nm nd 1)) (gk_nm (by decide)) (fun _ _ _ _ _ _ cn => ts_nil) (fun _ _ _ _ _ _ cn => (fs (e_call cn (GF.mono g_is_number) (a_cons (e_var 1) a_nil) (n_cons n_nil)))))))) (e_one (e_orV (wk (e_isN (wk (e_ix (wk (e_var 0)) (wk e_int))))) (e_one (e_call cn (GF.mono g_is_number) (a_cons (e_ix (wk (e_var 0)) (wk e_int)) a_nil) (n_cons n_nil))))))))))
abbrev st_are_lights : Stmt := top 16
theorem sc_are_lights : FnScope ["thing", "light"] ["thing"] (defScope st_are_lights) := ⟨rfl, rfl, rfl, by decide +kernel, rfl, by decide +kernel, by decide +kernel⟩
theorem ok_are_lights {P : Program} {w : World} {K : PySem.W.Frag} {mg : Str → Option Value} {base : Heap} (B : Bi mg) (h_MOST_DAYS : ∃ t, mg "MOST_DAYS" = some (.int 40 t)) (F : ∃ fd, FunD K "are_lights" "are_lights" (defArgs st_are_lights) (defBody st_are_lights) (defScope st_are_lights) [] [] (He.ga K "are_lights") fd) (hm : mg "are_lights" = some (.ref (He.ga K "are_lights"))) (g_is_number : GF P w K mg base 3 "is_number" 1 .f dn_is_number) : GF P w K mg base 4 "are_lights" 1 .f dn_are_lights := by
  refine gf_of F hm sc_are_lights (by intro z; cases z) (fun _ _ _ _ _ _ us hl => match us, hl with | [_], _ => rfl) fun cdv A outer s H E S0 cn => ?_
  show PSs _ _ (tS _ K S0 H _ b_are_lights)
  unfold b_are_lights
  exact (ss_one (s_retF (e_andV (wk (e_isi B.isinstance B.list_ (by decide +kernel) (by decide) (wk (e_var 0)))) (e_andV (wk (e_chain op_le op_le (int0 cmpOk) (int0 cmpOk) (wk e_int) (wk (e_len B.len (wk (e_var 0)))) (wk (e_gint h_MOST_DAYS)))) (e_one (e_all cn B.all_ (wk (e_comp cn (i_seq (by intro z; cases z) (wk (e_var 0))) (own := [("light", 1)]) (by kernel_rfl) (fun _ _ _ _ _ _ nd calm => (g_nm nd 1)) (gk_nm (by decide)) (fun _ _ _ _ _ _ cn => ts_nil) (fun _ _ _ _ _ _ cn => (fs (e_call cn (GF.mono g_is_number) (a_cons (e_var 1) a_nil) (n_cons n_nil))))))))))))
abbrev st_is_frame : Stmt := top 17
theorem sc_is_frame : FnScope ["thing"] ["thing"] (defScope st_is_frame) := ⟨rfl, rfl, rfl, by decide +kernel, rfl, by decide +kernel, by decide +kernel⟩
theorem ok_is_frame {P : Program} {w : World} {K : PySem.W.Frag} {mg : Str → Option Value} {base : Heap} (B : Bi mg) (h_MOST_GOODS : ∃ t, mg "MOST_GOODS" = some (.int 2 t)) (h_MOST : ∃ t, mg "MOST" = some (.int 1000000000 t)) (F : ∃ fd, FunD K "is_frame" "is_frame" (defArgs st_is_frame) (defBody st_is_frame) (defScope st_is_frame) [] [] (He.ga K "is_frame") fd) (hm : mg "is_frame" = some (.ref (He.ga K "is_frame"))) (g_is_within : GF P w K mg base 2 "is_within" 3 .f dn_is_within) (g_are_lights : GF P w K mg base 4 "are_lights" 1 .f dn_are_lights) : GF P w K mg base 5 "is_frame" 1 .s dn_is_frame := by
  refine gf_of F hm sc_is_frame (by intro z; cases z) (fun _ _ _ _ _ _ us hl => match us, hl with | [_], _ => rfl) fun cdv A outer s H E S0 cn => ?_
  show PSs _ _ (tS _ K S0 H _ b_is_frame)
  unfold b_is_frame
  exact (ss_cons (s_if (PW.pt (tw_or (t_not (tst_of (e_isi B.isinstance B.tuple_ (by decide +kernel) (by decide) (wk (e_var 0))))) (tw_or (t_ne cn (wk (e_len B.len (wk (e_var 0)))) (wk e_int)) (pw_or1 (t_not (tst_of (e_call cn (GF.mono g_are_lights) (a_cons (e_ix (wk (e_var 0)) (wk e_int)) a_nil) (n_cons n_nil))))))))
 (ss_one (s_retS e_bl))
 ss_nil)
 (ss_cons (s_if (PW.pt (tw_and (t_notN (wk (e_ix (wk (e_var 0)) (wk e_int)))) (pw_and1 (t_not (tst_of (e_call cn (GF.mono g_is_within) (a_cons (e_ix (wk (e_var 0)) (wk e_int)) (a_cons e_int (a_cons (e_gint h_MOST) a_nil))) (n_cons (n_cons (n_cons n_nil)))))))))
 (ss_one (s_retS e_bl))
 ss_nil)
 (ss_one (s_retS (fs (e_andV (wk (e_isi B.isinstance B.list_ (by decide +kernel) (by decide) (wk (e_ix (wk (e_var 0)) (wk e_int))))) (e_one (e_chain op_le op_le (int0 cmpOk) (int0 cmpOk) (wk e_int) (wk (e_len B.len (wk (e_ix (wk (e_var 0)) (wk e_int))))) (wk (e_gint h_MOST_GOODS))))))))))
abbrev st_look_at_good : Stmt := top 18
theorem sc_look_at_good : FnScope ["number", "good", "many", "day", "row"] ["number", "good", "many"] (defScope st_look_at_good) := ⟨rfl, rfl, rfl, by decide +kernel, rfl, by decide +kernel, by decide +kernel⟩
theorem ok_look_at_good {P : Program} {w : World} {K : PySem.W.Frag} {mg : Str → Option Value} {base : Heap} (B : Bi mg) (h_MOST_LIFE : ∃ t, mg "MOST_LIFE" = some (.int 40 t)) (rx_NoBakery : RXF P w K mg base "NoBakery" ["good", "day"]) (F : ∃ fd, FunD K "look_at_good" "look_at_good" (defArgs st_look_at_good) (defBody st_look_at_good) (defScope st_look_at_good) [] [] (He.ga K "look_at_good") fd) (hm : mg "look_at_good" = some (.ref (He.ga K "look_at_good"))) (g_is_day : GF P w K mg base 4 "is_day" 1 .s dn_is_day) (g_is_within : GF P w K mg base 2 "is_within" 3 .f dn_is_within) : GF P w K mg base 5 "look_at_good" 3 .f dn_look_at_good := by
  refine gf_of F hm sc_look_at_good (by intro z; cases z) (fun _ _ _ _ _ _ us hl => match us, hl with | [_, _, _], _ => rfl) fun cdv A outer s H E S0 cn => ?_
  show PSs _ _ (tS _ K S0 H _ b_look_at_good)
  unfold b_look_at_good b_look_at_good_p1
  exact (ss_cons (s_if (PW.pt (tw_or (t_not (tst_of (e_isi B.isinstance B.tuple_ (by decide +kernel) (by decide) (wk (e_var 1))))) (tw_or (t_ne cn (wk (e_len B.len (wk (e_var 1)))) (wk e_int)) (tw_or (t_not (tst_of (e_isi B.isinstance B.list_ (by decide +kernel) (by decide) (wk (e_ix (wk (e_var 1)) (wk e_int)))))) (pw_or1 (t_ne cn (wk (e_len B.len (wk (e_ix (wk (e_var 1)) (wk e_int))))) (wk (e_var 2))))))))
 (ss_one (s_raiseF cn rx_NoBakery (a_cons (e_var 0) (a_cons e_non a_nil))))
 ss_nil)
 (ss_cons (s_if (PW.pt (tw_and (t_notN (wk (e_ix (wk (e_var 1)) (wk e_int)))) (pw_and1 (t_not (tst_of (e_call cn (GF.mono g_is_within) (a_cons (e_ix (wk (e_var 1)) (wk e_int)) (a_cons e_int (a_cons (e_gint h_MOST_LIFE) a_nil))) (n_cons (n_cons (n_cons n_nil)))))))))
 (ss_one (s_raiseF cn rx_NoBakery (a_cons (e_var 0) (a_cons e_non a_nil))))
 ss_nil)
 (ss_one (wp0 [3, 4] (s_for (vs := [3, 4]) cn (i_enum B.enumerate (by intro z; cases z) (e_ix (wk (e_var 1)) (wk e_int))) (g_tp cn.calm (g_cons (g_nm cn.nd 3) (g_cons (g_nm cn.nd 4) g_nil)))
 (wpe [3, 4] (ss_one (s_if (t_not (tst_of (e_call cn (GF.mono g_is_day) (a_cons (e_var 4) a_nil) (n_cons n_nil))))
 (ss_one (s_raiseF cn rx_NoBakery (a_cons (e_var 0) (a_cons (e_var 3) a_nil))))
 ss_nil))))))))
abbrev st_look_at_bakery : Stmt := top 19
theorem sc_look_at_bakery : FnScope ["thing", "number", "good"] ["thing"] (defScope st_look_at_bakery) := ⟨rfl, rfl, rfl, by decide +kernel, rfl, by decide +kernel, by decide +kernel⟩
theorem ok_look_at_bakery {P : Program} {w : World} {K : PySem.W.Frag} {mg : Str → Option Value} {base : Heap} (B : Bi mg) (rx_NoBakery : RXF P w K mg base "NoBakery" ["good", "day"]) (F : ∃ fd, FunD K "look_at_bakery" "look_at_bakery" (defArgs st_look_at_bakery) (defBody st_look_at_bakery) (defScope st_look_at_bakery) [] [] (He.ga K "look_at_bakery") fd) (hm : mg "look_at_bakery" = some (.ref (He.ga K "look_at_bakery"))) (g_look_at_good : GF P w K mg base 5 "look_at_good" 3 .f dn_look_at_good) (g_is_frame : GF P w K mg base 5 "is_frame" 1 .s dn_is_frame) : GF P w K mg base 6 "look_at_bakery" 1 .f dn_look_at_bakery := by
  refine gf_of F hm sc_look_at_bakery (by intro z; cases z) (fun _ _ _ _ _ _ us hl => match us, hl with | [_], _ => rfl) fun cdv A outer s H E S0 cn => ?_
  show PSs _ _ (tS _ K S0 H _ b_look_at_bakery)
  unfold b_look_at_bakery b_look_at_bakery_p1
  exact (ss_cons (s_if (t_not (tst_of (e_call cn (GF.mono g_is_frame) (a_cons (e_var 0) a_nil) (n_cons n_nil))))
 (ss_one (s_raiseF cn rx_NoBakery (a_cons e_non (a_cons e_non a_nil))))
 ss_nil)
 (ss_one (wp0 [1, 2] (s_for (vs := [1, 2]) cn (i_enum B.enumerate (by intro z; cases z) (e_ix (wk (e_var 0)) (wk e_int))) (g_tp cn.calm (g_cons (g_nm cn.nd 1) (g_cons (g_nm cn.nd 2) g_nil)))
 (wpe [1, 2] (ss_one (s_expr (e_call cn (GF.mono g_look_at_good) (a_cons (e_var 1) (a_cons (e_var 2) (a_cons (fs (e_len B.len (wk (e_ix (wk (e_var 0)) (wk e_int))))) a_nil))) (n_cons (n_cons (n_cons n_nil)))))))))))
abbrev st_look_at_days : Stmt := top 20
theorem sc_look_at_days : FnScope ["bakery", "thing", "place", "day"] ["bakery", "thing"] (defScope st_look_at_days) := ⟨rfl, rfl, rfl, by decide +kernel, rfl, by decide +kernel, by decide +kernel⟩
theorem ok_look_at_days {P : Program} {w : World} {K : PySem.W.Frag} {mg : Str → Option Value} {base : Heap} (B : Bi mg) (rx_NoDays : RX0 K mg "NoDays") (F : ∃ fd, FunD K "look_at_days" "look_at_days" (defArgs st_look_at_days) (defBody st_look_at_days) (defScope st_look_at_days) [] [] (He.ga K "look_at_days") fd) (hm : mg "look_at_days" = some (.ref (He.ga K "look_at_days"))) (g_is_within : GF P w K mg base 2 "is_within" 3 .f dn_is_within) : GF P w K mg base 3 "look_at_days" 2 .f dn_look_at_days := by
  refine gf_of F hm sc_look_at_days (by intro z; cases z) (fun _ _ _ _ _ _ us hl => match us, hl with | [_, _], _ => rfl) fun cdv A outer s H E S0 cn => ?_
  show PSs _ _ (tS _ K S0 H _ b_look_at_days)
  unfold b_look_at_days b_look_at_days_p1
  exact (ss_cons (s_if (PW.pt (tw_or (t_not (tst_of (e_isi B.isinstance B.list_ (by decide +kernel) (by decide) (wk (e_var 1))))) (pw_or1 (t_not (tst_of (e_all cn B.all_ (wk (e_comp cn (i_seq (by intro z; cases z) (wk (e_var 1))) (own := [("day", 3)]) (by kernel_rfl) (fun _ _ _ _ _ _ nd calm => (g_nm nd 3)) (gk_nm (by decide)) (fun _ _ _ _ _ _ cn => ts_nil) (fun _ _ _ _ _ _ cn => (fs (e_call cn (GF.mono g_is_within) (a_cons (e_var 3) (a_cons e_int (a_cons (fs (e_sub (wk (e_len B.len (wk (e_ix (wk (e_var 0)) (wk e_int))))) (wk e_int))) a_nil))) (n_cons (n_cons (n_cons n_nil))))))))))))))
 (ss_one (s_raise0 cn rx_NoDays))
 ss_nil)
 (ss_one (wp0 [2] (s_for (vs := [2]) cn (i_rng2 B.range (w_cons (wk e_int) (w_cons (wk (e_len B.len (wk (e_var 1)))) w_nil))) (g_nm cn.nd 2)
 (wpe [2] (ss_one (s_if (t_geX cn (wk (e_ix (wk (e_var 1)) (wk (e_sub (wk (e_var 2)) (wk e_int))))) (wk (e_ix (wk (e_var 1)) (wk (e_var 2)))))
 (ss_one (s_raise0 cn rx_NoDays))
 ss_nil)))))))
abbrev st_reach_of : Stmt := top 22
theorem sc_reach_of : FnScope ["good", "given", "first", "last", "days", "life"] ["good", "given"] (defScope st_reach_of) := ⟨rfl, rfl, rfl, by decide +kernel, rfl, by decide +kernel, by decide +kernel⟩
theorem ok_reach_of {P : Program} {w : World} {K : PySem.W.Frag} {mg : Str → Option Value} {base : Heap} (B : Bi mg) (F : ∃ fd, FunD K "reach_of" "reach_of" (defArgs st_reach_of) (defBody st_reach_of) (defScope st_reach_of) [] [] (He.ga K "reach_of") fd) (hm : mg "reach_of" = some (.ref (He.ga K "reach_of"))) : GF P w K mg base 1 "reach_of" 2 .f dn_reach_of := by
  refine gf_of F hm sc_reach_of (by intro z; cases z) (fun _ _ _ _ _ _ us hl => match us, hl with | [_, _], _ => rfl) fun cdv A outer s H E S0 cn => ?_
  show PSs _ _ (tS _ K S0 H _ b_reach_of)
  unfold b_reach_of b_reach_of_p2 b_reach_of_p1
  exact (ss_cons (s_asg (vs := [4, 5]) (e_var 0) (g_tp cn.calm (g_cons (g_nm cn.nd 4) (g_cons (g_nm cn.nd 5) g_nil))))
 (ss_cons (s_set cn 2 e_int)
 (ss_cons (s_if (t_notN (wk (e_var 5)))
 (ss_one (s_set cn 2 (fs (e_max2 cn B.max_ (w_cons (wk e_int) (w_cons (wk (e_sub (wk (e_var 1)) (wk (e_var 5)))) w_nil))))))
 ss_nil)
 (ss_cons (s_set cn 3 (e_var 1))
 (ss_cons (wp0 [] (s_while cn fuel (PW.pt (tw_and (t_lt (wk (e_var 3)) (wk (e_sub (wk (e_len B.len (wk (e_var 4)))) (wk e_int)))) (pw_and1 (t_notN (wk (e_ix (wk (e_ix (wk (e_var 4)) (wk (e_var 3)))) (wk e_int)))))))
 (wpe [] (ss_one (s_augAdd cn 3 (wk e_int))))))
 (ss_one (s_retF (e_tup (a_cons (e_var 2) (a_cons (e_var 3) a_nil))))))))))
abbrev st_reaches_of : Stmt := top 24
theorem sc_reaches_of : FnScope ["bakery", "found", "good", "given", "row", "first", "last"] ["bakery"] (defScope st_reaches_of) := ⟨rfl, rfl, rfl, by decide +kernel, rfl, by decide +kernel, by decide +kernel⟩
theorem ok_reaches_of {P : Program} {w : World} {K : PySem.W.Frag} {mg : Str → Option Value} {base : Heap} (B : Bi mg) (F : ∃ fd, FunD K "reaches_of" "reaches_of" (defArgs st_reaches_of) (defBody st_reaches_of) (defScope st_reaches_of) [] [] (He.ga K "reaches_of") fd) (hm : mg "reaches_of" = some (.ref (He.ga K "reaches_of"))) (g_reach_of : GF P w K mg base 1 "reach_of" 2 .f dn_reach_of) : GF P w K mg base 2 "reaches_of" 1 .f dn_reaches_of := by
  refine gf_of F hm sc_reaches_of (by intro z; cases z) (fun _ _ _ _ _ _ us hl => match us, hl with | [_], _ => rfl) fun cdv A outer s H E S0 cn => ?_
  show PSs _ _ (tS _ K S0 H _ b_reaches_of)
  unfold b_reaches_of b_reaches_of_p2 b_reaches_of_p1
  exact (ss_cons (s_setF cn 1 (e_list a_nil))
 (ss_cons (wp0 [2, 3, 4, 5, 6] (s_for (vs := [2]) cn (i_seq (by intro z; cases z) (e_ix (wk (e_var 0)) (wk e_int))) (g_nm cn.nd 2)
 (wpe [2, 3, 4, 5, 6] (ss_one (wp0 [3, 4, 5, 6] (s_for (vs := [3, 4]) cn (i_enum B.enumerate (by intro z; cases z) (e_ix (wk (e_var 2)) (wk e_int))) (g_tp cn.calm (g_cons (g_nm cn.nd 3) (g_cons (g_nm cn.nd 4) g_nil)))
 (wpe [3, 4, 5, 6] (ss_cons (s_asg (vs := [5, 6]) (fs (e_call cn (GF.mono g_reach_of) (a_cons (e_var 2) (a_cons (e_var 3) a_nil)) (n_cons (n_cons n_nil)))) (g_tp cn.calm (g_cons (g_nm cn.nd 5) (g_cons (g_nm cn.nd 6) g_nil))))
 (ss_one (s_append 1 (fs (e_tup (a_cons (e_var 5) (a_cons (e_var 6) (a_cons (e_ix (wk (e_var 4)) (wk e_int)) a_nil)))))))))))))))
 (ss_one (s_retOF 1))))
abbrev st_is_beyond : Stmt := top 25
theorem sc_is_beyond : FnScope ["bakery", "dark", "reaches", "first", "last", "needed", "days", "day", "begin", "end", "many"] ["bakery", "dark", "reaches", "first", "last"] (defScope st_is_beyond) := ⟨rfl, rfl, rfl, by decide +kernel, rfl, by decide +kernel, by decide +kernel⟩
theorem ok_is_beyond {P : Program} {w : World} {K : PySem.W.Frag} {mg : Str → Option Value} {base : Heap} (B : Bi mg) (F : ∃ fd, FunD K "is_beyond" "is_beyond" (defArgs st_is_beyond) (defBody st_is_beyond) (defScope st_is_beyond) [] [] (He.ga K "is_beyond") fd) (hm : mg "is_beyond" = some (.ref (He.ga K "is_beyond"))) : GF P w K mg base 1 "is_beyond" 5 .f dn_is_beyond := by
  refine gf_of F hm sc_is_beyond (by intro z; cases z) (fun _ _ _ _ _ _ us hl => match us, hl with | [_, _, _, _, _], _ => rfl) fun cdv A outer s H E S0 cn => ?_
  show PSs _ _ (tS _ K S0 H _ b_is_beyond)
  unfold b_is_beyond
  exact (ss_cons (s_set cn 5 (fs (e_sum cn B.sum_ (wk (e_comp cn (i_seq (by intro z; cases z) (wk (e_var 2))) (own := [("begin", 8), ("end", 9), ("many", 10)]) (by kernel_rfl) (fun _ _ _ _ _ _ nd calm => (g_tp calm (g_cons (g_nm nd 8) (g_cons (g_nm nd 9) (g_cons (g_nm nd 10) g_nil))))) (gk_tp (gk_cons (gk_nm (by decide)) (gk_cons (gk_nm (by decide)) (gk_cons (gk_nm (by decide)) gk_nil)))) (fun _ _ _ _ _ _ cn => (ts_one (PW.pt (tw_and (t_le (wk (e_var 3)) (wk (e_var 8))) (pw_and1 (t_le (wk (e_var 9)) (wk (e_var 4)))))))) (fun _ _ _ _ _ _ cn => (e_var 10)))))))
 (ss_cons (s_set cn 6 (fs (e_len B.len (wk (e_comp cn (i_rng2 B.range (w_cons (wk (e_var 3)) (w_cons (wk (e_add (wk (e_var 4)) (wk e_int))) w_nil))) (own := [("day", 7)]) (by kernel_rfl) (fun _ _ _ _ _ _ nd calm => (g_nm nd 7)) (gk_nm (by decide)) (fun _ _ _ _ _ _ cn => (ts_one (t_nin cn (wk (e_var 7)) (wk (e_var 1))))) (fun _ _ _ _ _ _ cn => (e_var 7)))))))
 (ss_cons (s_if (t_isN (wk (e_ix (wk (e_var 0)) (wk e_int))))
 (ss_one (s_retF (e_andV (wk (e_gt (wk (e_var 5)) (wk e_int))) (e_one (e_eq cn (wk (e_var 6)) (wk e_int))))))
 ss_nil)
 (ss_one (s_retF (e_gt (wk (e_var 5)) (wk (e_mul (wk (e_ix (wk (e_var 0)) (wk e_int))) (wk (e_var 6))))))))))
abbrev st_stretch_beyond : Stmt := top 26
theorem sc_stretch_beyond : FnScope ["bakery", "dark", "reaches", "many", "first", "last"] ["bakery", "dark"] (defScope st_stretch_beyond) := ⟨rfl, rfl, rfl, by decide +kernel, rfl, by decide +kernel, by decide +kernel⟩
theorem ok_stretch_beyond {P : Program} {w : World} {K : PySem.W.Frag} {mg : Str → Option Value} {base : Heap} (B : Bi mg) (F : ∃ fd, FunD K "stretch_beyond" "stretch_beyond" (defArgs st_stretch_beyond) (defBody st_stretch_beyond) (defScope st_stretch_beyond) [] [] (He.ga K "stretch_beyond") fd) (hm : mg "stretch_beyond" = some (.ref (He.ga K "stretch_beyond"))) (g_is_beyond : GF P w K mg base 1 "is_beyond" 5 .f dn_is_beyond) (g_reaches_of : GF P w K mg base 2 "reaches_of" 1 .f dn_reaches_of) : GF P w K mg base 3 "stretch_beyond" 2 .s dn_stretch_beyond := by
  refine gf_of F hm sc_stretch_beyond (by intro z; cases z) (fun _ _ _ _ _ _ us hl => match us, hl with | [_, _], _ => rfl) fun cdv A outer s H E S0 cn => ?_
  show PSs _ _ (tS _ K S0 H _ b_stretch_beyond)
  unfold b_stretch_beyond b_stretch_beyond_p2 b_stretch_beyond_p1
  exact (ss_cons (s_set cn 2 (fs (e_call cn (GF.mono g_reaches_of) (a_cons (e_var 0) a_nil) (n_cons n_nil))))
 (ss_cons (s_set cn 3 (fs (e_len B.len (wk (e_ix (wk (e_var 0)) (wk e_int))))))
 (ss_cons (wp0 [4, 5] (s_for (vs := [4]) cn (i_rng1 B.range (wk (e_var 3))) (g_nm cn.nd 4)
 (wpe [4, 5] (ss_one (wp0 [5] (s_for (vs := [5]) cn (i_rng2 B.range (w_cons (wk (e_var 4)) (w_cons (wk (e_var 3)) w_nil))) (g_nm cn.nd 5)
 (wpe [5] (ss_one (s_if (tst_of (e_call cn (GF.mono g_is_beyond) (a_cons (e_var 0) (a_cons (e_var 1) (a_cons (e_var 2) (a_cons (e_var 4) (a_cons (e_var 5) a_nil))))) (n_cons (n_cons (n_cons (n_cons (n_cons n_nil)))))))
 (ss_one (s_retS (fs (e_tup (a_cons (e_var 4) (a_cons (e_var 5) a_nil))))))
 ss_nil)))))))))
 (ss_one (s_retS e_non)))))
abbrev st_too_much : Stmt := top 27
theorem sc_too_much : FnScope ["bakery", "dark"] ["bakery", "dark"] (defScope st_too_much) := ⟨rfl, rfl, rfl, by decide +kernel, rfl, by decide +kernel, by decide +kernel⟩
theorem ok_too_much {P : Program} {w : World} {K : PySem.W.Frag} {mg : Str → Option Value} {base : Heap} (B : Bi mg) (F : ∃ fd, FunD K "too_much" "too_much" (defArgs st_too_much) (defBody st_too_much) (defScope st_too_much) [] [] (He.ga K "too_much") fd) (hm : mg "too_much" = some (.ref (He.ga K "too_much"))) (g_stretch_beyond : GF P w K mg base 3 "stretch_beyond" 2 .s dn_stretch_beyond) (g_look_at_days : GF P w K mg base 3 "look_at_days" 2 .f dn_look_at_days) (g_look_at_bakery : GF P w K mg base 6 "look_at_bakery" 1 .f dn_look_at_bakery) : GF P w K mg base 7 "too_much" 2 .s dn_too_much := by
  refine gf_of F hm sc_too_much (by intro z; cases z) (fun _ _ _ _ _ _ us hl => match us, hl with | [_, _], _ => rfl) fun cdv A outer s H E S0 cn => ?_
  show PSs _ _ (tS _ K S0 H _ b_too_much)
  unfold b_too_much
  exact (ss_cons (s_expr (e_call cn (GF.mono g_look_at_bakery) (a_cons (e_var 0) a_nil) (n_cons n_nil)))
 (ss_cons (s_expr (e_call cn (GF.mono g_look_at_days) (a_cons (e_var 0) (a_cons (e_var 1) a_nil)) (n_cons (n_cons n_nil))))
 (ss_one (s_retS (e_call cn (GF.mono g_stretch_beyond) (a_cons (e_var 0) (a_cons (e_var 1) a_nil)) (n_cons (n_cons n_nil)))))))
abbrev st_is_stretch_beyond : Stmt := top 28
theorem sc_is_stretch_beyond : FnScope ["bakery", "dark", "thing", "day"] ["bakery", "dark", "thing"] (defScope st_is_stretch_beyond) := ⟨rfl, rfl, rfl, by decide +kernel, rfl, by decide +kernel, by decide +kernel⟩
theorem ok_is_stretch_beyond {P : Program} {w : World} {K : PySem.W.Frag} {mg : Str → Option Value} {base : Heap} (B : Bi mg) (F : ∃ fd, FunD K "is_stretch_beyond" "is_stretch_beyond" (defArgs st_is_stretch_beyond) (defBody st_is_stretch_beyond) (defScope st_is_stretch_beyond) [] [] (He.ga K "is_stretch_beyond") fd) (hm : mg "is_stretch_beyond" = some (.ref (He.ga K "is_stretch_beyond"))) (g_is_beyond : GF P w K mg base 1 "is_beyond" 5 .f dn_is_beyond) (g_reaches_of : GF P w K mg base 2 "reaches_of" 1 .f dn_reaches_of) (g_is_within : GF P w K mg base 2 "is_within" 3 .f dn_is_within) : GF P w K mg base 3 "is_stretch_beyond" 3 .s dn_is_stretch_beyond := by
  refine gf_of F hm sc_is_stretch_beyond (by intro z; cases z) (fun _ _ _ _ _ _ us hl => match us, hl with | [_, _, _], _ => rfl) fun cdv A outer s H E S0 cn => ?_
  show PSs _ _ (tS _ K S0 H _ b_is_stretch_beyond)
  unfold b_is_stretch_beyond
  exact (ss_cons (s_if (PW.pt (tw_or (t_not (tst_of (e_isi B.isinstance B.tuple_ (by decide +kernel) (by decide) (wk (e_var 2))))) (pw_or1 (t_ne cn (wk (e_len B.len (wk (e_var 2)))) (wk e_int)))))
 (ss_one (s_retS e_bl))
 ss_nil)
 (ss_cons (s_if (PW.pt (tw_or (t_not (tst_of (e_all cn B.all_ (wk (e_comp cn (i_seq (by intro z; cases z) (wk (e_var 2))) (own := [("day", 3)]) (by kernel_rfl) (fun _ _ _ _ _ _ nd calm => (g_nm nd 3)) (gk_nm (by decide)) (fun _ _ _ _ _ _ cn => ts_nil) (fun _ _ _ _ _ _ cn => (fs (e_call cn (GF.mono g_is_within) (a_cons (e_var 3) (a_cons e_int (a_cons (fs (e_sub (wk (e_len B.len (wk (e_ix (wk (e_var 0)) (wk e_int))))) (wk e_int))) a_nil))) (n_cons (n_cons (n_cons n_nil))))))))))) (pw_or1 (t_gt (wk (e_ix (wk (e_var 2)) (wk e_int))) (wk (e_ix (wk (e_var 2)) (wk e_int)))))))
 (ss_one (s_retS e_bl))
 ss_nil)
 (ss_one (s_retS (fs (e_call cn (GF.mono g_is_beyond) (a_cons (e_var 0) (a_cons (e_var 1) (a_cons (fs (e_call cn (GF.mono g_reaches_of) (a_cons (e_var 0) a_nil) (n_cons n_nil))) (a_cons (e_ix (wk (e_var 2)) (wk e_int)) (a_cons (e_ix (wk (e_var 2)) (wk e_int)) a_nil))))) (n_cons (n_cons (n_cons (n_cons (n_cons n_nil)))))))))))
abbrev st_wants_too_much : Stmt := top 29
theorem sc_wants_too_much : FnScope ["bakery", "dark", "thing"] ["bakery", "dark", "thing"] (defScope st_wants_too_much) := ⟨rfl, rfl, rfl, by decide +kernel, rfl, by decide +kernel, by decide +kernel⟩
theorem ok_wants_too_much {P : Program} {w : World} {K : PySem.W.Frag} {mg : Str → Option Value} {base : Heap} (B : Bi mg) (F : ∃ fd, FunD K "wants_too_much" "wants_too_much" (defArgs st_wants_too_much) (defBody st_wants_too_much) (defScope st_wants_too_much) [] [] (He.ga K "wants_too_much") fd) (hm : mg "wants_too_much" = some (.ref (He.ga K "wants_too_much"))) (g_is_stretch_beyond : GF P w K mg base 3 "is_stretch_beyond" 3 .s dn_is_stretch_beyond) (g_look_at_days : GF P w K mg base 3 "look_at_days" 2 .f dn_look_at_days) (g_look_at_bakery : GF P w K mg base 6 "look_at_bakery" 1 .f dn_look_at_bakery) : GF P w K mg base 7 "wants_too_much" 3 .s dn_wants_too_much := by
  refine gf_of F hm sc_wants_too_much (by intro z; cases z) (fun _ _ _ _ _ _ us hl => match us, hl with | [_, _, _], _ => rfl) fun cdv A outer s H E S0 cn => ?_
  show PSs _ _ (tS _ K S0 H _ b_wants_too_much)
  unfold b_wants_too_much
  exact (ss_cons (s_expr (e_call cn (GF.mono g_look_at_bakery) (a_cons (e_var 0) a_nil) (n_cons n_nil)))
 (ss_cons (s_expr (e_call cn (GF.mono g_look_at_days) (a_cons (e_var 0) (a_cons (e_var 1) a_nil)) (n_cons (n_cons n_nil))))
 (ss_one (s_retS (e_call cn (GF.mono g_is_stretch_beyond) (a_cons (e_var 0) (a_cons (e_var 1) (a_cons (e_var 2) a_nil))) (n_cons (n_cons (n_cons n_nil))))))))
abbrev st__law_cell_at : Stmt := top 31
theorem sc__law_cell_at : FnScope ["_law_script", "_law_k"] ["_law_script", "_law_k"] (defScope st__law_cell_at) := ⟨rfl, rfl, rfl, by decide +kernel, rfl, by decide +kernel, by decide +kernel⟩
theorem ok__law_cell_at {P : Program} {w : World} {K : PySem.W.Frag} {mg : Str → Option Value} {base : Heap} (B : Bi mg) (F : ∃ fd, FunD K "_law_cell_at" "_law_cell_at" (defArgs st__law_cell_at) (defBody st__law_cell_at) (defScope st__law_cell_at) [] [] (He.ga K "_law_cell_at") fd) (hm : mg "_law_cell_at" = some (.ref (He.ga K "_law_cell_at"))) : GF P w K mg base 1 "_law_cell_at" 2 .s dn__law_cell_at := by
  refine gf_of F hm sc__law_cell_at (by intro z; cases z) (fun _ _ _ _ _ _ us hl => match us, hl with | [_, _], _ => rfl) fun cdv A outer s H E S0 cn => ?_
  show PSs _ _ (tS _ K S0 H _ b__law_cell_at)
  unfold b__law_cell_at
  exact (ss_cons (s_if (t_lt (wk (e_var 1)) (wk (e_len B.len (wk (e_var 0)))))
 (ss_one (s_retS (e_ix (wk (e_var 0)) (wk (e_var 1)))))
 ss_nil)
 (ss_one (s_retS e_int)))
abbrev st__law_numbers : Stmt := top 32
theorem sc__law_numbers : FnScope ["_law_cell", "_law_salt", "_law_sizes", "_law_number_here", "_law_left", "_law_found", "_law_k", "_law_one"] ["_law_cell", "_law_salt", "_law_sizes"] (defScope st__law_numbers) := ⟨rfl, rfl, rfl, by decide +kernel, rfl, by decide +kernel, by decide +kernel⟩
theorem ok__law_numbers {P : Program} {w : World} {K : PySem.W.Frag} {mg : Str → Option Value} {base : Heap} (B : Bi mg) (F : ∃ fd, FunD K "_law_numbers" "_law_numbers" (defArgs st__law_numbers) (defBody st__law_numbers) (defScope st__law_numbers) [] [] (He.ga K "_law_numbers") fd) (hm : mg "_law_numbers" = some (.ref (He.ga K "_law_numbers"))) : GF P w K mg base 1 "_law_numbers" 3 .f dn__law_numbers := by
  refine gf_of F hm sc__law_numbers (by intro z; cases z) (fun _ _ _ _ _ _ us hl => match us, hl with | [_, _, _], _ => rfl) fun cdv A outer s H E S0 cn => ?_
  show PSs _ _ (tS _ K S0 H _ b__law_numbers)
  unfold b__law_numbers b__law_numbers_p1
  exact (ss_cons (s_set cn 3 (fs (e_max2 cn B.max_ (w_cons (wk (e_var 0)) (w_cons (wk (e_sub (wk (e_neg (wk e_int))) (wk (e_var 0)))) w_nil)))))
 (ss_cons (s_set cn 4 (e_var 3))
 (ss_cons (s_setF cn 5 (e_list a_nil))
 (ss_cons (wp0 [6, 7] (s_for (vs := [6]) cn (i_rng1 B.range (wk (e_len B.len (wk (e_var 2))))) (g_nm cn.nd 6)
 (wpe [6, 7] (ss_one (s_if (PW.pt (tw_and (t_geX cn (wk (e_var 3)) (wk (e_pow (wk e_int) (wk e_int)))) (pw_and1 (t_gt (wk (e_var 4)) (wk e_int)))))
 (ss_cons (s_append 5 (fs (e_mod (wk (e_var 4)) (wk (e_ix (wk (e_var 2)) (wk (e_var 6)))))))
 (ss_one (s_set cn 4 (fs (e_div (wk (e_var 4)) (wk (e_ix (wk (e_var 2)) (wk (e_var 6)))))))))
 (ss_cons (s_set cn 7 (fs (e_mod (wk (e_pow (wk (e_add (wk (e_add (wk (e_mod (wk (e_var 3)) (wk e_int))) (wk (e_mul (wk e_int) (wk (e_var 1)))))) (wk e_int))) (wk e_int))) (wk e_int))))
 (ss_cons (s_set cn 7 (fs (e_mod (wk (e_mul (wk (e_add (wk (e_var 7)) (wk (e_mul (wk e_int) (wk (e_add (wk (e_var 6)) (wk e_int))))))) (wk (e_add (wk (e_var 6)) (wk e_int))))) (wk e_int))))
 (ss_cons (s_set cn 7 (fs (e_mod (wk (e_mul (wk (e_mod (wk (e_pow (wk (e_var 7)) (wk e_int))) (wk e_int))) (wk e_int))) (wk e_int))))
 (ss_one (s_append 5 (fs (e_mod (wk (e_div (wk (e_var 7)) (wk e_int))) (wk (e_ix (wk (e_var 2)) (wk (e_var 6))))))))))))))))
 (ss_one (s_retOF 5))))))
abbrev st__law_day : Stmt := top 33
theorem sc__law_day : FnScope ["_law_digits", "_law_late", "_law_want", "_law_light", "_law_loaf", "_law_keep", "_law_fine", "_law_none", "_law_far"] ["_law_digits", "_law_late"] (defScope st__law_day) := ⟨rfl, rfl, rfl, by decide +kernel, rfl, by decide +kernel, by decide +kernel⟩
theorem ok__law_day {P : Program} {w : World} {K : PySem.W.Frag} {mg : Str → Option Value} {base : Heap} (B : Bi mg) (F : ∃ fd, FunD K "_law_day" "_law_day" (defArgs st__law_day) (defBody st__law_day) (defScope st__law_day) [] [] (He.ga K "_law_day") fd) (hm : mg "_law_day" = some (.ref (He.ga K "_law_day"))) : GF P w K mg base 1 "_law_day" 2 .f dn__law_day := by
  refine gf_of F hm sc__law_day (by intro z; cases z) (fun _ _ _ _ _ _ us hl => match us, hl with | [_, _], _ => rfl) fun cdv A outer s H E S0 cn => ?_
  show PSs _ _ (tS _ K S0 H _ b__law_day)
  unfold b__law_day
  exact (ss_cons (s_asg (vs := [2, 3, 4, 5, 6, 7, 8]) (e_var 0) (g_tp cn.calm (g_cons (g_nm cn.nd 2) (g_cons (g_nm cn.nd 3) (g_cons (g_nm cn.nd 4) (g_cons (g_nm cn.nd 5) (g_cons (g_nm cn.nd 6) (g_cons (g_nm cn.nd 7) (g_cons (g_nm cn.nd 8) g_nil)))))))))
 (ss_cons (s_if (t_eq cn (wk (e_var 7)) (wk e_int))
 (ss_one (s_set cn 2 e_int))
 ss_nil)
 (ss_cons (s_if (PW.pt (tw_or (t_lt (wk (e_var 8)) (wk e_int)) (pw_or1 (t_not (tst_of (e_var 1))))))
 (ss_one (s_set cn 6 e_non))
 ss_nil)
 (ss_one (s_retF (e_tup (a_cons (e_var 3) (a_cons (fs (e_tup (a_cons (e_var 2) (a_cons (e_var 4) (a_cons (e_var 5) (a_cons (e_var 6) a_nil)))))) a_nil))))))))
abbrev st__law_days : Stmt := top 34
theorem sc__law_days : FnScope ["_law_script", "_law_first", "_law_upto", "_law_salt", "_law_late", "_law_wide", "_law_sizes", "_law_lights", "_law_days_here", "_law_k", "_law_light", "_law_day_here"] ["_law_script", "_law_first", "_law_upto", "_law_salt", "_law_late"] (defScope st__law_days) := ⟨rfl, rfl, rfl, by decide +kernel, rfl, by decide +kernel, by decide +kernel⟩
theorem ok__law_days {P : Program} {w : World} {K : PySem.W.Frag} {mg : Str → Option Value} {base : Heap} (B : Bi mg) (F : ∃ fd, FunD K "_law_days" "_law_days" (defArgs st__law_days) (defBody st__law_days) (defScope st__law_days) [] [] (He.ga K "_law_days") fd) (hm : mg "_law_days" = some (.ref (He.ga K "_law_days"))) (g__law_day : GF P w K mg base 1 "_law_day" 2 .f dn__law_day) (g__law_numbers : GF P w K mg base 1 "_law_numbers" 3 .f dn__law_numbers) (g__law_cell_at : GF P w K mg base 1 "_law_cell_at" 2 .s dn__law_cell_at) : GF P w K mg base 2 "_law_days" 5 .f dn__law_days := by
  refine gf_of F hm sc__law_days (by intro z; cases z) (fun _ _ _ _ _ _ us hl => match us, hl with | [_, _, _, _, _], _ => rfl) fun cdv A outer s H E S0 cn => ?_
  show PSs _ _ (tS _ K S0 H _ b__law_days)
  unfold b__law_days b__law_days_p1
  exact (ss_cons (s_set cn 5 (fs (e_eq cn (wk (e_ix (wk (e_call cn (GF.mono g__law_numbers) (a_cons (e_call cn (GF.mono g__law_cell_at) (a_cons (e_var 0) (a_cons e_int a_nil)) (n_cons (n_cons n_nil))) (a_cons (e_var 3) (a_cons (fs (e_list (a_cons e_int a_nil))) a_nil))) (n_cons (n_cons (n_cons n_nil))))) (wk e_int))) (wk e_int))))
 (ss_cons (s_set cn 6 (fs (e_add (wk (e_ix (wk (e_list (a_cons (fs (e_list (a_cons e_int (a_cons e_int (a_cons e_int (a_cons e_int (a_cons e_int a_nil))))))) (a_cons (fs (e_mul (wk (e_list (a_cons (fs (e_add (wk (e_pow (wk e_int) (wk e_int))) (wk e_int))) a_nil))) (wk e_int))) a_nil)))) (wk (e_int1 B.int_ (wk (e_var 5)))))) (wk (e_list (a_cons e_int (a_cons e_int a_nil)))))))
 (ss_cons (s_setF cn 7 (e_list a_nil))
 (ss_cons (s_setF cn 8 (e_list a_nil))
 (ss_cons (wp0 [9, 10, 11] (s_for (vs := [9]) cn (i_rng2 B.range (w_cons (wk (e_var 1)) (w_cons (wk (e_max2 cn B.max_ (w_cons (wk (e_add (wk (e_var 1)) (wk e_int))) (w_cons (wk (e_min2 cn B.min_ (w_cons (wk (e_var 2)) (w_cons (wk (e_len B.len (wk (e_var 0)))) w_nil)))) w_nil)))) w_nil))) (g_nm cn.nd 9)
 (wpe [9, 10, 11] (ss_cons (s_asg (vs := [10, 11]) (fs (e_call cn (GF.mono g__law_day) (a_cons (fs (e_call cn (GF.mono g__law_numbers) (a_cons (e_call cn (GF.mono g__law_cell_at) (a_cons (e_var 0) (a_cons (e_var 9) a_nil)) (n_cons (n_cons n_nil))) (a_cons (fs (e_add (wk (e_var 3)) (wk (e_var 9)))) (a_cons (e_var 6) a_nil))) (n_cons (n_cons (n_cons n_nil))))) (a_cons (e_var 4) a_nil)) (n_cons (n_cons n_nil)))) (g_tp cn.calm (g_cons (g_nm cn.nd 10) (g_cons (g_nm cn.nd 11) g_nil))))
 (ss_cons (s_append 7 (e_var 10))
 (ss_one (s_append 8 (e_var 11))))))))
 (ss_one (rel (i := 7) (rel (i := 8) (s_retF (e_tup (a_cons (e_var 7) (a_cons (e_var 8) a_nil))))))))))))
abbrev st__law_two : Stmt := top 35
theorem sc__law_two : FnScope ["_law_script", "_law_upto", "_law_salt", "_law_head", "_law_lives", "_law_goods", "_law_lights", "_law_days_here", "_law_others"] ["_law_script", "_law_upto", "_law_salt"] (defScope st__law_two) := ⟨rfl, rfl, rfl, by decide +kernel, rfl, by decide +kernel, by decide +kernel⟩
theorem ok__law_two {P : Program} {w : World} {K : PySem.W.Frag} {mg : Str → Option Value} {base : Heap} (B : Bi mg) (F : ∃ fd, FunD K "_law_two" "_law_two" (defArgs st__law_two) (defBody st__law_two) (defScope st__law_two) [] [] (He.ga K "_law_two") fd) (hm : mg "_law_two" = some (.ref (He.ga K "_law_two"))) (g__law_days : GF P w K mg base 2 "_law_days" 5 .f dn__law_days) (g__law_numbers : GF P w K mg base 1 "_law_numbers" 3 .f dn__law_numbers) (g__law_cell_at : GF P w K mg base 1 "_law_cell_at" 2 .s dn__law_cell_at) : GF P w K mg base 3 "_law_two" 3 .f dn__law_two := by
  refine gf_of F hm sc__law_two (by intro z; cases z) (fun _ _ _ _ _ _ us hl => match us, hl with | [_, _, _], _ => rfl) fun cdv A outer s H E S0 cn => ?_
  show PSs _ _ (tS _ K S0 H _ b__law_two)
  unfold b__law_two
  exact (ss_cons (s_set cn 3 (fs (e_call cn (GF.mono g__law_numbers) (a_cons (e_call cn (GF.mono g__law_cell_at) (a_cons (e_var 0) (a_cons e_int a_nil)) (n_cons (n_cons n_nil))) (a_cons (e_var 2) (a_cons (fs (e_list (a_cons e_int (a_cons e_int (a_cons e_int (a_cons e_int (a_cons e_int (a_cons e_int (a_cons e_int a_nil))))))))) a_nil))) (n_cons (n_cons (n_cons n_nil))))))
 (ss_cons (s_asg (vs := [6, 7]) (fs (e_call cn (GF.mono g__law_days) (a_cons (e_var 0) (a_cons e_int (a_cons (e_var 1) (a_cons (e_var 2) (a_cons (fs (e_eq cn (wk (e_ix (wk (e_var 3)) (wk e_int))) (wk e_int))) a_nil))))) (n_cons (n_cons (n_cons (n_cons (n_cons n_nil))))))) (g_tp cn.calm (g_cons (g_nm cn.nd 6) (g_cons (g_nm cn.nd 7) g_nil))))
 (ss_cons (s_set cn 4 (fs (e_list (a_cons e_non (a_cons e_non (a_cons e_int (a_cons e_int (a_cons e_int (a_cons e_int (a_cons e_int (a_cons e_int (a_cons e_int (a_cons e_int (a_cons e_int (a_cons e_int a_nil)))))))))))))))
 (ss_cons (s_setF cn 5 (e_list (a_cons (fs (e_tup (a_cons (e_var 7) (a_cons (e_ix (wk (e_var 4)) (wk (e_ix (wk (e_var 3)) (wk e_int)))) a_nil)))) a_nil)))
 (ss_cons (s_if (t_gt (wk (e_ix (wk (e_var 3)) (wk e_int))) (wk e_int))
 (ss_cons (s_set cn 8 (e_ix (wk (e_call cn (GF.mono g__law_days) (a_cons (fs (e_add (wk (e_slice (wk (e_var 0)) o_none (o_some (wk e_int)))) (wk (e_rev1 (wk (e_var 0)))))) (a_cons e_int (a_cons (e_var 1) (a_cons (fs (e_add (wk (e_var 2)) (wk e_int))) (a_cons (fs (e_eq cn (wk (e_ix (wk (e_var 3)) (wk e_int))) (wk e_int))) a_nil))))) (n_cons (n_cons (n_cons (n_cons (n_cons n_nil))))))) (wk e_int)))
 (ss_one (s_append 5 (fs (e_tup (a_cons (e_var 8) (a_cons (e_ix (wk (e_var 4)) (wk (e_ix (wk (e_var 3)) (wk e_int)))) a_nil)))))))
 ss_nil)
 (ss_one (rel (i := 5) (s_retF (e_tup (a_cons (e_var 6) (a_cons (e_ix (wk (e_list (a_cons e_non (a_cons e_int (a_cons e_int (a_cons e_int (a_cons e_int (a_cons e_int (a_cons e_int (a_cons (fs (e_pow (wk e_int) (wk e_int))) (a_cons e_int a_nil))))))))))) (wk (e_ix (wk (e_var 3)) (wk e_int)))) (a_cons (e_var 5) a_nil))))))))))))
abbrev st__law_odd : Stmt := top 36
theorem sc__law_odd : FnScope ["_law_digit", "_law_some"] ["_law_digit"] (defScope st__law_odd) := ⟨rfl, rfl, rfl, by decide +kernel, rfl, by decide +kernel, by decide +kernel⟩
theorem ok__law_odd {P : Program} {w : World} {K : PySem.W.Frag} {mg : Str → Option Value} {base : Heap} (B : Bi mg) (F : ∃ fd, FunD K "_law_odd" "_law_odd" (defArgs st__law_odd) (defBody st__law_odd) (defScope st__law_odd) [] [] (He.ga K "_law_odd") fd) (hm : mg "_law_odd" = some (.ref (He.ga K "_law_odd"))) : GF P w K mg base 1 "_law_odd" 1 .s dn__law_odd := by
  refine gf_of F hm sc__law_odd (by intro z; cases z) (fun _ _ _ _ _ _ us hl => match us, hl with | [_], _ => rfl) fun cdv A outer s H E S0 cn => ?_
  show PSs _ _ (tS _ K S0 H _ b__law_odd)
  unfold b__law_odd
  exact (ss_cons (s_set cn 1 (fs (e_list (a_cons e_non (a_cons e_bl (a_cons e_bl (a_cons (fs (e_neg (wk e_int))) (a_cons e_int (a_cons e_int (a_cons e_int (a_cons e_int (a_cons (fs (e_pow (wk e_int) (wk e_int))) (a_cons (fs (e_add (wk (e_pow (wk e_int) (wk e_int))) (wk e_int))) (a_cons (fs (e_pow (wk e_int) (wk e_int))) (a_cons e_str (a_cons e_str (a_cons (fs (e_list a_nil)) (a_cons (fs (e_list (a_cons e_int a_nil))) (a_cons (fs (e_tup a_nil)) (a_cons (fs (e_tup (a_cons e_int a_nil))) (a_cons (fs e_dict0) a_nil)))))))))))))))))))))
 (ss_one (s_retS (e_ix (wk (e_var 1)) (wk (e_mod (wk (e_var 0)) (wk e_int)))))))
abbrev st__law_at : Stmt := top 37
theorem sc__law_at : FnScope ["_law_row", "_law_place", "_law_thing"] ["_law_row", "_law_place", "_law_thing"] (defScope st__law_at) := ⟨rfl, rfl, rfl, by decide +kernel, rfl, by decide +kernel, by decide +kernel⟩
theorem ok__law_at {P : Program} {w : World} {K : PySem.W.Frag} {mg : Str → Option Value} {base : Heap} (B : Bi mg) (F : ∃ fd, FunD K "_law_at" "_law_at" (defArgs st__law_at) (defBody st__law_at) (defScope st__law_at) [] [] (He.ga K "_law_at") fd) (hm : mg "_law_at" = some (.ref (He.ga K "_law_at"))) : GF P w K mg base 1 "_law_at" 3 .f dn__law_at := by
  refine gf_of F hm sc__law_at (by intro z; cases z) (fun _ _ _ _ _ _ us hl => match us, hl with | [_, _, _], _ => rfl) fun cdv A outer s H E S0 cn => ?_
  show PSs _ _ (tS _ K S0 H _ b__law_at)
  unfold b__law_at
  exact (ss_one (s_retF (e_add (wk (e_add (wk (e_slice (wk (e_var 0)) o_none (o_some (wk (e_var 1))))) (wk (e_list (a_cons (e_var 2) a_nil))))) (wk (e_slice (wk (e_var 0)) (o_some (wk (e_add (wk (e_var 1)) (wk e_int)))) o_none)))))
abbrev st__law_day_spoilt : Stmt := top 38
theorem sc__law_day_spoilt : FnScope ["_law_day_here", "_law_digits", "_law_odd_here", "_law_part", "_law_some"] ["_law_day_here", "_law_digits"] (defScope st__law_day_spoilt) := ⟨rfl, rfl, rfl, by decide +kernel, rfl, by decide +kernel, by decide +kernel⟩
theorem ok__law_day_spoilt {P : Program} {w : World} {K : PySem.W.Frag} {mg : Str → Option Value} {base : Heap} (B : Bi mg) (F : ∃ fd, FunD K "_law_day_spoilt" "_law_day_spoilt" (defArgs st__law_day_spoilt) (defBody st__law_day_spoilt) (defScope st__law_day_spoilt) [] [] (He.ga K "_law_day_spoilt") fd) (hm : mg "_law_day_spoilt" = some (.ref (He.ga K "_law_day_spoilt"))) (g__law_odd : GF P w K mg base 1 "_law_odd" 1 .s dn__law_odd) : GF P w K mg base 2 "_law_day_spoilt" 2 .s dn__law_day_spoilt := by
  refine gf_of F hm sc__law_day_spoilt (by intro z; cases z) (fun _ _ _ _ _ _ us hl => match us, hl with | [_, _], _ => rfl) fun cdv A outer s H E S0 cn => ?_
  show PSs _ _ (tS _ K S0 H _ b__law_day_spoilt)
  unfold b__law_day_spoilt
  exact (ss_cons (s_set cn 2 (e_call cn (GF.mono g__law_odd) (a_cons (e_ix (wk (e_var 1)) (wk e_int)) a_nil) (n_cons n_nil)))
 (ss_cons (s_set cn 3 (fs (e_mod (wk (e_ix (wk (e_var 1)) (wk e_int))) (wk e_int))))
 (ss_cons (s_set cn 4 (fs (e_list (a_cons (fs (e_add (wk (e_add (wk (e_slice (wk (e_var 0)) o_none (o_some (wk (e_var 3))))) (wk (e_tup (a_cons (e_var 2) a_nil))))) (wk (e_slice (wk (e_var 0)) (o_some (wk (e_add (wk (e_var 3)) (wk e_int)))) o_none)))) (a_cons (fs (e_listc B.list_ (wk (e_var 0)))) (a_cons (fs (e_slice (wk (e_var 0)) o_none (o_some (wk e_int)))) (a_cons (fs (e_add (wk (e_var 0)) (wk (e_tup (a_cons (e_var 2) a_nil))))) (a_cons (e_var 2) (a_cons (fs (e_revA (wk (e_var 0)))) (a_cons (fs (e_tup (a_cons (e_var 0) a_nil))) (a_cons (fs (e_slice (wk (e_var 0)) o_none (o_some (wk (e_var 3))))) a_nil)))))))))))
 (ss_one (s_retS (e_ix (wk (e_var 4)) (wk (e_mod (wk (e_ix (wk (e_var 1)) (wk e_int))) (wk e_int)))))))))
abbrev st__law_good_spoilt : Stmt := top 39
theorem sc__law_good_spoilt : FnScope ["_law_good", "_law_digits", "_law_at_here", "_law_some", "_law_days_here", "_law_life"] ["_law_good", "_law_digits"] (defScope st__law_good_spoilt) := ⟨rfl, rfl, rfl, by decide +kernel, rfl, by decide +kernel, by decide +kernel⟩
theorem ok__law_good_spoilt {P : Program} {w : World} {K : PySem.W.Frag} {mg : Str → Option Value} {base : Heap} (B : Bi mg) (F : ∃ fd, FunD K "_law_good_spoilt" "_law_good_spoilt" (defArgs st__law_good_spoilt) (defBody st__law_good_spoilt) (defScope st__law_good_spoilt) [] [] (He.ga K "_law_good_spoilt") fd) (hm : mg "_law_good_spoilt" = some (.ref (He.ga K "_law_good_spoilt"))) (g__law_odd : GF P w K mg base 1 "_law_odd" 1 .s dn__law_odd) (g__law_at : GF P w K mg base 1 "_law_at" 3 .f dn__law_at) (g__law_day_spoilt : GF P w K mg base 2 "_law_day_spoilt" 2 .s dn__law_day_spoilt) : GF P w K mg base 3 "_law_good_spoilt" 2 .s dn__law_good_spoilt := by
  refine gf_of F hm sc__law_good_spoilt (by intro z; cases z) (fun _ _ _ _ _ _ us hl => match us, hl with | [_, _], _ => rfl) fun cdv A outer s H E S0 cn => ?_
  show PSs _ _ (tS _ K S0 H _ b__law_good_spoilt)
  unfold b__law_good_spoilt
  exact (ss_cons (s_asg (vs := [4, 5]) (e_var 0) (g_tp cn.calm (g_cons (g_nm cn.nd 4) (g_cons (g_nm cn.nd 5) g_nil))))
 (ss_cons (s_set cn 2 (fs (e_mod (wk (e_ix (wk (e_var 1)) (wk e_int))) (wk (e_len B.len (wk (e_var 4)))))))
 (ss_cons (s_if (t_lt (wk (e_ix (wk (e_var 1)) (wk e_int))) (wk e_int))
 (ss_one (s_retS (fs (e_tup (a_cons (fs (e_call cn (GF.mono g__law_at) (a_cons (e_var 4) (a_cons (e_var 2) (a_cons (e_call cn (GF.mono g__law_day_spoilt) (a_cons (e_ix (wk (e_var 4)) (wk (e_var 2))) (a_cons (e_var 1) a_nil)) (n_cons (n_cons n_nil))) a_nil))) (n_cons (n_cons (n_cons n_nil))))) (a_cons (e_var 5) a_nil))))))
 ss_nil)
 (ss_cons (s_set cn 3 (fs (e_list (a_cons (fs (e_tup (a_cons (e_var 4) (a_cons (e_call cn (GF.mono g__law_odd) (a_cons (e_ix (wk (e_var 1)) (wk e_int)) a_nil) (n_cons n_nil)) a_nil)))) (a_cons (fs (e_tup (a_cons (fs (e_slice (wk (e_var 4)) (o_some (wk e_int)) o_none)) (a_cons (e_var 5) a_nil)))) (a_cons (fs (e_tup (a_cons (fs (e_add (wk (e_var 4)) (wk (e_slice (wk (e_var 4)) o_none (o_some (wk e_int)))))) (a_cons (e_var 5) a_nil)))) (a_cons (fs (e_tup (a_cons (fs (e_tuplec B.tuple_ (wk (e_var 4)))) (a_cons (e_var 5) a_nil)))) (a_cons (fs (e_list (a_cons (e_var 4) (a_cons (e_var 5) a_nil)))) a_nil))))))))
 (ss_cons (s_set cn 3 (fs (e_add (wk (e_var 3)) (wk (e_list (a_cons (fs (e_tup (a_cons (e_var 4) a_nil))) (a_cons (fs (e_tup (a_cons (e_var 4) (a_cons (e_var 5) (a_cons (e_var 5) a_nil))))) (a_cons (e_call cn (GF.mono g__law_odd) (a_cons (e_ix (wk (e_var 1)) (wk e_int)) a_nil) (n_cons n_nil)) (a_cons (fs (e_tup (a_cons (fs e_dict0) (a_cons (e_var 5) a_nil)))) (a_cons (fs (e_tup (a_cons (e_var 5) (a_cons (e_var 4) a_nil)))) a_nil))))))))))
 (ss_one (s_retS (e_ix (wk (e_var 3)) (wk (e_mod (wk (e_ix (wk (e_var 1)) (wk e_int))) (wk e_int)))))))))))
abbrev st__law_spoilt : Stmt := top 40
theorem sc__law_spoilt : FnScope ["_law_bakery", "_law_digits", "_law_at_here", "_law_some", "_law_lights", "_law_bound", "_law_goods", "_law_many", "_law_longer", "_law_days_here", "_law_life"] ["_law_bakery", "_law_digits"] (defScope st__law_spoilt) := ⟨rfl, rfl, rfl, by decide +kernel, rfl, by decide +kernel, by decide +kernel⟩
theorem ok__law_spoilt {P : Program} {w : World} {K : PySem.W.Frag} {mg : Str → Option Value} {base : Heap} (B : Bi mg) (F : ∃ fd, FunD K "_law_spoilt" "_law_spoilt" (defArgs st__law_spoilt) (defBody st__law_spoilt) (defScope st__law_spoilt) [] [] (He.ga K "_law_spoilt") fd) (hm : mg "_law_spoilt" = some (.ref (He.ga K "_law_spoilt"))) (g__law_at : GF P w K mg base 1 "_law_at" 3 .f dn__law_at) (g__law_good_spoilt : GF P w K mg base 3 "_law_good_spoilt" 2 .s dn__law_good_spoilt) (g__law_odd : GF P w K mg base 1 "_law_odd" 1 .s dn__law_odd) : GF P w K mg base 4 "_law_spoilt" 2 .s dn__law_spoilt := by
  refine gf_of F hm sc__law_spoilt (by intro z; cases z) (fun _ _ _ _ _ _ us hl => match us, hl with | [_, _], _ => rfl) fun cdv A outer s H E S0 cn => ?_
  show PSs _ _ (tS _ K S0 H _ b__law_spoilt)
  unfold b__law_spoilt
  exact (ss_cons (s_asg (vs := [4, 5, 6]) (e_var 0) (g_tp cn.calm (g_cons (g_nm cn.nd 4) (g_cons (g_nm cn.nd 5) (g_cons (g_nm cn.nd 6) g_nil)))))
 (ss_cons (s_set cn 2 (fs (e_mod (wk (e_ix (wk (e_var 1)) (wk e_int))) (wk (e_len B.len (wk (e_var 6)))))))
 (ss_cons (s_if (t_eq cn (wk (e_ix (wk (e_var 1)) (wk e_int))) (wk e_int))
 (ss_one (s_retS (fs (e_tup (a_cons (fs (e_call cn (GF.mono g__law_at) (a_cons (e_var 4) (a_cons (fs (e_mod (wk (e_ix (wk (e_var 1)) (wk e_int))) (wk (e_len B.len (wk (e_var 4)))))) (a_cons (e_call cn (GF.mono g__law_odd) (a_cons (e_ix (wk (e_var 1)) (wk e_int)) a_nil) (n_cons n_nil)) a_nil))) (n_cons (n_cons (n_cons n_nil))))) (a_cons (e_var 5) (a_cons (e_var 6) a_nil)))))))
 ss_nil)
 (ss_cons (s_if (t_eq cn (wk (e_ix (wk (e_var 1)) (wk e_int))) (wk e_int))
 (ss_one (s_retS (fs (e_tup (a_cons (e_var 4) (a_cons (e_call cn (GF.mono g__law_odd) (a_cons (e_ix (wk (e_var 1)) (wk e_int)) a_nil) (n_cons n_nil)) (a_cons (e_var 6) a_nil)))))))
 ss_nil)
 (ss_cons (s_if (t_lt (wk (e_ix (wk (e_var 1)) (wk e_int))) (wk e_int))
 (ss_one (s_retS (fs (e_tup (a_cons (e_var 4) (a_cons (e_var 5) (a_cons (fs (e_call cn (GF.mono g__law_at) (a_cons (e_var 6) (a_cons (e_var 2) (a_cons (e_call cn (GF.mono g__law_good_spoilt) (a_cons (e_ix (wk (e_var 6)) (wk (e_var 2))) (a_cons (e_var 1) a_nil)) (n_cons (n_cons n_nil))) a_nil))) (n_cons (n_cons (n_cons n_nil))))) a_nil)))))))
 ss_nil)
 (ss_cons (s_if (t_eq cn (wk (e_ix (wk (e_var 1)) (wk e_int))) (wk e_int))
 (ss_cons (s_set cn 7 (e_ix (wk (e_list (a_cons e_int (a_cons e_int (a_cons e_int (a_cons e_int a_nil)))))) (wk (e_mod (wk (e_ix (wk (e_var 1)) (wk e_int))) (wk e_int)))))
 (ss_cons (fz 8 (by first | exact (s_setC cn 8 (i_seq (by intro z; cases z) (wk (e_var 6))) (own := [("_law_days_here", 9), ("_law_life", 10)]) (by kernel_rfl) (fun _ _ _ _ _ _ nd calm => (g_tp calm (g_cons (g_nm nd 9) (g_cons (g_nm nd 10) g_nil)))) (gk_tp (gk_cons (gk_nm (by decide)) (gk_cons (gk_nm (by decide)) gk_nil))) (fun _ _ _ _ _ _ cn => ts_nil) (fun _ _ _ _ _ _ cn => (fs (e_tup (a_cons (fs (e_slice (wk (e_mul (wk (e_var 9)) (wk e_int))) o_none (o_some (wk (e_var 7))))) (a_cons (e_var 10) a_nil)))))) | exact (s_setF cn 8 (e_comp cn (i_seq (by intro z; cases z) (wk (e_var 6))) (own := [("_law_days_here", 9), ("_law_life", 10)]) (by kernel_rfl) (fun _ _ _ _ _ _ nd calm => (g_tp calm (g_cons (g_nm nd 9) (g_cons (g_nm nd 10) g_nil)))) (gk_tp (gk_cons (gk_nm (by decide)) (gk_cons (gk_nm (by decide)) gk_nil))) (fun _ _ _ _ _ _ cn => ts_nil) (fun _ _ _ _ _ _ cn => (fs (e_tup (a_cons (fs (e_slice (wk (e_mul (wk (e_var 9)) (wk e_int))) o_none (o_some (wk (e_var 7))))) (a_cons (e_var 10) a_nil)))))))))
 (ss_one (s_retS (fs (e_tup (a_cons (fs (e_slice (wk (e_mul (wk (e_var 4)) (wk e_int))) o_none (o_some (wk (e_var 7))))) (a_cons (e_var 5) (a_cons (e_var 8) a_nil)))))))))
 ss_nil)
 (ss_cons (s_if (t_eq cn (wk (e_ix (wk (e_var 1)) (wk e_int))) (wk e_int))
 (ss_cons (s_set cn 3 (fs (e_list (a_cons (fs (e_list a_nil)) (a_cons (fs (e_mul (wk (e_var 6)) (wk e_int))) (a_cons (fs (e_tuplec B.tuple_ (wk (e_var 6)))) (a_cons (e_ix (wk (e_var 6)) (wk e_int)) (a_cons e_non (a_cons (fs (e_mul (wk (e_slice (wk (e_var 6)) o_none (o_some (wk e_int)))) (wk e_int))) a_nil)))))))))
 (ss_one (s_retS (fs (e_tup (a_cons (e_var 4) (a_cons (e_var 5) (a_cons (e_ix (wk (e_var 3)) (wk (e_mod (wk (e_ix (wk (e_var 1)) (wk e_int))) (wk e_int)))) a_nil))))))))
 ss_nil)
 (ss_cons (s_set cn 3 (fs (e_list (a_cons (fs (e_listc B.list_ (wk (e_var 0)))) (a_cons (fs (e_slice (wk (e_var 0)) o_none (o_some (wk e_int)))) (a_cons (fs (e_add (wk (e_var 0)) (wk (e_tup (a_cons e_non a_nil))))) (a_cons (fs (e_tup a_nil)) (a_cons e_non (a_cons (e_var 4) (a_cons (fs (e_tup (a_cons (fs (e_tuplec B.tuple_ (wk (e_var 4)))) (a_cons (e_var 5) (a_cons (e_var 6) a_nil))))) (a_cons e_str (a_cons (fs e_dict0) (a_cons (e_var 6) a_nil)))))))))))))
 (ss_one (s_retS (e_ix (wk (e_var 3)) (wk (e_mod (wk (e_ix (wk (e_var 1)) (wk e_int))) (wk e_int))))))))))))))
abbrev st__law_number : Stmt := top 41
theorem sc__law_number : FnScope ["_law_thing", "_law_most"] ["_law_thing", "_law_most"] (defScope st__law_number) := ⟨rfl, rfl, rfl, by decide +kernel, rfl, by decide +kernel, by decide +kernel⟩
theorem ok__law_number {P : Program} {w : World} {K : PySem.W.Frag} {mg : Str → Option Value} {base : Heap} (B : Bi mg) (F : ∃ fd, FunD K "_law_number" "_law_number" (defArgs st__law_number) (defBody st__law_number) (defScope st__law_number) [] [] (He.ga K "_law_number") fd) (hm : mg "_law_number" = some (.ref (He.ga K "_law_number"))) : GF P w K mg base 1 "_law_number" 2 .f dn__law_number := by
  refine gf_of F hm sc__law_number (by intro z; cases z) (fun _ _ _ _ _ _ us hl => match us, hl with | [_, _], _ => rfl) fun cdv A outer s H E S0 cn => ?_
  show PSs _ _ (tS _ K S0 H _ b__law_number)
  unfold b__law_number
  exact (ss_one (s_retF (e_andV (wk (e_isi B.isinstance B.int_ (by decide +kernel) (by decide) (wk (e_var 0)))) (e_andV (wk (e_notV (wk (e_isi B.isinstance B.bool_ (by decide +kernel) (by decide) (wk (e_var 0)))))) (e_andV (wk (e_le (wk e_int) (wk (e_var 0)))) (e_one (e_le (wk (e_var 0)) (wk (e_var 1)))))))))
abbrev st__law_is_day : Stmt := top 42
theorem sc__law_is_day : FnScope ["_law_thing", "_law_part"] ["_law_thing"] (defScope st__law_is_day) := ⟨rfl, rfl, rfl, by decide +kernel, rfl, by decide +kernel, by decide +kernel⟩
theorem ok__law_is_day {P : Program} {w : World} {K : PySem.W.Frag} {mg : Str → Option Value} {base : Heap} (B : Bi mg) (F : ∃ fd, FunD K "_law_is_day" "_law_is_day" (defArgs st__law_is_day) (defBody st__law_is_day) (defScope st__law_is_day) [] [] (He.ga K "_law_is_day") fd) (hm : mg "_law_is_day" = some (.ref (He.ga K "_law_is_day"))) (g__law_number : GF P w K mg base 1 "_law_number" 2 .f dn__law_number) : GF P w K mg base 2 "_law_is_day" 1 .s dn__law_is_day := by
  refine gf_of F hm sc__law_is_day (by intro z; cases z) (fun _ _ _ _ _ _ us hl => match us, hl with | [_], _ => rfl) fun cdv A outer s H E S0 cn => ?_
  show PSs _ _ (tS _ K S0 H _ b__law_is_day)
  unfold b__law_is_day
  exact (ss_cons (s_if (PW.pt (tw_or (t_not (tst_of (e_isi B.isinstance B.tuple_ (by decide +kernel) (by decide) (wk (e_var 0))))) (pw_or1 (t_ne cn (wk (e_len B.len (wk (e_var 0)))) (wk e_int)))))
 (ss_one (s_retS e_bl))
 ss_nil)
 (ss_cons (s_if (t_neN cn (wk (e_comp cn (i_seq (by intro z; cases z) (wk (e_slice (wk (e_var 0)) o_none (o_some (wk e_int))))) (own := [("_law_part", 1)]) (by kernel_rfl) (fun _ _ _ _ _ _ nd calm => (g_nm nd 1)) (gk_nm (by decide)) (fun _ _ _ _ _ _ cn => (ts_one (t_not (tst_of (e_call cn (GF.mono g__law_number) (a_cons (e_var 1) (a_cons (fs (e_pow (wk e_int) (wk e_int))) a_nil)) (n_cons (n_cons n_nil))))))) (fun _ _ _ _ _ _ cn => (e_var 1)))) (wk (e_list a_nil)))
 (ss_one (s_retS e_bl))
 ss_nil)
 (ss_one (s_retS (fs (e_orV (wk (e_isN (wk (e_ix (wk (e_var 0)) (wk e_int))))) (e_one (e_call cn (GF.mono g__law_number) (a_cons (e_ix (wk (e_var 0)) (wk e_int)) (a_cons (fs (e_pow (wk e_int) (wk e_int))) a_nil)) (n_cons (n_cons n_nil))))))))))
abbrev st__law_wrong_good : Stmt := top 43
theorem sc__law_wrong_good : FnScope ["_law_good", "_law_many", "_law_day_here"] ["_law_good", "_law_many"] (defScope st__law_wrong_good) := ⟨rfl, rfl, rfl, by decide +kernel, rfl, by decide +kernel, by decide +kernel⟩
theorem ok__law_wrong_good {P : Program} {w : World} {K : PySem.W.Frag} {mg : Str → Option Value} {base : Heap} (B : Bi mg) (F : ∃ fd, FunD K "_law_wrong_good" "_law_wrong_good" (defArgs st__law_wrong_good) (defBody st__law_wrong_good) (defScope st__law_wrong_good) [] [] (He.ga K "_law_wrong_good") fd) (hm : mg "_law_wrong_good" = some (.ref (He.ga K "_law_wrong_good"))) (g__law_is_day : GF P w K mg base 2 "_law_is_day" 1 .s dn__law_is_day) (g__law_number : GF P w K mg base 1 "_law_number" 2 .f dn__law_number) : GF P w K mg base 3 "_law_wrong_good" 2 .f dn__law_wrong_good := by
  refine gf_of F hm sc__law_wrong_good (by intro z; cases z) (fun _ _ _ _ _ _ us hl => match us, hl with | [_, _], _ => rfl) fun cdv A outer s H E S0 cn => ?_
  show PSs _ _ (tS _ K S0 H _ b__law_wrong_good)
  unfold b__law_wrong_good
  exact (ss_cons (s_if (PW.pt (tw_or (t_not (tst_of (e_isi B.isinstance B.tuple_ (by decide +kernel) (by decide) (wk (e_var 0))))) (tw_or (t_ne cn (wk (e_len B.len (wk (e_var 0)))) (wk e_int)) (tw_or (t_not (tst_of (e_isi B.isinstance B.list_ (by decide +kernel) (by decide) (wk (e_ix (wk (e_var 0)) (wk e_int)))))) (pw_or1 (t_ne cn (wk (e_len B.len (wk (e_ix (wk (e_var 0)) (wk e_int))))) (wk (e_var 1))))))))
 (ss_one (s_retF (e_list (a_cons e_non a_nil))))
 ss_nil)
 (ss_cons (s_if (PW.pt (tw_and (t_notN (wk (e_ix (wk (e_var 0)) (wk e_int)))) (pw_and1 (t_not (tst_of (e_call cn (GF.mono g__law_number) (a_cons (e_ix (wk (e_var 0)) (wk e_int)) (a_cons e_int a_nil)) (n_cons (n_cons n_nil))))))))
 (ss_one (s_retF (e_list (a_cons e_non a_nil))))
 ss_nil)
 (ss_one (s_retF (e_comp cn (i_rng1 B.range (wk (e_var 1))) (own := [("_law_day_here", 2)]) (by kernel_rfl) (fun _ _ _ _ _ _ nd calm => (g_nm nd 2)) (gk_nm (by decide)) (fun _ _ _ _ _ _ cn => (ts_one (t_not (tst_of (e_call cn (GF.mono g__law_is_day) (a_cons (e_ix (wk (e_ix (wk (e_var 0)) (wk e_int))) (wk (e_var 2))) a_nil) (n_cons n_nil)))))) (fun _ _ _ _ _ _ cn => (e_var 2)))))))
abbrev st__law_wrong : Stmt := top 44
theorem sc__law_wrong : FnScope ["_law_thing", "_law_lights", "_law_bound", "_law_goods", "_law_number_here", "_law_good", "_law_wrong_here", "_law_light"] ["_law_thing"] (defScope st__law_wrong) := ⟨rfl, rfl, rfl, by decide +kernel, rfl, by decide +kernel, by decide +kernel⟩
theorem ok__law_wrong {P : Program} {w : World} {K : PySem.W.Frag} {mg : Str → Option Value} {base : Heap} (B : Bi mg) (F : ∃ fd, FunD K "_law_wrong" "_law_wrong" (defArgs st__law_wrong) (defBody st__law_wrong) (defScope st__law_wrong) [] [] (He.ga K "_law_wrong") fd) (hm : mg "_law_wrong" = some (.ref (He.ga K "_law_wrong"))) (g__law_wrong_good : GF P w K mg base 3 "_law_wrong_good" 2 .f dn__law_wrong_good) (g__law_number : GF P w K mg base 1 "_law_number" 2 .f dn__law_number) : GF P w K mg base 4 "_law_wrong" 1 .s dn__law_wrong := by
  refine gf_of F hm sc__law_wrong (by intro z; cases z) (fun _ _ _ _ _ _ us hl => match us, hl with | [_], _ => rfl) fun cdv A outer s H E S0 cn => ?_
  show PSs _ _ (tS _ K S0 H _ b__law_wrong)
  unfold b__law_wrong b__law_wrong_p1
  exact (ss_cons (s_if (PW.pt (tw_or (t_not (tst_of (e_isi B.isinstance B.tuple_ (by decide +kernel) (by decide) (wk (e_var 0))))) (pw_or1 (t_ne cn (wk (e_len B.len (wk (e_var 0)))) (wk e_int)))))
 (ss_one (s_retS (fs (e_tup (a_cons e_non (a_cons e_non a_nil))))))
 ss_nil)
 (ss_cons (s_asg (vs := [1, 2, 3]) (e_var 0) (g_tp cn.calm (g_cons (g_nm cn.nd 1) (g_cons (g_nm cn.nd 2) (g_cons (g_nm cn.nd 3) g_nil)))))
 (ss_cons (s_if (PW.pt (tw_or (t_not (tst_of (e_isi B.isinstance B.list_ (by decide +kernel) (by decide) (wk (e_var 1))))) (pw_or1 (t_ninRng2 (wk (e_len B.len (wk (e_var 1)))) B.range (wk e_int) (wk e_int)))))
 (ss_one (s_retS (fs (e_tup (a_cons e_non (a_cons e_non a_nil))))))
 ss_nil)
 (ss_cons (s_if (t_neN cn (wk (e_comp cn (i_seq (by intro z; cases z) (wk (e_var 1))) (own := [("_law_light", 7)]) (by kernel_rfl) (fun _ _ _ _ _ _ nd calm => (g_nm nd 7)) (gk_nm (by decide)) (fun _ _ _ _ _ _ cn => (ts_one (t_not (tst_of (e_call cn (GF.mono g__law_number) (a_cons (e_var 7) (a_cons (fs (e_pow (wk e_int) (wk e_int))) a_nil)) (n_cons (n_cons n_nil))))))) (fun _ _ _ _ _ _ cn => (e_var 7)))) (wk (e_list a_nil)))
 (ss_one (s_retS (fs (e_tup (a_cons e_non (a_cons e_non a_nil))))))
 ss_nil)
 (ss_cons (s_if (PW.pt (tw_and (t_notN (wk (e_var 2))) (pw_and1 (PW.pt (tw_or (t_not (tst_of (e_call cn (GF.mono g__law_number) (a_cons (e_var 2) (a_cons (fs (e_pow (wk e_int) (wk e_int))) a_nil)) (n_cons (n_cons n_nil))))) (pw_or1 (t_eq cn (wk (e_var 2)) (wk e_int))))))))
 (ss_one (s_retS (fs (e_tup (a_cons e_non (a_cons e_non a_nil))))))
 ss_nil)
 (ss_cons (s_if (PW.pt (tw_or (t_not (tst_of (e_isi B.isinstance B.list_ (by decide +kernel) (by decide) (wk (e_var 3))))) (pw_or1 (t_nin cn (wk (e_len B.len (wk (e_var 3)))) (wk (e_tup (a_cons e_int (a_cons e_int a_nil))))))))
 (ss_one (s_retS (fs (e_tup (a_cons e_non (a_cons e_non a_nil))))))
 ss_nil)
 (ss_cons (wp0 [4, 5, 6] (s_for (vs := [4, 5]) cn (i_enum B.enumerate (by intro z; cases z) (e_var 3)) (g_tp cn.calm (g_cons (g_nm cn.nd 4) (g_cons (g_nm cn.nd 5) g_nil)))
 (wpe [4, 5, 6] (ss_cons (s_set cn 6 (fs (e_call cn (GF.mono g__law_wrong_good) (a_cons (e_var 5) (a_cons (fs (e_len B.len (wk (e_var 1)))) a_nil)) (n_cons (n_cons n_nil)))))
 (ss_one (s_if (t_ne cn (wk (e_var 6)) (wk (e_list a_nil)))
 (ss_one (s_retS (fs (e_tup (a_cons (e_var 4) (a_cons (e_ix (wk (e_var 6)) (wk e_int)) a_nil))))))
 ss_nil))))))
 (ss_one (s_retS e_non)))))))))
abbrev st__law_dark : Stmt := top 45
theorem sc__law_dark : FnScope ["_law_digit", "_law_many", "_law_day_here"] ["_law_digit", "_law_many"] (defScope st__law_dark) := ⟨rfl, rfl, rfl, by decide +kernel, rfl, by decide +kernel, by decide +kernel⟩
theorem ok__law_dark {P : Program} {w : World} {K : PySem.W.Frag} {mg : Str → Option Value} {base : Heap} (B : Bi mg) (F : ∃ fd, FunD K "_law_dark" "_law_dark" (defArgs st__law_dark) (defBody st__law_dark) (defScope st__law_dark) [] [] (He.ga K "_law_dark") fd) (hm : mg "_law_dark" = some (.ref (He.ga K "_law_dark"))) : GF P w K mg base 1 "_law_dark" 2 .f dn__law_dark := by
  refine gf_of F hm sc__law_dark (by intro z; cases z) (fun _ _ _ _ _ _ us hl => match us, hl with | [_, _], _ => rfl) fun cdv A outer s H E S0 cn => ?_
  show PSs _ _ (tS _ K S0 H _ b__law_dark)
  unfold b__law_dark
  exact (ss_one (s_retF (e_comp cn (i_rng1 B.range (wk (e_var 1))) (own := [("_law_day_here", 2)]) (by kernel_rfl) (fun _ _ _ _ _ _ nd calm => (g_nm nd 2)) (gk_nm (by decide)) (fun _ _ _ _ _ _ cn => (ts_one (t_eq cn (wk (e_band (wk (e_shr (wk (e_var 0)) (wk (e_var 2)))) (wk e_int))) (wk e_int)))) (fun _ _ _ _ _ _ cn => (e_var 2)))))
abbrev st__law_named : Stmt := top 46
theorem sc__law_named : FnScope ["_law_error", "_law_kinds", "_law_names", "_law_name", "_law_kind"] ["_law_error"] (defScope st__law_named) := ⟨rfl, rfl, rfl, by decide +kernel, rfl, by decide +kernel, by decide +kernel⟩
theorem ok__law_named {P : Program} {w : World} {K : PySem.W.Frag} {mg : Str → Option Value} {base : Heap} (B : Bi mg) (xf : XF K mg ["BakeError", "NoBakery", "TooMuch", "NoDay", "NoDays"]) (F : ∃ fd, FunD K "_law_named" "_law_named" (defArgs st__law_named) (defBody st__law_named) (defScope st__law_named) [] [] (He.ga K "_law_named") fd) (hm : mg "_law_named" = some (.ref (He.ga K "_law_named"))) : GF P w K mg base 1 "_law_named" 1 .f dn__law_named_8 := by
  refine gf_of F hm sc__law_named (by intro z; cases z) (fun _ _ _ _ _ _ us hl => match us, hl with | [_], _ => rfl) fun cdv A outer s H E S0 cn => ?_
  show PSs _ _ (tS _ K S0 H _ b__law_named_8)
  unfold b__law_named_8
  exact (ss_cons (s_set cn 1 (fs (e_list (a_cons (fs (e_isX xf B.isinstance (.tail _ (.head _)) (by decide) (wk (e_var 0)))) (a_cons (fs (e_isX xf B.isinstance (.tail _ (.tail _ (.tail _ (.tail _ (.head _))))) (by decide) (wk (e_var 0)))) (a_cons (fs (e_isX xf B.isinstance (.tail _ (.tail _ (.tail _ (.head _)))) (by decide) (wk (e_var 0)))) a_nil))))))
 (ss_cons (s_set cn 1 (fs (e_add (wk (e_var 1)) (wk (e_list (a_cons (fs (e_isX xf B.isinstance (.tail _ (.tail _ (.head _))) (by decide) (wk (e_var 0)))) (a_cons (fs (e_notV (wk (e_isXV xf B.isinstance (wk (e_var 0)))))) a_nil)))))))
 (ss_cons (s_set cn 2 (fs (e_list (a_cons e_str (a_cons e_str (a_cons e_str (a_cons e_str (a_cons e_str a_nil))))))))
 (ss_one (s_retF (e_join e_str (wk (e_comp cn (i_zip B.zip (wk (e_var 2)) (wk (e_var 1)) (by intro z; cases z) rfl rfl rfl fun h => pi_zip rfl B.zip h) (own := [("_law_name", 3), ("_law_kind", 4)]) (by kernel_rfl) (fun _ _ _ _ _ _ nd calm => (g_tp calm (g_cons (g_nm nd 3) (g_cons (g_nm nd 4) g_nil)))) (gk_tp (gk_cons (gk_nm (by decide)) (gk_cons (gk_nm (by decide)) gk_nil))) (fun _ _ _ _ _ _ cn => (ts_one (tst_of (e_var 4)))) (fun _ _ _ _ _ _ cn => (e_var 3))))))))))
abbrev st__law_told : Stmt := top 47
theorem sc__law_told : FnScope ["_law_door", "_law_bakery", "_law_dark_here", "_law_thing", "_law_kept", "_law_found", "e"] ["_law_door", "_law_bakery", "_law_dark_here", "_law_thing"] (defScope st__law_told) := ⟨rfl, rfl, rfl, by decide +kernel, rfl, by decide +kernel, by decide +kernel⟩
theorem ok__law_told {P : Program} {w : World} {K : PySem.W.Frag} {mg : Str → Option Value} {base : Heap} (B : Bi mg) (xf : XF K mg ["BakeError", "NoBakery", "TooMuch", "NoDay", "NoDays"]) (F : ∃ fd, FunD K "_law_told" "_law_told" (defArgs st__law_told) (defBody st__law_told) (defScope st__law_told) [] [] (He.ga K "_law_told") fd) (hm : mg "_law_told" = some (.ref (He.ga K "_law_told"))) (g__law_named : GF P w K mg base 1 "_law_named" 1 .f dn__law_named_8) (g_too_much : GF P w K mg base 7 "too_much" 2 .s dn_too_much) (g_wants_too_much : GF P w K mg base 7 "wants_too_much" 3 .s dn_wants_too_much) : GF P w K mg base 8 "_law_told" 4 .s dn__law_told_22 := by
  refine gf_of F hm sc__law_told (by intro z; cases z) (fun _ _ _ _ _ _ us hl => match us, hl with | [_, _, _, _], _ => rfl) fun cdv A outer s H E S0 cn => ?_
  show PSs _ _ (tS _ K S0 H _ b__law_told_22)
  unfold b__law_told_22
  exact (ss_cons (s_set cn 4 e_non)
 (ss_cons (s_set cn 5 e_non)
 (ss_cons (s_tryA cn 6 (hc := ⟨rfl, by decide, .inl (xf.g "BakeError" (.head _))⟩) (he := xf.exm (.head _) (by decide)) (hb := fun W' pn xe cn => (ss_one (s_if (t_eq cn (wk (e_var 0)) (wk e_int))
 (ss_one (s_set cn 5 (e_call cn (GF.mono g_too_much) (a_cons (e_var 1) (a_cons (e_var 2) a_nil)) (n_cons (n_cons n_nil)))))
 (ss_one (s_set cn 5 (e_call cn (GF.mono g_wants_too_much) (a_cons (e_var 1) (a_cons (e_var 2) (a_cons (e_var 3) a_nil))) (n_cons (n_cons (n_cons n_nil))))))))) (hsu := fun a pn => (ss_one (s_setS (by exact cn.nd) 4 (e_var 6)))))
 (ss_cons (s_if (t_notN (wk (e_var 4)))
 (ss_one (s_retS (fs (e_call cn (GF.mono g__law_named) (a_cons (e_var 4) a_nil) (n_cons n_nil)))))
 ss_nil)
 (ss_cons (s_if (PW.pt (tw_and (t_eq cn (wk (e_var 0)) (wk e_int)) (pw_and1 (t_not (tst_of (e_isi B.isinstance B.bool_ (by decide +kernel) (by decide) (wk (e_var 5))))))))
 (ss_one (s_retS e_str))
 ss_nil)
 (ss_one (s_retS e_str)))))))
abbrev st__law_are_days : Stmt := top 48
theorem sc__law_are_days : FnScope ["_law_thing", "_law_many", "_law_k", "_law_day_here"] ["_law_thing", "_law_many"] (defScope st__law_are_days) := ⟨rfl, rfl, rfl, by decide +kernel, rfl, by decide +kernel, by decide +kernel⟩
theorem ok__law_are_days {P : Program} {w : World} {K : PySem.W.Frag} {mg : Str → Option Value} {base : Heap} (B : Bi mg) (F : ∃ fd, FunD K "_law_are_days" "_law_are_days" (defArgs st__law_are_days) (defBody st__law_are_days) (defScope st__law_are_days) [] [] (He.ga K "_law_are_days") fd) (hm : mg "_law_are_days" = some (.ref (He.ga K "_law_are_days"))) (g__law_number : GF P w K mg base 1 "_law_number" 2 .f dn__law_number) : GF P w K mg base 2 "_law_are_days" 2 .s dn__law_are_days := by
  refine gf_of F hm sc__law_are_days (by intro z; cases z) (fun _ _ _ _ _ _ us hl => match us, hl with | [_, _], _ => rfl) fun cdv A outer s H E S0 cn => ?_
  show PSs _ _ (tS _ K S0 H _ b__law_are_days)
  unfold b__law_are_days
  exact (ss_cons (s_if (PW.pt (tw_or (t_not (tst_of (e_isi B.isinstance B.list_ (by decide +kernel) (by decide) (wk (e_var 0))))) (pw_or1 (t_neN cn (wk (e_comp cn (i_seq (by intro z; cases z) (wk (e_var 0))) (own := [("_law_day_here", 3)]) (by kernel_rfl) (fun _ _ _ _ _ _ nd calm => (g_nm nd 3)) (gk_nm (by decide)) (fun _ _ _ _ _ _ cn => (ts_one (t_not (tst_of (e_call cn (GF.mono g__law_number) (a_cons (e_var 3) (a_cons (fs (e_sub (wk (e_var 1)) (wk e_int))) a_nil)) (n_cons (n_cons n_nil))))))) (fun _ _ _ _ _ _ cn => (e_var 3)))) (wk (e_list a_nil))))))
 (ss_one (s_retS e_bl))
 ss_nil)
 (ss_one (s_retS (fs (e_eqN cn (wk (e_comp cn (i_rng2 B.range (w_cons (wk e_int) (w_cons (wk (e_len B.len (wk (e_var 0)))) w_nil))) (own := [("_law_k", 2)]) (by kernel_rfl) (fun _ _ _ _ _ _ nd calm => (g_nm nd 2)) (gk_nm (by decide)) (fun _ _ _ _ _ _ cn => (ts_one (t_geX cn (wk (e_ix (wk (e_var 0)) (wk (e_sub (wk (e_var 2)) (wk e_int))))) (wk (e_ix (wk (e_var 0)) (wk (e_var 2))))))) (fun _ _ _ _ _ _ cn => (e_var 2)))) (wk (e_list a_nil)))))))
abbrev st__law_is_stretch : Stmt := top 49
theorem sc__law_is_stretch : FnScope ["_law_thing", "_law_many"] ["_law_thing", "_law_many"] (defScope st__law_is_stretch) := ⟨rfl, rfl, rfl, by decide +kernel, rfl, by decide +kernel, by decide +kernel⟩
theorem ok__law_is_stretch {P : Program} {w : World} {K : PySem.W.Frag} {mg : Str → Option Value} {base : Heap} (B : Bi mg) (F : ∃ fd, FunD K "_law_is_stretch" "_law_is_stretch" (defArgs st__law_is_stretch) (defBody st__law_is_stretch) (defScope st__law_is_stretch) [] [] (He.ga K "_law_is_stretch") fd) (hm : mg "_law_is_stretch" = some (.ref (He.ga K "_law_is_stretch"))) (g__law_number : GF P w K mg base 1 "_law_number" 2 .f dn__law_number) : GF P w K mg base 2 "_law_is_stretch" 2 .s dn__law_is_stretch := by
  refine gf_of F hm sc__law_is_stretch (by intro z; cases z) (fun _ _ _ _ _ _ us hl => match us, hl with | [_, _], _ => rfl) fun cdv A outer s H E S0 cn => ?_
  show PSs _ _ (tS _ K S0 H _ b__law_is_stretch)
  unfold b__law_is_stretch
  exact (ss_cons (s_if (PW.pt (tw_or (t_not (tst_of (e_isi B.isinstance B.tuple_ (by decide +kernel) (by decide) (wk (e_var 0))))) (pw_or1 (t_ne cn (wk (e_len B.len (wk (e_var 0)))) (wk e_int)))))
 (ss_one (s_retS e_bl))
 ss_nil)
 (ss_one (s_retS (fs (e_andV (wk (e_call cn (GF.mono g__law_number) (a_cons (e_ix (wk (e_var 0)) (wk e_int)) (a_cons (fs (e_sub (wk (e_var 1)) (wk e_int))) a_nil)) (n_cons (n_cons n_nil)))) (e_andV (wk (e_call cn (GF.mono g__law_number) (a_cons (e_ix (wk (e_var 0)) (wk e_int)) (a_cons (fs (e_sub (wk (e_var 1)) (wk e_int))) a_nil)) (n_cons (n_cons n_nil)))) (e_one (e_le (wk (e_ix (wk (e_var 0)) (wk e_int))) (wk (e_ix (wk (e_var 0)) (wk e_int)))))))))))
abbrev st__law_days_bent : Stmt := top 50
theorem sc__law_days_bent : FnScope ["_law_dark_here", "_law_digits", "_law_many", "_law_at_here", "_law_odd_here", "_law_some"] ["_law_dark_here", "_law_digits", "_law_many"] (defScope st__law_days_bent) := ⟨rfl, rfl, rfl, by decide +kernel, rfl, by decide +kernel, by decide +kernel⟩
theorem ok__law_days_bent {P : Program} {w : World} {K : PySem.W.Frag} {mg : Str → Option Value} {base : Heap} (B : Bi mg) (F : ∃ fd, FunD K "_law_days_bent" "_law_days_bent" (defArgs st__law_days_bent) (defBody st__law_days_bent) (defScope st__law_days_bent) [] [] (He.ga K "_law_days_bent") fd) (hm : mg "_law_days_bent" = some (.ref (He.ga K "_law_days_bent"))) (g__law_odd : GF P w K mg base 1 "_law_odd" 1 .s dn__law_odd) : GF P w K mg base 2 "_law_days_bent" 3 .s dn__law_days_bent := by
  refine gf_of F hm sc__law_days_bent (by intro z; cases z) (fun _ _ _ _ _ _ us hl => match us, hl with | [_, _, _], _ => rfl) fun cdv A outer s H E S0 cn => ?_
  show PSs _ _ (tS _ K S0 H _ b__law_days_bent)
  unfold b__law_days_bent
  exact (ss_cons (s_set cn 3 (fs (e_mod (wk (e_ix (wk (e_var 1)) (wk e_int))) (wk (e_add (wk (e_len B.len (wk (e_var 0)))) (wk e_int))))))
 (ss_cons (s_set cn 4 (e_ix (wk (e_list (a_cons (e_call cn (GF.mono g__law_odd) (a_cons (e_ix (wk (e_var 1)) (wk e_int)) a_nil) (n_cons n_nil)) (a_cons (e_var 2) (a_cons (fs (e_neg (wk e_int))) (a_cons (fs (e_mod (wk (e_ix (wk (e_var 1)) (wk e_int))) (wk (e_var 2)))) a_nil)))))) (wk (e_ix (wk (e_var 1)) (wk e_int)))))
 (ss_cons (s_set cn 5 (fs (e_list (a_cons (fs (e_add (wk (e_add (wk (e_slice (wk (e_var 0)) o_none (o_some (wk (e_var 3))))) (wk (e_list (a_cons (e_var 4) a_nil))))) (wk (e_slice (wk (e_var 0)) (o_some (wk (e_var 3))) o_none)))) (a_cons (fs (e_tuplec B.tuple_ (wk (e_var 0)))) (a_cons (fs (e_rev (wk (e_var 0)))) (a_cons (fs (e_add (wk (e_var 0)) (wk (e_var 0)))) (a_cons e_non (a_cons (fs e_dict0) (a_cons (e_var 4) (a_cons (fs (e_list (a_cons (e_var 0) a_nil))) a_nil)))))))))))
 (ss_one (s_retS (e_ix (wk (e_var 5)) (wk (e_ix (wk (e_var 1)) (wk e_int)))))))))
abbrev st_law : Stmt := top 51
theorem sc_law : FnScope ["_law_script", "_law_bakery", "_law_many", "_law_at_here", "_law_cell", "_law_digits", "_law_dark_here", "_law_good", "_law_odd_here", "_law_things", "_law_thing", "_law_days_here", "_law_house", "_law_kept", "_law_due", "_law_door"] ["_law_script"] (defScope st_law) := ⟨rfl, rfl, rfl, by decide +kernel, rfl, by decide +kernel, by decide +kernel⟩
theorem ok_law {P : Program} {w : World} {K : PySem.W.Frag} {mg : Str → Option Value} {base : Heap} {fd : FuncData} (B : Bi mg) (sk : SysK K) (F : FunD K "law" "law" (defArgs st_law) (defBody st_law) (defScope st_law) [] [] (He.ga K "law") fd) (g__law_is_stretch : GF P w K mg base 2 "_law_is_stretch" 2 .s dn__law_is_stretch) (g_wants_too_much : GF P w K mg base 7 "wants_too_much" 3 .s dn_wants_too_much) (g__law_told : GF P w K mg base 8 "_law_told" 4 .s dn__law_told_22) (g__law_wrong : GF P w K mg base 4 "_law_wrong" 1 .s dn__law_wrong) (g__law_are_days : GF P w K mg base 2 "_law_are_days" 2 .s dn__law_are_days) (g__law_spoilt : GF P w K mg base 4 "_law_spoilt" 2 .s dn__law_spoilt) (g__law_days_bent : GF P w K mg base 2 "_law_days_bent" 3 .s dn__law_days_bent) (g__law_odd : GF P w K mg base 1 "_law_odd" 1 .s dn__law_odd) (g__law_dark : GF P w K mg base 1 "_law_dark" 2 .f dn__law_dark) (g__law_numbers : GF P w K mg base 1 "_law_numbers" 3 .f dn__law_numbers) (g__law_two : GF P w K mg base 3 "_law_two" 3 .f dn__law_two) : FnG P w K mg base 9 (He.ga K "law") fd ["_law_script"] (spD K 1 .s dn_law_k44) := by
  refine fn_G F sc_law (by intro z; cases z) fun cdv A outer s H E S0 cn => ?_
  show PSs _ _ (tS _ K S0 H _ b_law_k44)
  unfold b_law_k44 b_law_k44_p2 b_law_k44_p1
  exact (ss_cons (s_set cn 1 (fs (e_call cn (GF.mono g__law_two) (a_cons (e_var 0) (a_cons e_int (a_cons e_int a_nil))) (n_cons (n_cons (n_cons n_nil))))))
 (ss_cons (s_set cn 2 (fs (e_len B.len (wk (e_ix (wk (e_var 1)) (wk e_int))))))
 (ss_cons (wp0 [3, 4, 5, 6, 7, 8, 9, 10, 11, 12, 13, 14, 15] (s_for (vs := [3, 4]) cn (i_enum B.enumerate (by intro z; cases z) (fs (e_add (wk (e_list (a_cons e_int a_nil))) (wk (e_slice (wk (e_var 0)) (o_some (wk e_int)) (o_some (wk e_int))))))) (g_tp cn.calm (g_cons (g_nm cn.nd 3) (g_cons (g_nm cn.nd 4) g_nil)))
 (wpe [3, 4, 5, 6, 7, 8, 9, 10, 11, 12, 13, 14, 15] (ss_cons (s_set cn 5 (fs (e_call cn (GF.mono g__law_numbers) (a_cons (e_var 4) (a_cons (fs (e_add (wk e_int) (wk (e_var 3)))) (a_cons (fs (e_list (a_cons e_int (a_cons e_int (a_cons e_int (a_cons e_int (a_cons e_int (a_cons e_int (a_cons e_int (a_cons e_int (a_cons e_int (a_cons e_int (a_cons e_int (a_cons e_int (a_cons e_int (a_cons e_int (a_cons e_int (a_cons e_int (a_cons e_int (a_cons e_int a_nil)))))))))))))))))))) a_nil))) (n_cons (n_cons (n_cons n_nil))))))
 (ss_cons (s_set cn 6 (fs (e_call cn (GF.mono g__law_dark) (a_cons (e_ix (wk (e_var 5)) (wk e_int)) (a_cons (e_var 2) a_nil)) (n_cons (n_cons n_nil)))))
 (ss_cons (s_set cn 7 (fs (e_tup (a_cons (fs (e_mod (wk (e_ix (wk (e_var 5)) (wk e_int))) (wk (e_var 2)))) (a_cons (fs (e_mod (wk (e_ix (wk (e_var 5)) (wk e_int))) (wk (e_var 2)))) a_nil)))))
 (ss_cons (s_set cn 8 (e_call cn (GF.mono g__law_odd) (a_cons (e_ix (wk (e_var 5)) (wk e_int)) a_nil) (n_cons n_nil)))
 (ss_cons (s_set cn 9 (fs (e_list (a_cons (e_var 7) (a_cons (fs (e_tup (a_cons (e_ix (wk (e_var 7)) (wk e_int)) (a_cons (e_var 8) a_nil)))) (a_cons (fs (e_tup (a_cons (e_var 8) (a_cons (e_ix (wk (e_var 7)) (wk e_int)) a_nil)))) (a_cons (fs (e_listc B.list_ (wk (e_var 7)))) (a_cons (fs (e_add (wk (e_var 7)) (wk (e_tup (a_cons (e_var 8) a_nil))))) (a_cons (e_var 8) (a_cons (fs (e_tup (a_cons (fs (e_sub (wk (e_var 2)) (wk e_int))) (a_cons (e_var 2) a_nil)))) (a_cons (fs (e_slice (wk (e_var 7)) o_none (o_some (wk e_int)))) a_nil)))))))))))
 (ss_cons (s_set cn 10 (e_ix (wk (e_var 9)) (wk (e_ix (wk (e_var 5)) (wk e_int)))))
 (ss_cons (s_set cn 11 (e_ix (wk (e_list (a_cons (e_var 6) (a_cons (e_var 6) (a_cons (e_call cn (GF.mono g__law_days_bent) (a_cons (e_var 6) (a_cons (e_var 5) (a_cons (e_var 2) a_nil))) (n_cons (n_cons (n_cons n_nil)))) a_nil))))) (wk (e_ix (wk (e_var 5)) (wk e_int)))))
 (ss_cons (s_set cn 12 (e_ix (wk (e_list (a_cons (e_var 1) (a_cons (e_var 1) (a_cons (e_call cn (GF.mono g__law_spoilt) (a_cons (e_var 1) (a_cons (fs (e_slice (wk (e_var 5)) (o_some (wk e_int)) o_none)) a_nil)) (n_cons (n_cons n_nil))) a_nil))))) (wk (e_ix (wk (e_var 5)) (wk e_int)))))
 (ss_cons (s_set cn 13 (fs (e_repr cn sk B.repr_ (wk (e_list (a_cons (e_var 12) (a_cons (e_var 11) (a_cons (e_var 10) a_nil))))))))
 (ss_cons (s_set cn 14 e_str)
 (ss_cons (s_if (t_notN (wk (e_call cn (GF.mono g__law_wrong) (a_cons (e_var 12) a_nil) (n_cons n_nil))))
 (ss_one (s_set cn 14 e_str))
 (ss_one (s_if (t_not (tst_of (e_call cn (GF.mono g__law_are_days) (a_cons (e_var 11) (a_cons (fs (e_len B.len (wk (e_ix (wk (e_var 12)) (wk e_int))))) a_nil)) (n_cons (n_cons n_nil)))))
 (ss_one (s_set cn 14 e_str))
 ss_nil)))
 (ss_cons (wp0 [15] (s_for (vs := [15]) cn (i_rng1 B.range (wk e_int)) (g_nm cn.nd 15)
 (wpe [15] (ss_one (s_if (t_ne cn (wk (e_call cn (GF.mono g__law_told) (a_cons (e_var 15) (a_cons (e_var 12) (a_cons (e_var 11) (a_cons (e_var 10) a_nil)))) (n_cons (n_cons (n_cons (n_cons n_nil)))))) (wk (e_var 14)))
 (ss_one (s_retS e_bl))
 ss_nil)))))
 (ss_cons (s_if (PW.pt (tw_and (t_eq cn (wk (e_var 14)) (wk e_str)) (pw_and1 (t_not (tst_of (e_call cn (GF.mono g__law_is_stretch) (a_cons (e_var 10) (a_cons (fs (e_len B.len (wk (e_ix (wk (e_var 12)) (wk e_int))))) a_nil)) (n_cons (n_cons n_nil))))))))
 (ss_one (s_if (t_notB (wk (e_call cn (GF.mono g_wants_too_much) (a_cons (e_var 12) (a_cons (e_var 11) (a_cons (e_var 10) a_nil))) (n_cons (n_cons (n_cons n_nil))))) (wk e_bl))
 (ss_one (s_retS e_bl))
 ss_nil))
 ss_nil)
 (ss_one (s_if (t_ne cn (wk (e_repr cn sk B.repr_ (wk (e_list (a_cons (e_var 12) (a_cons (e_var 11) (a_cons (e_var 10) a_nil))))))) (wk (e_var 13)))
 (ss_one (s_retS e_bl))
 ss_nil))))))))))))))))))
 (ss_one (s_retS e_bl)))))
/-! the head -/
abbrev si_NoBakery : Stmt := DL.clsAt (top 2) 0
theorem sci_NoBakery : FnScope ["self", "good", "day"] ["self", "good", "day"] (defScope si_NoBakery) := ⟨rfl, rfl, rfl, by decide +kernel, rfl, by decide +kernel, by decide +kernel⟩
def dd0 : List He.DefD := [⟨("is_whole", none), "is_whole", "is_whole", defArgs st_is_whole, defBody st_is_whole, defScope st_is_whole, [], []⟩,
  ⟨("is_within", none), "is_within", "is_within", defArgs st_is_within, defBody st_is_within, defScope st_is_within, [], []⟩,
  ⟨("is_number", none), "is_number", "is_number", defArgs st_is_number, defBody st_is_number, defScope st_is_number, [], []⟩,
  ⟨("is_day", none), "is_day", "is_day", defArgs st_is_day, defBody st_is_day, defScope st_is_day, [], []⟩,
  ⟨("are_lights", none), "are_lights", "are_lights", defArgs st_are_lights, defBody st_are_lights, defScope st_are_lights, [], []⟩,
  ⟨("is_frame", none), "is_frame", "is_frame", defArgs st_is_frame, defBody st_is_frame, defScope st_is_frame, [], []⟩,
  ⟨("look_at_good", none), "look_at_good", "look_at_good", defArgs st_look_at_good, defBody st_look_at_good, defScope st_look_at_good, [], []⟩,
  ⟨("look_at_bakery", none), "look_at_bakery", "look_at_bakery", defArgs st_look_at_bakery, defBody st_look_at_bakery, defScope st_look_at_bakery, [], []⟩,
  ⟨("look_at_days", none), "look_at_days", "look_at_days", defArgs st_look_at_days, defBody st_look_at_days, defScope st_look_at_days, [], []⟩,
  ⟨("reach_of", none), "reach_of", "reach_of", defArgs st_reach_of, defBody st_reach_of, defScope st_reach_of, [], []⟩,
  ⟨("reaches_of", none), "reaches_of", "reaches_of", defArgs st_reaches_of, defBody st_reaches_of, defScope st_reaches_of, [], []⟩,
  ⟨("is_beyond", none), "is_beyond", "is_beyond", defArgs st_is_beyond, defBody st_is_beyond, defScope st_is_beyond, [], []⟩,
  ⟨("stretch_beyond", none), "stretch_beyond", "stretch_beyond", defArgs st_stretch_beyond, defBody st_stretch_beyond, defScope st_stretch_beyond, [], []⟩,
  ⟨("too_much", none), "too_much", "too_much", defArgs st_too_much, defBody st_too_much, defScope st_too_much, [], []⟩,
  ⟨("is_stretch_beyond", none), "is_stretch_beyond", "is_stretch_beyond", defArgs st_is_stretch_beyond, defBody st_is_stretch_beyond, defScope st_is_stretch_beyond, [], []⟩,
  ⟨("wants_too_much", none), "wants_too_much", "wants_too_much", defArgs st_wants_too_much, defBody st_wants_too_much, defScope st_wants_too_much, [], []⟩,
  ⟨("_law_cell_at", none), "_law_cell_at", "_law_cell_at", defArgs st__law_cell_at, defBody st__law_cell_at, defScope st__law_cell_at, [], []⟩,
  ⟨("_law_numbers", none), "_law_numbers", "_law_numbers", defArgs st__law_numbers, defBody st__law_numbers, defScope st__law_numbers, [], []⟩,
  ⟨("_law_day", none), "_law_day", "_law_day", defArgs st__law_day, defBody st__law_day, defScope st__law_day, [], []⟩,
  ⟨("_law_days", none), "_law_days", "_law_days", defArgs st__law_days, defBody st__law_days, defScope st__law_days, [], []⟩,
  ⟨("_law_two", none), "_law_two", "_law_two", defArgs st__law_two, defBody st__law_two, defScope st__law_two, [], []⟩,
  ⟨("_law_odd", none), "_law_odd", "_law_odd", defArgs st__law_odd, defBody st__law_odd, defScope st__law_odd, [], []⟩,
  ⟨("_law_at", none), "_law_at", "_law_at", defArgs st__law_at, defBody st__law_at, defScope st__law_at, [], []⟩,
  ⟨("_law_day_spoilt", none), "_law_day_spoilt", "_law_day_spoilt", defArgs st__law_day_spoilt, defBody st__law_day_spoilt, defScope st__law_day_spoilt, [], []⟩]
def dd1 : List He.DefD := [⟨("_law_good_spoilt", none), "_law_good_spoilt", "_law_good_spoilt", defArgs st__law_good_spoilt, defBody st__law_good_spoilt, defScope st__law_good_spoilt, [], []⟩,
  ⟨("_law_spoilt", none), "_law_spoilt", "_law_spoilt", defArgs st__law_spoilt, defBody st__law_spoilt, defScope st__law_spoilt, [], []⟩,
  ⟨("_law_number", none), "_law_number", "_law_number", defArgs st__law_number, defBody st__law_number, defScope st__law_number, [], []⟩,
  ⟨("_law_is_day", none), "_law_is_day", "_law_is_day", defArgs st__law_is_day, defBody st__law_is_day, defScope st__law_is_day, [], []⟩,
  ⟨("_law_wrong_good", none), "_law_wrong_good", "_law_wrong_good", defArgs st__law_wrong_good, defBody st__law_wrong_good, defScope st__law_wrong_good, [], []⟩,
  ⟨("_law_wrong", none), "_law_wrong", "_law_wrong", defArgs st__law_wrong, defBody st__law_wrong, defScope st__law_wrong, [], []⟩,
  ⟨("_law_dark", none), "_law_dark", "_law_dark", defArgs st__law_dark, defBody st__law_dark, defScope st__law_dark, [], []⟩,
  ⟨("_law_named", none), "_law_named", "_law_named", defArgs st__law_named, defBody st__law_named, defScope st__law_named, [], []⟩,
  ⟨("_law_told", none), "_law_told", "_law_told", defArgs st__law_told, defBody st__law_told, defScope st__law_told, [], []⟩,
  ⟨("_law_are_days", none), "_law_are_days", "_law_are_days", defArgs st__law_are_days, defBody st__law_are_days, defScope st__law_are_days, [], []⟩,
  ⟨("_law_is_stretch", none), "_law_is_stretch", "_law_is_stretch", defArgs st__law_is_stretch, defBody st__law_is_stretch, defScope st__law_is_stretch, [], []⟩,
  ⟨("_law_days_bent", none), "_law_days_bent", "_law_days_bent", defArgs st__law_days_bent, defBody st__law_days_bent, defScope st__law_days_bent, [], []⟩,
  ⟨("law", none), "law", "law", defArgs st_law, defBody st_law, defScope st_law, [], []⟩,
  ⟨("NoBakery", some "__init__"), "__init__", "NoBakery.__init__", defArgs si_NoBakery, defBody si_NoBakery, defScope si_NoBakery, [], []⟩]
def exB (K : PySem.W.Frag) : Bool := DL.sysB K && (DL.xfK K ["BakeError", "NoBakery", "TooMuch", "NoDay", "NoDays"] && (DL.noB K "NoDays" && (DL.inB K "NoBakery" ["good", "day"] && (DL.beB K))))
def dd : List He.DefD := dd0 ++ dd1
def fa0 : List He.Fa := [.glo "is_whole",
  .glo "is_within",
  .glo "is_number",
  .glo "is_day",
  .glo "are_lights",
  .glo "is_frame",
  .glo "look_at_good",
  .glo "look_at_bakery",
  .glo "look_at_days",
  .glo "reach_of",
  .glo "reaches_of",
  .glo "is_beyond",
  .glo "stretch_beyond",
  .glo "too_much",
  .glo "is_stretch_beyond",
  .glo "wants_too_much",
  .glo "_law_cell_at",
  .glo "_law_numbers",
  .glo "_law_day",
  .glo "_law_days",
  .glo "_law_two",
  .glo "_law_odd",
  .glo "_law_at",
  .glo "_law_day_spoilt"]
def fa1 : List He.Fa := [.glo "_law_good_spoilt",
  .glo "_law_spoilt",
  .glo "_law_number",
  .glo "_law_is_day",
  .glo "_law_wrong_good",
  .glo "_law_wrong",
  .glo "_law_dark",
  .glo "_law_named",
  .glo "_law_told",
  .glo "_law_are_days",
  .glo "_law_is_stretch",
  .glo "_law_days_bent",
  .glo "law",
  .int "MOST" 1000000000,
  .int "MOST_DAYS" 40,
  .int "MOST_GOODS" 2,
  .int "MOST_LIFE" 40,
  .free "len",
  .free "isinstance",
  .free "range",
  .free "zip",
  .free "enumerate",
  .free "int",
  .free "bool"]
def fa2 : List He.Fa := [.free "str",
  .free "list",
  .free "tuple",
  .free "dict",
  .free "max",
  .free "min",
  .free "all",
  .free "any",
  .free "sum",
  .free "abs",
  .free "repr",
  .free "sorted",
  .free "set"]
def fa : List He.Fa := fa0 ++ fa1 ++ fa2
def loose0 : List PySem.Str := ["BakeError",
  "NoBakery",
  "TooMuch",
  "NoDay",
  "NoDays",
  "MOST",
  "is_whole",
  "is_within",
  "is_number",
  "MOST_DAYS",
  "MOST_LIFE",
  "MOST_GOODS",
  "is_day",
  "are_lights",
  "is_frame",
  "look_at_good",
  "look_at_bakery",
  "look_at_days",
  "reach_of",
  "reaches_of",
  "is_beyond",
  "stretch_beyond",
  "too_much",
  "is_stretch_beyond"]
def loose1 : List PySem.Str := ["wants_too_much",
  "_law_cell_at",
  "_law_numbers",
  "_law_day",
  "_law_days",
  "_law_two",
  "_law_odd",
  "_law_at",
  "_law_day_spoilt",
  "_law_good_spoilt",
  "_law_spoilt",
  "_law_number",
  "_law_is_day",
  "_law_wrong_good",
  "_law_wrong",
  "_law_dark",
  "_law_named",
  "_law_told",
  "_law_are_days",
  "_law_is_stretch",
  "_law_days_bent"]
def loose : List PySem.Str := loose0 ++ loose1
abbrev Rw : PySem.W.OpenRow := PySem.W.OpenLaw.row PySem.Challenge.rw_bakeahead_k44_no_stretches
abbrev hk : PySem.W.Hook := DL.hookE 5 fa dd exB
def ob (s : PySem.W.SharedT) : He.AlD × Bool := DL.obsE 5 fa dd exB (HandSHeadRun.getT s)
theorem ob_eq (s : PySem.W.SharedT) : ob s = hk.obs s.abs := DL.obsE_eq (HandSHeadRun.getT_eq s)
theorem run (w : World) : HandSHeadRun.RunEq Rw (PySem.W.view Rw.prog [51]) hk ob 6000 loose w := by
  intro os
  kernel_rfl
theorem facts {P : Program} {w : World} {K : PySem.W.Frag} {h : Heap} {mg : Str → Option Value} {f : Addr} (X : K.In h) (G : h.Ns mainGlobals mg) (hfa : mg ("law" : Str) = some (.ref f)) (c : He.SaysD fa dd K) (hx : exB K = true) :
    ∃ fd : FuncData, (∀ (s : Shared) (v : Value), BindsTo s fd ⟨[v], []⟩ [("_law_script", v)]) ∧ ∀ base : Heap, K.In base → base.Ns mainGlobals mg → FnG P w K mg base 9 f fd ["_law_script"] (spD K 1 .s dn_law_k44) := by
  have B : Bi mg := ⟨He.free_ok X G (c.fact 41 (f := .free "len") rfl), He.free_ok X G (c.fact 42 (f := .free "isinstance") rfl), He.free_ok X G (c.fact 43 (f := .free "range") rfl), He.free_ok X G (c.fact 44 (f := .free "zip") rfl), He.free_ok X G (c.fact 45 (f := .free "enumerate") rfl), He.free_ok X G (c.fact 46 (f := .free "int") rfl), He.free_ok X G (c.fact 47 (f := .free "bool") rfl), He.free_ok X G (c.fact 48 (f := .free "str") rfl), He.free_ok X G (c.fact 49 (f := .free "list") rfl), He.free_ok X G (c.fact 50 (f := .free "tuple") rfl), He.free_ok X G (c.fact 51 (f := .free "dict") rfl), He.free_ok X G (c.fact 52 (f := .free "max") rfl), He.free_ok X G (c.fact 53 (f := .free "min") rfl), He.free_ok X G (c.fact 54 (f := .free "all") rfl), He.free_ok X G (c.fact 55 (f := .free "any") rfl), He.free_ok X G (c.fact 56 (f := .free "sum") rfl), He.free_ok X G (c.fact 57 (f := .free "abs") rfl), He.free_ok X G (c.fact 58 (f := .free "repr") rfl), He.free_ok X G (c.fact 59 (f := .free "sorted") rfl), He.free_ok X G (c.fact 60 (f := .free "set") rfl)⟩
  have h_MOST : ∃ t, mg "MOST" = some (.int 1000000000 t) := He.int_ok X G (c.fact 37 (f := .int "MOST" 1000000000) rfl)
  have h_MOST_DAYS : ∃ t, mg "MOST_DAYS" = some (.int 40 t) := He.int_ok X G (c.fact 38 (f := .int "MOST_DAYS" 40) rfl)
  have h_MOST_GOODS : ∃ t, mg "MOST_GOODS" = some (.int 2 t) := He.int_ok X G (c.fact 39 (f := .int "MOST_GOODS" 2) rfl)
  have h_MOST_LIFE : ∃ t, mg "MOST_LIFE" = some (.int 40 t) := He.int_ok X G (c.fact 40 (f := .int "MOST_LIFE" 40) rfl)
  obtain ⟨x0, x1, x2, x3, x4⟩ : DL.sysB K = true ∧ DL.xfK K ["BakeError", "NoBakery", "TooMuch", "NoDay", "NoDays"] = true ∧ DL.noB K "NoDays" = true ∧ DL.inB K "NoBakery" ["good", "day"] = true ∧ DL.beB K = true := by
    have z := hx
    unfold exB at z
    simp only [Bool.and_eq_true] at z
    exact z
  have sk := DL.sysB_ok x0
  have xf := DL.xfK_ok X G x1
  have rx_NoDays : RX0 K mg "NoDays" := ⟨xf.g _ (.tail _ (.tail _ (.tail _ (.tail _ (.head _))))), x2, xf.cl _ (.tail _ (.tail _ (.tail _ (.tail _ (.head _)))))⟩
  have be := DL.beB_ok x4
  have in_NoBakery := DL.inB_ok x3
  obtain ⟨fi_NoBakery, Fi_NoBakery⟩ := c.def_ 37 (d := ⟨("NoBakery", some "__init__"), "__init__", "NoBakery.__init__", defArgs si_NoBakery, defBody si_NoBakery, defScope si_NoBakery, [], []⟩) rfl
  have rx_NoBakery : ∀ base : Heap, RXF P w K mg base "NoBakery" ["good", "day"] := fun base => ⟨xf.g _ (.tail _ (.head _)), in_NoBakery, fi_NoBakery, _, Fi_NoBakery.bindsN (ps := ["self", "good", "day"]) (fun _ _ _ _ _ _ us hl => match us, hl with | [_, _, _], _ => rfl), DL.init2 in_NoBakery be (xf.g _ (.head _)) Fi_NoBakery sci_NoBakery rfl rfl rfl rfl (by decide) (by decide) (by decide) (by decide) (fun _ _ _ _ _ _ => ⟨_, rfl⟩)⟩
  obtain ⟨fd, F⟩ := c.def_ 36 (d := ⟨("law", none), "law", "law", defArgs st_law, defBody st_law, defScope st_law, [], []⟩) rfl
  have e := hfa.symm.trans (He.glo_ok X G (c.fact 36 (f := .glo "law") rfl))
  cases e
  have b := FunD.bindsA (ps := ["_law_script"]) F fun _ _ _ _ _ _ us hl => match us, hl with | [_], _ => rfl
  refine ⟨fd, fun s v => b s [v] rfl, fun base _ _ => ?_⟩
  have rx_NoBakery := rx_NoBakery base
  have g_is_whole := ok_is_whole (P := P) (w := w) (base := base) B (c.def_ 0 (d := ⟨("is_whole", none), "is_whole", "is_whole", defArgs st_is_whole, defBody st_is_whole, defScope st_is_whole, [], []⟩) rfl) (He.glo_ok X G (c.fact 0 (f := .glo "is_whole") rfl))
  have g_is_within := ok_is_within (P := P) (w := w) (base := base) B (c.def_ 1 (d := ⟨("is_within", none), "is_within", "is_within", defArgs st_is_within, defBody st_is_within, defScope st_is_within, [], []⟩) rfl) (He.glo_ok X G (c.fact 1 (f := .glo "is_within") rfl)) g_is_whole
  have g_is_number := ok_is_number (P := P) (w := w) (base := base) B h_MOST (c.def_ 2 (d := ⟨("is_number", none), "is_number", "is_number", defArgs st_is_number, defBody st_is_number, defScope st_is_number, [], []⟩) rfl) (He.glo_ok X G (c.fact 2 (f := .glo "is_number") rfl)) g_is_within
  have g_is_day := ok_is_day (P := P) (w := w) (base := base) B (c.def_ 3 (d := ⟨("is_day", none), "is_day", "is_day", defArgs st_is_day, defBody st_is_day, defScope st_is_day, [], []⟩) rfl) (He.glo_ok X G (c.fact 3 (f := .glo "is_day") rfl)) g_is_number
  have g_are_lights := ok_are_lights (P := P) (w := w) (base := base) B h_MOST_DAYS (c.def_ 4 (d := ⟨("are_lights", none), "are_lights", "are_lights", defArgs st_are_lights, defBody st_are_lights, defScope st_are_lights, [], []⟩) rfl) (He.glo_ok X G (c.fact 4 (f := .glo "are_lights") rfl)) g_is_number
  have g_is_frame := ok_is_frame (P := P) (w := w) (base := base) B h_MOST_GOODS h_MOST (c.def_ 5 (d := ⟨("is_frame", none), "is_frame", "is_frame", defArgs st_is_frame, defBody st_is_frame, defScope st_is_frame, [], []⟩) rfl) (He.glo_ok X G (c.fact 5 (f := .glo "is_frame") rfl)) g_is_within g_are_lights
  have g_look_at_good := ok_look_at_good (P := P) (w := w) (base := base) B h_MOST_LIFE rx_NoBakery (c.def_ 6 (d := ⟨("look_at_good", none), "look_at_good", "look_at_good", defArgs st_look_at_good, defBody st_look_at_good, defScope st_look_at_good, [], []⟩) rfl) (He.glo_ok X G (c.fact 6 (f := .glo "look_at_good") rfl)) g_is_day g_is_within
  have g_look_at_bakery := ok_look_at_bakery (P := P) (w := w) (base := base) B rx_NoBakery (c.def_ 7 (d := ⟨("look_at_bakery", none), "look_at_bakery", "look_at_bakery", defArgs st_look_at_bakery, defBody st_look_at_bakery, defScope st_look_at_bakery, [], []⟩) rfl) (He.glo_ok X G (c.fact 7 (f := .glo "look_at_bakery") rfl)) g_look_at_good g_is_frame
  have g_look_at_days := ok_look_at_days (P := P) (w := w) (base := base) B rx_NoDays (c.def_ 8 (d := ⟨("look_at_days", none), "look_at_days", "look_at_days", defArgs st_look_at_days, defBody st_look_at_days, defScope st_look_at_days, [], []⟩) rfl) (He.glo_ok X G (c.fact 8 (f := .glo "look_at_days") rfl)) g_is_within
  have g_reach_of := ok_reach_of (P := P) (w := w) (base := base) B (c.def_ 9 (d := ⟨("reach_of", none), "reach_of", "reach_of", defArgs st_reach_of, defBody st_reach_of, defScope st_reach_of, [], []⟩) rfl) (He.glo_ok X G (c.fact 9 (f := .glo "reach_of") rfl))
  have g_reaches_of := ok_reaches_of (P := P) (w := w) (base := base) B (c.def_ 10 (d := ⟨("reaches_of", none), "reaches_of", "reaches_of", defArgs st_reaches_of, defBody st_reaches_of, defScope st_reaches_of, [], []⟩) rfl) (He.glo_ok X G (c.fact 10 (f := .glo "reaches_of") rfl)) g_reach_of
  have g_is_beyond := ok_is_beyond (P := P) (w := w) (base := base) B (c.def_ 11 (d := ⟨("is_beyond", none), "is_beyond", "is_beyond", defArgs st_is_beyond, defBody st_is_beyond, defScope st_is_beyond, [], []⟩) rfl) (He.glo_ok X G (c.fact 11 (f := .glo "is_beyond") rfl))
  have g_stretch_beyond := ok_stretch_beyond (P := P) (w := w) (base := base) B (c.def_ 12 (d := ⟨("stretch_beyond", none), "stretch_beyond", "stretch_beyond", defArgs st_stretch_beyond, defBody st_stretch_beyond, defScope st_stretch_beyond, [], []⟩) rfl) (He.glo_ok X G (c.fact 12 (f := .glo "stretch_beyond") rfl)) g_is_beyond g_reaches_of
  have g_too_much := ok_too_much (P := P) (w := w) (base := base) B (c.def_ 13 (d := ⟨("too_much", none), "too_much", "too_much", defArgs st_too_much, defBody st_too_much, defScope st_too_much, [], []⟩) rfl) (He.glo_ok X G (c.fact 13 (f := .glo "too_much") rfl)) g_stretch_beyond g_look_at_days g_look_at_bakery
  have g_is_stretch_beyond := ok_is_stretch_beyond (P := P) (w := w) (base := base) B (c.def_ 14 (d := ⟨("is_stretch_beyond", none), "is_stretch_beyond", "is_stretch_beyond", defArgs st_is_stretch_beyond, defBody st_is_stretch_beyond, defScope st_is_stretch_beyond, [], []⟩) rfl) (He.glo_ok X G (c.fact 14 (f := .glo "is_stretch_beyond") rfl)) g_is_beyond g_reaches_of g_is_within
  have g_wants_too_much := ok_wants_too_much (P := P) (w := w) (base := base) B (c.def_ 15 (d := ⟨("wants_too_much", none), "wants_too_much", "wants_too_much", defArgs st_wants_too_much, defBody st_wants_too_much, defScope st_wants_too_much, [], []⟩) rfl) (He.glo_ok X G (c.fact 15 (f := .glo "wants_too_much") rfl)) g_is_stretch_beyond g_look_at_days g_look_at_bakery
  have g__law_cell_at := ok__law_cell_at (P := P) (w := w) (base := base) B (c.def_ 16 (d := ⟨("_law_cell_at", none), "_law_cell_at", "_law_cell_at", defArgs st__law_cell_at, defBody st__law_cell_at, defScope st__law_cell_at, [], []⟩) rfl) (He.glo_ok X G (c.fact 16 (f := .glo "_law_cell_at") rfl))
  have g__law_numbers := ok__law_numbers (P := P) (w := w) (base := base) B (c.def_ 17 (d := ⟨("_law_numbers", none), "_law_numbers", "_law_numbers", defArgs st__law_numbers, defBody st__law_numbers, defScope st__law_numbers, [], []⟩) rfl) (He.glo_ok X G (c.fact 17 (f := .glo "_law_numbers") rfl))
  have g__law_day := ok__law_day (P := P) (w := w) (base := base) B (c.def_ 18 (d := ⟨("_law_day", none), "_law_day", "_law_day", defArgs st__law_day, defBody st__law_day, defScope st__law_day, [], []⟩) rfl) (He.glo_ok X G (c.fact 18 (f := .glo "_law_day") rfl))
  have g__law_days := ok__law_days (P := P) (w := w) (base := base) B (c.def_ 19 (d := ⟨("_law_days", none), "_law_days", "_law_days", defArgs st__law_days, defBody st__law_days, defScope st__law_days, [], []⟩) rfl) (He.glo_ok X G (c.fact 19 (f := .glo "_law_days") rfl)) g__law_day g__law_numbers g__law_cell_at
  have g__law_two := ok__law_two (P := P) (w := w) (base := base) B (c.def_ 20 (d := ⟨("_law_two", none), "_law_two", "_law_two", defArgs st__law_two, defBody st__law_two, defScope st__law_two, [], []⟩) rfl) (He.glo_ok X G (c.fact 20 (f := .glo "_law_two") rfl)) g__law_days g__law_numbers g__law_cell_at
  have g__law_odd := ok__law_odd (P := P) (w := w) (base := base) B (c.def_ 21 (d := ⟨("_law_odd", none), "_law_odd", "_law_odd", defArgs st__law_odd, defBody st__law_odd, defScope st__law_odd, [], []⟩) rfl) (He.glo_ok X G (c.fact 21 (f := .glo "_law_odd") rfl))
  have g__law_at := ok__law_at (P := P) (w := w) (base := base) B (c.def_ 22 (d := ⟨("_law_at", none), "_law_at", "_law_at", defArgs st__law_at, defBody st__law_at, defScope st__law_at, [], []⟩) rfl) (He.glo_ok X G (c.fact 22 (f := .glo "_law_at") rfl))
  have g__law_day_spoilt := ok__law_day_spoilt (P := P) (w := w) (base := base) B (c.def_ 23 (d := ⟨("_law_day_spoilt", none), "_law_day_spoilt", "_law_day_spoilt", defArgs st__law_day_spoilt, defBody st__law_day_spoilt, defScope st__law_day_spoilt, [], []⟩) rfl) (He.glo_ok X G (c.fact 23 (f := .glo "_law_day_spoilt") rfl)) g__law_odd
  have g__law_good_spoilt := ok__law_good_spoilt (P := P) (w := w) (base := base) B (c.def_ 24 (d := ⟨("_law_good_spoilt", none), "_law_good_spoilt", "_law_good_spoilt", defArgs st__law_good_spoilt, defBody st__law_good_spoilt, defScope st__law_good_spoilt, [], []⟩) rfl) (He.glo_ok X G (c.fact 24 (f := .glo "_law_good_spoilt") rfl)) g__law_odd g__law_at g__law_day_spoilt
  have g__law_spoilt := ok__law_spoilt (P := P) (w := w) (base := base) B (c.def_ 25 (d := ⟨("_law_spoilt", none), "_law_spoilt", "_law_spoilt", defArgs st__law_spoilt, defBody st__law_spoilt, defScope st__law_spoilt, [], []⟩) rfl) (He.glo_ok X G (c.fact 25 (f := .glo "_law_spoilt") rfl)) g__law_at g__law_good_spoilt g__law_odd
  have g__law_number := ok__law_number (P := P) (w := w) (base := base) B (c.def_ 26 (d := ⟨("_law_number", none), "_law_number", "_law_number", defArgs st__law_number, defBody st__law_number, defScope st__law_number, [], []⟩) rfl) (He.glo_ok X G (c.fact 26 (f := .glo "_law_number") rfl))
  have g__law_is_day := ok__law_is_day (P := P) (w := w) (base := base) B (c.def_ 27 (d := ⟨("_law_is_day", none), "_law_is_day", "_law_is_day", defArgs st__law_is_day, defBody st__law_is_day, defScope st__law_is_day, [], []⟩) rfl) (He.glo_ok X G (c.fact 27 (f := .glo "_law_is_day") rfl)) g__law_number
  have g__law_wrong_good := ok__law_wrong_good (P := P) (w := w) (base := base) B (c.def_ 28 (d := ⟨("_law_wrong_good", none), "_law_wrong_good", "_law_wrong_good", defArgs st__law_wrong_good, defBody st__law_wrong_good, defScope st__law_wrong_good, [], []⟩) rfl) (He.glo_ok X G (c.fact 28 (f := .glo "_law_wrong_good") rfl)) g__law_is_day g__law_number
  have g__law_wrong := ok__law_wrong (P := P) (w := w) (base := base) B (c.def_ 29 (d := ⟨("_law_wrong", none), "_law_wrong", "_law_wrong", defArgs st__law_wrong, defBody st__law_wrong, defScope st__law_wrong, [], []⟩) rfl) (He.glo_ok X G (c.fact 29 (f := .glo "_law_wrong") rfl)) g__law_wrong_good g__law_number
  have g__law_dark := ok__law_dark (P := P) (w := w) (base := base) B (c.def_ 30 (d := ⟨("_law_dark", none), "_law_dark", "_law_dark", defArgs st__law_dark, defBody st__law_dark, defScope st__law_dark, [], []⟩) rfl) (He.glo_ok X G (c.fact 30 (f := .glo "_law_dark") rfl))
  have g__law_named := ok__law_named (P := P) (w := w) (base := base) B xf (c.def_ 31 (d := ⟨("_law_named", none), "_law_named", "_law_named", defArgs st__law_named, defBody st__law_named, defScope st__law_named, [], []⟩) rfl) (He.glo_ok X G (c.fact 31 (f := .glo "_law_named") rfl))
  have g__law_told := ok__law_told (P := P) (w := w) (base := base) B xf (c.def_ 32 (d := ⟨("_law_told", none), "_law_told", "_law_told", defArgs st__law_told, defBody st__law_told, defScope st__law_told, [], []⟩) rfl) (He.glo_ok X G (c.fact 32 (f := .glo "_law_told") rfl)) g__law_named g_too_much g_wants_too_much
  have g__law_are_days := ok__law_are_days (P := P) (w := w) (base := base) B (c.def_ 33 (d := ⟨("_law_are_days", none), "_law_are_days", "_law_are_days", defArgs st__law_are_days, defBody st__law_are_days, defScope st__law_are_days, [], []⟩) rfl) (He.glo_ok X G (c.fact 33 (f := .glo "_law_are_days") rfl)) g__law_number
  have g__law_is_stretch := ok__law_is_stretch (P := P) (w := w) (base := base) B (c.def_ 34 (d := ⟨("_law_is_stretch", none), "_law_is_stretch", "_law_is_stretch", defArgs st__law_is_stretch, defBody st__law_is_stretch, defScope st__law_is_stretch, [], []⟩) rfl) (He.glo_ok X G (c.fact 34 (f := .glo "_law_is_stretch") rfl)) g__law_number
  have g__law_days_bent := ok__law_days_bent (P := P) (w := w) (base := base) B (c.def_ 35 (d := ⟨("_law_days_bent", none), "_law_days_bent", "_law_days_bent", defArgs st__law_days_bent, defBody st__law_days_bent, defScope st__law_days_bent, [], []⟩) rfl) (He.glo_ok X G (c.fact 35 (f := .glo "_law_days_bent") rfl)) g__law_odd
  exact ok_law B sk F g__law_is_stretch g_wants_too_much g__law_told g__law_wrong g__law_are_days g__law_spoilt g__law_days_bent g__law_odd g__law_dark g__law_numbers g__law_two
end K44
open PySem PySem.W PySem.Calls PyProof.Rows
set_option maxRecDepth 100000 in
set_option maxHeartbeats 8000000 in
theorem PySem.Challenge.cw_bakeahead_k44_no_stretches_holds : PySem.Challenge.rw_bakeahead_k44_no_stretches.Holds := by
  w_on; o_law
  refine HandSHeadRun.head_any (r := OpenLaw.row PySem.Challenge.rw_bakeahead_k44_no_stretches) (q := view (OpenLaw.row PySem.Challenge.rw_bakeahead_k44_no_stretches).prog [51]) (H := K44.hk) (ob := K44.ob) (M := 6000) (loose := K44.loose) (d := HandSHeadRun.topDef (OpenLaw.row PySem.Challenge.rw_bakeahead_k44_no_stretches).prog 51) (kwd := []) K44.ob_eq
    (by kernel_rfl) (fun s => by kernel_rfl) K44.run (by kernel_rfl) (by kernel_rfl) (by kernel_rfl) (by rfl) (by first | assumption | decide +kernel) (by decide +kernel) ⟨rfl, rfl, rfl, rfl, rfl, by decide +kernel⟩ ?hw ?hc
  case hw => w_witness2
  case hc =>
    refine DL.walk_G (l := PySem.Challenge.rw_bakeahead_k44_no_stretches) (n := 63) (k := 9) (x := "_law_script") rfl (by decide) (by kernel_rfl) ⟨rfl, by decide, by decide⟩ ?F
    intro w mg fa h Y G hmg0
    obtain ⟨K, KX, c, hx⟩ := Y
    have hmg : mg ("law" : PySem.Str) = some (.ref fa) := by
      have e : (HandSHeadRun.topDef (OpenLaw.row PySem.Challenge.rw_bakeahead_k44_no_stretches).prog 51).name = ("law" : PySem.Str) := by kernel_rfl
      rw [← e]
      exact hmg0
    obtain ⟨fd, hb, hF⟩ := K44.facts (P := (PySem.Challenge.rw_bakeahead_k44_no_stretches).prog) (w := w) KX G hmg c hx
    exact ⟨K, fd, .s, K44.dn_law_k44, KX, hb, fun ns hl => K44.law_true ns hl, hF⟩
