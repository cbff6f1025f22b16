import PyProof.Rows.All
import Wide.All
import OpenK.AllK
import Wide.FinOn
import HandS.ForMost
import HandS.Exc
import HandS.TryOnly
import HandS.WordsExc
import HandS.IsInst
import HandS.Wide
import HandS.HeadHook4
import HandS.TupAny
import HandS.TupLe
import HandS.Deep
import HandS.Text
import HandS.Strs
import HandS.HeadEnd
import HandS.Head0
import HandS.Head1
import HandS.Head2
import HandS.Style
import HandS.SortInts
import HandS.TupSets
import HandS.SetFor
import KE.KSortTupG
import HandS.Conv
import HandS.Sort
import HandS.ExcInit
import HandS.ExcOwn
import HandS.Defaults
import HandS.HeadHook2
import KE.KExcIs
import HandS.Flt
import HandS.Zip
import PyProof.StrLawsRepr
import PySem.Challenge.RW_bakeahead_k61_plans_with_doughs_that_fit
set_option Elab.async false
set_option linter.all false
set_option maxRecDepth 100000
set_option maxHeartbeats 1000000
namespace DL
open PySem PySem.Spec PyProof.Rows L2
inductive T where
  | non | bl (b : Bool) | int (i : Int) | str (x : Str)
  | lst (xs : List T) | tup (xs : List T)
  | dic (kvs : List (Key × T)) | dit (kvs : List (List Key × T))
  | exc (c : Str) (fs : List (Str × T))
  | scr (ns : List Int)
  | ins (c : Str) (fs : List (Str × T))
  | ob (n : Nat)
inductive R (α : Type) where
  | ok (a : α) | ex (c : Str) (fs : List (Str × T)) | bad
@[simp] def R.bind {α β : Type} : R α → (α → R β) → R β
  | .ok a, f => f a
  | .ex c fs, _ => .ex c fs
  | .bad, _ => .bad
def xO (cls : Value) (dd : Option Addr) (a : Addr) : HO := .ext fun h => ∃ (oe : Obj) (vs : Array Value), h.get? a = some oe ∧ Zc cls dd oe ∧ oe.data = .fields vs
def KL (K : PySem.W.Frag) (a : Addr) (xs : List V) : Prop := ∃ (o : Obj) (its : Array Value) (n : Nat), K.lookup a = some o ∧ o.cls = .type "list" ∧ o.dict = none ∧ o.data = .seq its n ∧ its.size ≤ sizeLine ∧ Vals xs its.toList
def NdT (K : PySem.W.Frag) (S : Addr → Prop) (H : Hp) (a : Addr) (xs : List V) : Prop := ¬ S a ∧ H a = some (.tup xs)
def NdL (K : PySem.W.Frag) (S : Addr → Prop) (H : Hp) (a : Addr) (xs : List V) : Prop := (¬ S a ∧ Rd H a (.lst xs)) ∨ KL K a xs
section
variable {K : PySem.W.Frag} {S S' : Addr → Prop} {H H' : Hp} {a : Addr} {xs : List V}
theorem NdT.sq (h : NdT K S H a xs) : SqT K H a xs := .inl (.inl h.2)
theorem NdL.sq (h : NdL K S H a xs) : SqL K H a xs := h.elim (fun z => .inl z.2) fun z => .inr z
def Mv (S S' : Addr → Prop) (H H' : Hp) : Prop := ∀ a o, H a = some o → ¬ S a → H' a = some o ∧ ¬ S' a
theorem NdT.mv (m : Mv S S' H H') (h : NdT K S H a xs) : NdT K S' H' a xs := ⟨(m _ _ h.2 h.1).2, (m _ _ h.2 h.1).1⟩
theorem NdL.mv (m : Mv S S' H H') (h : NdL K S H a xs) : NdL K S' H' a xs := by
  rcases h with ⟨n, r | ⟨o, r⟩⟩ | h
  · exact .inl ⟨(m _ _ r n).2, .inl (m _ _ r n).1⟩
  · exact .inl ⟨(m _ _ r n).2, .inr ⟨o, (m _ _ r n).1⟩⟩
  · exact .inr h
end
mutual
inductive IsT (K : PySem.W.Frag) (S : Addr → Prop) (H : Hp) : V → T → Prop
  | non : IsT K S H .non .non
  | bl (b : Bool) : IsT K S H (.bl b) (.bl b)
  | int (i : Int) : IsT K S H (.int i) (.int i)
  | str (x : Str) : IsT K S H (.str x) (.str x)
  | lst {a : Addr} {xs : List V} {ts : List T} (n : ¬ S a) (h : H a = some (.lst xs)) (r : IsTs K S H xs ts) : IsT K S H (.ref a) (.lst ts)
  | tup {a : Addr} {xs : List V} {ts : List T} (h : NdT K S H a xs) (r : IsTs K S H xs ts) : IsT K S H (.ref a) (.tup ts)
  | dic {a : Addr} {xs : List (Key × V)} {ts : List (Key × T)} (n : ¬ S a) (h : H a = some (.dK xs)) (r : IsKs K S H xs ts) : IsT K S H (.ref a) (.dic ts)
  | dit {a : Addr} {xs : List (List Key × V)} {ts : List (List Key × T)} (n : ¬ S a) (h : H a = some (.dT xs)) (r : IsLs K S H xs ts) : IsT K S H (.ref a) (.dit ts)
  | exc0 {a : Addr} {c : Str} (n : ¬ S a) (h : H a = some (xO (.ref (He.ga K c)) none a)) : IsT K S H (.ref a) (.exc c [])
  | exc {a d : Addr} {c : Str} {xs : List (Str × V)} {fs : List (Str × T)} (n : ¬ S a) (h : H a = some (xO (.ref (He.ga K c)) (some d) a)) (m : ¬ S d) (g : H d = some (.xd xs)) (r : IsFs K S H xs fs) : IsT K S H (.ref a) (.exc c fs)
  | scr {a : Addr} {ns : List Int} (h : NdL K S H a (ns.map V.int)) : IsT K S H (.ref a) (.scr ns)
  | ins {a dx : Addr} {c : Str} {xs : List (Str × V)} {fs : List (Str × T)} (n : ¬ S a) (h : H a = some (.ins (He.ga K c) dx xs)) (r : IsFs K S H xs fs) : IsT K S H (.ref a) (.ins c fs)
inductive IsTs (K : PySem.W.Frag) (S : Addr → Prop) (H : Hp) : List V → List T → Prop
  | nil : IsTs K S H [] []
  | cons {v : V} {t : T} {vs : List V} {ts : List T} (h : IsT K S H v t) (r : IsTs K S H vs ts) : IsTs K S H (v :: vs) (t :: ts)
inductive IsKs (K : PySem.W.Frag) (S : Addr → Prop) (H : Hp) : List (Key × V) → List (Key × T) → Prop
  | nil : IsKs K S H [] []
  | cons {k : Key} {v : V} {t : T} {vs : List (Key × V)} {ts : List (Key × T)} (h : IsT K S H v t) (r : IsKs K S H vs ts) : IsKs K S H ((k, v) :: vs) ((k, t) :: ts)
inductive IsLs (K : PySem.W.Frag) (S : Addr → Prop) (H : Hp) : List (List Key × V) → List (List Key × T) → Prop
  | nil : IsLs K S H [] []
  | cons {k : List Key} {v : V} {t : T} {vs : List (List Key × V)} {ts : List (List Key × T)} (h : IsT K S H v t) (r : IsLs K S H vs ts) : IsLs K S H ((k, v) :: vs) ((k, t) :: ts)
inductive IsFs (K : PySem.W.Frag) (S : Addr → Prop) (H : Hp) : List (Str × V) → List (Str × T) → Prop
  | nil : IsFs K S H [] []
  | cons {k : Str} {v : V} {t : T} {vs : List (Str × V)} {ts : List (Str × T)} (h : IsT K S H v t) (r : IsFs K S H vs ts) : IsFs K S H ((k, v) :: vs) ((k, t) :: ts)
end
section
variable {K : PySem.W.Frag} {S S' : Addr → Prop} {H H' : Hp}
mutual
theorem IsT.mv (m : Mv S S' H H') : ∀ {v : V} {t : T}, IsT K S H v t → IsT K S' H' v t
  | _, _, .non => .non
  | _, _, .bl b => .bl b
  | _, _, .int i => .int i
  | _, _, .str x => .str x
  | _, _, .lst n h r => .lst (m _ _ h n).2 (m _ _ h n).1 (IsTs.mv m r)
  | _, _, .tup h r => .tup (h.mv m) (IsTs.mv m r)
  | _, _, .dic n h r => .dic (m _ _ h n).2 (m _ _ h n).1 (IsKs.mv m r)
  | _, _, .dit n h r => .dit (m _ _ h n).2 (m _ _ h n).1 (IsLs.mv m r)
  | _, _, .exc0 n h => .exc0 (m _ _ h n).2 (m _ _ h n).1
  | _, _, .exc n h n2 g r => .exc (m _ _ h n).2 (m _ _ h n).1 (m _ _ g n2).2 (m _ _ g n2).1 (IsFs.mv m r)
  | _, _, .scr h => .scr (h.mv m)
  | _, _, .ins n h r => .ins (m _ _ h n).2 (m _ _ h n).1 (IsFs.mv m r)
theorem IsTs.mv (m : Mv S S' H H') : ∀ {v : List V} {t : List T}, IsTs K S H v t → IsTs K S' H' v t
  | _, _, .nil => .nil
  | _, _, .cons h r => .cons (IsT.mv m h) (IsTs.mv m r)
theorem IsKs.mv (m : Mv S S' H H') : ∀ {v : List (Key × V)} {t : List (Key × T)}, IsKs K S H v t → IsKs K S' H' v t
  | _, _, .nil => .nil
  | _, _, .cons h r => .cons (IsT.mv m h) (IsKs.mv m r)
theorem IsLs.mv (m : Mv S S' H H') : ∀ {v : List (List Key × V)} {t : List (List Key × T)}, IsLs K S H v t → IsLs K S' H' v t
  | _, _, .nil => .nil
  | _, _, .cons h r => .cons (IsT.mv m h) (IsLs.mv m r)
theorem IsFs.mv (m : Mv S S' H H') : ∀ {v : List (Str × V)} {t : List (Str × T)}, IsFs K S H v t → IsFs K S' H' v t
  | _, _, .nil => .nil
  | _, _, .cons h r => .cons (IsT.mv m h) (IsFs.mv m r)
end
theorem mv_same (s : Same H H') : Mv S S H H' := fun a o h n => ⟨s a o h, n⟩
theorem mv_less (l : ∀ a, S' a → S a) : Mv S S' H H := fun a o h n => ⟨h, fun z => n (l a z)⟩
theorem mv_new {p : Addr} {o : HO} (h : H p = none) : Mv S (fun a => S a ∨ a = p) H (upd H p o) := fun a u e n => by
  have ne : a ≠ p := ne_of_none e h
  exact ⟨by rw [upd_ne ne]; exact e, fun z => z.elim n ne⟩
theorem same_upd {p : Addr} {o : HO} (h : H p = none) : Same H (upd H p o) := fun a u e => by
  rw [upd_ne (ne_of_none e h)]; exact e
theorem IsTs.len : ∀ {vs : List V} {ts : List T}, IsTs K S H vs ts → vs.length = ts.length
  | _, _, .nil => rfl
  | _, _, .cons _ r => by simp [IsTs.len r]
theorem IsTs.get : ∀ {vs : List V} {ts : List T}, IsTs K S H vs ts → ∀ {i : Nat} {t : T}, ts[i]? = some t → ∃ v, vs[i]? = some v ∧ IsT K S H v t
  | _, _, .nil, _, _, h => by simp at h
  | _, _, .cons h r, 0, t, e => by simp at e; subst e; exact ⟨_, rfl, h⟩
  | _, _, .cons h r, i + 1, t, e => by
    obtain ⟨v, a, b⟩ := IsTs.get r (i := i) (t := t) (by simpa using e)
    exact ⟨v, by simpa using a, b⟩
theorem IsTs.getv : ∀ {vs : List V} {ts : List T}, IsTs K S H vs ts → ∀ {i : Nat} {v : V}, vs[i]? = some v → ∃ t, ts[i]? = some t ∧ IsT K S H v t
  | _, _, .nil, _, _, h => by simp at h
  | _, _, .cons h r, 0, t, e => by simp at e; subst e; exact ⟨_, rfl, h⟩
  | _, _, .cons h r, i + 1, t, e => by
    obtain ⟨v, a, b⟩ := IsTs.getv r (i := i) (v := t) (by simpa using e)
    exact ⟨v, by simpa using a, b⟩
theorem IsTs.app : ∀ {vs : List V} {ts : List T} {ws : List V} {us : List T}, IsTs K S H vs ts → IsTs K S H ws us → IsTs K S H (vs ++ ws) (ts ++ us)
  | _, _, _, _, .nil, s => s
  | _, _, _, _, .cons h r, s => .cons h (IsTs.app r s)
theorem IsTs.take : ∀ {vs : List V} {ts : List T} (n : Nat), IsTs K S H vs ts → IsTs K S H (vs.take n) (ts.take n)
  | _, _, 0, _ => .nil
  | _, _, _ + 1, .nil => .nil
  | _, _, n + 1, .cons h r => .cons h (IsTs.take n r)
theorem IsTs.drop : ∀ {vs : List V} {ts : List T} (n : Nat), IsTs K S H vs ts → IsTs K S H (vs.drop n) (ts.drop n)
  | _, _, 0, r => r
  | _, _, _ + 1, .nil => .nil
  | _, _, n + 1, .cons _ r => IsTs.drop n r
theorem IsTs.set {v : V} {t : T} (z : IsT K S H v t) : ∀ {vs : List V} {ts : List T} (n : Nat), IsTs K S H vs ts → IsTs K S H (vs.set n v) (ts.set n t)
  | _, _, _, .nil => .nil
  | _, _, 0, .cons _ r => .cons z r
  | _, _, n + 1, .cons h r => .cons h (IsTs.set z n r)
end
end DL
set_option maxHeartbeats 1000000
namespace DL
abbrev Sg := L2.St
open PySem PySem.Spec PyProof.Rows L2
abbrev Lo := List (Option (T × Bool))
def Mu (H : Hp) (a : Addr) : Prop := ∃ o, H a = some o ∧ ∀ xs, o ≠ .tup xs
theorem Mu.ne {H : Hp} {a : Addr} (h : Mu H a) : H a ≠ none := fun z => by
  obtain ⟨o, e, _⟩ := h
  rw [z] at e; cases e
theorem Mu.up {H H' : Hp} {a : Addr} (s : Same H H') (h : Mu H a) : Mu H' a := by
  obtain ⟨o, e, n⟩ := h
  exact ⟨o, s a o e, n⟩
theorem Mu.oth {H : Hp} {a b : Addr} {o : HO} (h : Mu H a) (n : a ≠ b) : Mu (upd H b o) a := by
  obtain ⟨u, e, m⟩ := h
  exact ⟨u, by rw [upd_ne n]; exact e, m⟩
theorem Mu.new {H : Hp} {a : Addr} {o : HO} (n : ∀ xs, o ≠ .tup xs) : Mu (upd H a o) a := ⟨o, upd_same, n⟩
inductive OwC (K : PySem.W.Frag) (S : Addr → Prop) (H : Hp) (a : Addr) : T → Prop
  | lst {xs : List V} {ts : List T} (h : H a = some (.lst xs)) (r : IsTs K S H xs ts) : OwC K S H a (.lst ts)
  | dic {xs : List (Key × V)} {ts : List (Key × T)} (h : H a = some (.dK xs)) (r : IsKs K S H xs ts) : OwC K S H a (.dic ts)
  | dit {xs : List (List Key × V)} {ts : List (List Key × T)} (h : H a = some (.dT xs)) (r : IsLs K S H xs ts) : OwC K S H a (.dit ts)
def Own (σ : Sg) (ev : Lo) (a : Addr) : Prop := ∃ (i : Nat) (t : T), ev[i]? = some (some (t, true)) ∧ σ[i]? = some (some (.ref a))
def Sx (S0 : Addr → Prop) (σ : Sg) (ev : Lo) (a : Addr) : Prop := S0 a ∨ Own σ ev a
section
variable {K : PySem.W.Frag} {S S' : Addr → Prop} {H H' : Hp} {a : Addr} {t : T}
theorem OwC.mv (m : Mv S S' H H') (e : H' a = H a) : OwC K S H a t → OwC K S' H' a t
  | .lst h r => .lst (e.trans h) (r.mv m)
  | .dic h r => .dic (e.trans h) (r.mv m)
  | .dit h r => .dit (e.trans h) (r.mv m)
theorem OwC.some : OwC K S H a t → ∃ o, H a = some o
  | .lst h _ => ⟨_, h⟩
  | .dic h _ => ⟨_, h⟩
  | .dit h _ => ⟨_, h⟩
theorem OwC.mu : OwC K S H a t → Mu H a
  | .lst h _ => ⟨_, h, fun _ z => nomatch z⟩
  | .dic h _ => ⟨_, h, fun _ z => nomatch z⟩
  | .dit h _ => ⟨_, h, fun _ z => nomatch z⟩
theorem OwC.same (s : Same H H') (c : OwC K S H a t) : OwC K S H' a t := by
  obtain ⟨o, e⟩ := c.some
  exact c.mv (mv_same s) (by rw [e]; exact s _ _ e)
theorem OwC.isT (n : ¬ S a) : OwC K S H a t → IsT K S H (.ref a) t
  | .lst h r => .lst n h r
  | .dic h r => .dic n h r
  | .dit h r => .dit n h r
end
structure Rp (K : PySem.W.Frag) (S0 : Addr → Prop) (H0 : Hp) (ps : List (V × T)) (σ : Sg) (H : Hp) (ev : Lo) : Prop where
  same : Same H0 H
  s0 : ∀ a, S0 a → Mu H a
  frz : ∀ (i : Nat) (t : T), ev[i]? = some (some (t, false)) → ∃ v, σ[i]? = some (some v) ∧ IsT K (Sx S0 σ ev) H v t
  own : ∀ (i : Nat) (t : T), ev[i]? = some (some (t, true)) → ∃ a, σ[i]? = some (some (.ref a)) ∧ ¬ S0 a ∧ H0 a = none ∧ OwC K (Sx S0 σ ev) H a t
  inj : ∀ (i j : Nat) (t u : T) (a : Addr), ev[i]? = some (some (t, true)) → ev[j]? = some (some (u, true)) → σ[i]? = some (some (.ref a)) → σ[j]? = some (some (.ref a)) → i = j
  pin : ∀ p ∈ ps, IsT K (Sx S0 σ ev) H p.1 p.2
  len : σ.length = ev.length
section
variable {K : PySem.W.Frag} {S0 : Addr → Prop} {H0 H H' : Hp} {ps : List (V × T)} {σ : Sg} {ev : Lo}
theorem Rp.up (r : Rp K S0 H0 ps σ H ev) (s : Same H H') : Rp K S0 H0 ps σ H' ev where
  same := r.same.trans s
  s0 := fun a h => (r.s0 a h).up s
  frz := fun i t h => let ⟨v, a, b⟩ := r.frz i t h; ⟨v, a, b.mv (mv_same s)⟩
  own := fun i t h => let ⟨a, b, c, d, e⟩ := r.own i t h; ⟨a, b, c, d, e.same s⟩
  inj := r.inj
  pin := fun p h => (r.pin p h).mv (mv_same s)
  len := r.len
theorem Rp.sx (r : Rp K S0 H0 ps σ H ev) : ∀ a, Sx S0 σ ev a → Mu H a := fun a h => by
  rcases h with h | ⟨i, t, h1, h2⟩
  · exact r.s0 a h
  · obtain ⟨b, e, _, _, c⟩ := r.own i t h1
    rw [e] at h2
    cases h2
    exact c.mu
end
def isMut : T → Bool
  | .lst _ => true
  | .dic _ => true
  | .dit _ => true
  | _ => false
inductive Md where
  | s | w | f
def Pm (K : PySem.W.Frag) : Md → (Addr → Prop) → Hp → Hp → V → T → Prop
  | .s => fun S _ H' v t => IsT K S H' v t
  | .w => fun S _ H' v t => IsT K S H' v t ∨ ∃ a, v = .ref a ∧ OwC K S H' a t
  | .f => fun S H H' v t => (isMut t = false ∧ IsT K S H' v t) ∨ ∃ a, v = .ref a ∧ H a = none ∧ OwC K (fun b => S b ∨ b = a) H' a t
def R.on {α : Type} (r : R α) (A : α → Prop) (B : Str → List (Str × T) → Prop) : Prop := match r with
  | .ok a => A a
  | .ex c fs => B c fs
  | .bad => False
theorem R.on_bind {α β : Type} {r : R α} {f : α → R β} {A : β → Prop} {B : Str → List (Str × T) → Prop} (h : (r.bind f).on A B) : r.on (fun a => (f a).on A B) B := by
  cases r <;> exact h
theorem R.on_mono {α : Type} {r : R α} {A A' : α → Prop} {B B' : Str → List (Str × T) → Prop} (h : r.on A B) (hA : ∀ a, A a → A' a) (hB : ∀ c fs, B c fs → B' c fs) : r.on A' B' := by
  cases r with
  | ok a => exact hA _ h
  | ex c fs => exact hB _ _ h
  | bad => exact h
def ofO {α : Type} : Option α → R α
  | some a => .ok a
  | none => .bad
@[simp] theorem ofO_some {α : Type} (a : α) : ofO (some a) = .ok a := rfl
@[simp] theorem ofO_none {α : Type} : ofO (none : Option α) = .bad := rfl
def IsX (K : PySem.W.Frag) (S : Addr → Prop) (H : Hp) (cls : Value) (dd : Option Addr) (c : Str) (fs : List (Str × T)) : Prop :=
  cls = .ref (He.ga K c) ∧ ((dd = none ∧ fs = []) ∨ ∃ d xs, dd = some d ∧ ¬ S d ∧ H d = some (.xd xs) ∧ IsFs K S H xs fs)
theorem IsX.same {K : PySem.W.Frag} {S : Addr → Prop} {H H' : Hp} {cls : Value} {dd : Option Addr} {c : Str} {fs : List (Str × T)} (s : Same H H') (x : IsX K S H cls dd c fs) : IsX K S H' cls dd c fs := by
  obtain ⟨e, h | ⟨d, xs, e1, n, g, r⟩⟩ := x
  · exact ⟨e, .inl h⟩
  · exact ⟨e, .inr ⟨d, xs, e1, n, s _ _ g, r.mv (mv_same s)⟩⟩
def tG (m : Md) (K : PySem.W.Frag) (S0 : Addr → Prop) (H0 : Hp) (W : WX) (d : Lo → R T) : TE := fun σ H Q => ∃ ev ps, Rp K S0 H0 ps σ H ev ∧
  (d ev).on (fun t => ∀ v H', Same H H' → Pm K m (Sx S0 σ ev) H H' v t → Q v H') (fun c fs => ∀ cls dd H', Same H H' → IsX K (Sx S0 σ ev) H' cls dd c fs → W cls dd σ H')
def tB (K : PySem.W.Frag) (S0 : Addr → Prop) (H0 : Hp) (W : WX) (d : Lo → R Bool) : TT := fun σ H Q => ∃ ev ps, Rp K S0 H0 ps σ H ev ∧
  (d ev).on (fun b => ∀ H', Same H H' → Q b H') (fun c fs => ∀ cls dd H', Same H H' → IsX K (Sx S0 σ ev) H' cls dd c fs → W cls dd σ H')
def tA (K : PySem.W.Frag) (S0 : Addr → Prop) (H0 : Hp) (W : WX) (d : Lo → R (List T)) : TA := fun σ H Q => ∃ ev ps, Rp K S0 H0 ps σ H ev ∧
  (d ev).on (fun ts => ∀ vs H', Same H H' → IsTs K (Sx S0 σ ev) H' vs ts → Q vs H') (fun c fs => ∀ cls dd H', Same H H' → IsX K (Sx S0 σ ev) H' cls dd c fs → W cls dd σ H')
section
variable {X : Cx} {e a b : Expr} {K : PySem.W.Frag} {S S0 : Addr → Prop} {H0 : Hp} {W : WX} {d da db : Lo → R T} {pos : Pos} {m ma mb : Md}
theorem pe_imp {t t' : TE} (h : PE X e t) (f : ∀ σ H Q, t' σ H Q → t σ H Q) : PE X e t' := ⟨fun pins s σ H Q I z => h.run pins s σ H Q I (f σ H Q z)⟩
theorem pt_imp {t t' : TT} (h : PT X e t) (f : ∀ σ H Q, t' σ H Q → t σ H Q) : PT X e t' := ⟨fun pins s σ H Q I z => h.run pins s σ H Q I (f σ H Q z)⟩
theorem Pm.up {H H1 H2 : Hp} {v : V} {t : T} (s : Same H1 H2) (h : Pm K m S H H1 v t) : Pm K m S H H2 v t := by
  cases m with
  | s => exact IsT.mv (mv_same s) h
  | w => exact h.elim (fun z => .inl (z.mv (mv_same s))) fun ⟨a, e, c⟩ => .inr ⟨a, e, c.same s⟩
  | f => exact h.elim (fun z => .inl ⟨z.1, z.2.mv (mv_same s)⟩) fun ⟨a, e, n, c⟩ => .inr ⟨a, e, n, c.same s⟩
theorem Pm.back {H H1 H2 : Hp} {v : V} {t : T} (s : Same H H1) (h : Pm K m S H1 H2 v t) : Pm K m S H H2 v t := by
  cases m with
  | s => exact h
  | w => exact h
  | f => exact h.elim (fun z => .inl z) fun ⟨a, e, n, c⟩ => .inr ⟨a, e, s.free n, c⟩
theorem Pm.weak {H H1 : Hp} {v : V} {t : T} (hs : ∀ a, S a → Mu H a) (h : Pm K m S H H1 v t) : Pm K .w S H H1 v t := by
  cases m with
  | s => exact .inl h
  | w => exact h
  | f => exact h.elim (fun z => .inl z.2) fun ⟨a, e, n, c⟩ => .inr ⟨a, e, c.mv (mv_less fun b z => .inl z) rfl⟩
theorem Pm.strong {H H1 : Hp} {v : V} {t : T} (hm : m ≠ .w) (hs : ∀ a, S a → Mu H a) (h : Pm K m S H H1 v t) : Pm K .s S H H1 v t := by
  cases m with
  | s => exact h
  | w => exact absurd rfl hm
  | f => exact h.elim (fun z => z.2) fun ⟨a, e, n, c⟩ => by rw [e]; exact OwC.isT (fun z => (hs a z).ne n) (c.mv (mv_less fun b z => .inl z) rfl)
theorem Pm.bl {H H1 : Hp} {v : V} {b : Bool} (h : Pm K m S H H1 v (.bl b)) : v = .bl b := by
  have key : ∀ {S' : Addr → Prop}, IsT K S' H1 v (.bl b) → v = .bl b := fun z => by cases z; rfl
  cases m with
  | s => exact key h
  | w => exact h.elim key fun ⟨_, _, c⟩ => by cases c
  | f => exact h.elim (fun z => key z.2) fun ⟨_, _, _, c⟩ => by cases c
theorem Pm.int {H H1 : Hp} {v : V} {b : Int} (h : Pm K m S H H1 v (.int b)) : v = .int b := by
  have key : ∀ {S' : Addr → Prop}, IsT K S' H1 v (.int b) → v = .int b := fun z => by cases z; rfl
  cases m with
  | s => exact key h
  | w => exact h.elim key fun ⟨_, _, c⟩ => by cases c
  | f => exact h.elim (fun z => key z.2) fun ⟨_, _, _, c⟩ => by cases c
theorem Pm.str {H H1 : Hp} {v : V} {b : Str} (h : Pm K m S H H1 v (.str b)) : v = .str b := by
  have key : ∀ {S' : Addr → Prop}, IsT K S' H1 v (.str b) → v = .str b := fun z => by cases z; rfl
  cases m with
  | s => exact key h
  | w => exact h.elim key fun ⟨_, _, c⟩ => by cases c
  | f => exact h.elim (fun z => key z.2) fun ⟨_, _, _, c⟩ => by cases c
theorem Pm.non {H H1 : Hp} {v : V} (h : Pm K m S H H1 v .non) : v = .non := by
  have key : ∀ {S' : Addr → Prop}, IsT K S' H1 v .non → v = .non := fun z => by cases z; rfl
  cases m with
  | s => exact key h
  | w => exact h.elim key fun ⟨_, _, c⟩ => by cases c
  | f => exact h.elim (fun z => key z.2) fun ⟨_, _, _, c⟩ => by cases c
theorem Pm.lst {H H1 : Hp} {v : V} {ts : List T} (h : Pm K m S H H1 v (.lst ts)) : ∃ a xs, v = .ref a ∧ H1 a = some (.lst xs) ∧ IsTs K S H1 xs ts := by
  have key : IsT K S H1 v (.lst ts) → ∃ a xs, v = .ref a ∧ H1 a = some (.lst xs) ∧ IsTs K S H1 xs ts := fun z => by cases z with | lst n g r => exact ⟨_, _, rfl, g, r⟩
  cases m with
  | s => exact key h
  | w => exact h.elim key fun ⟨a, e, c⟩ => by cases c with | lst g r => exact ⟨a, _, e, g, r⟩
  | f => exact h.elim (fun z => key z.2) fun ⟨a, e, _, c⟩ => by cases c with | lst g r => exact ⟨a, _, e, g, r.mv (mv_less fun b z => .inl z)⟩
theorem Pm.tup {H H1 : Hp} {v : V} {ts : List T} (h : Pm K m S H H1 v (.tup ts)) : ∃ a xs, v = .ref a ∧ NdT K S H1 a xs ∧ IsTs K S H1 xs ts := by
  have key : IsT K S H1 v (.tup ts) → ∃ a xs, v = .ref a ∧ NdT K S H1 a xs ∧ IsTs K S H1 xs ts := fun z => by cases z with | tup g r => exact ⟨_, _, rfl, g, r⟩
  cases m with
  | s => exact key h
  | w => exact h.elim key fun ⟨a, e, c⟩ => by cases c
  | f => exact h.elim (fun z => key z.2) fun ⟨a, e, _, c⟩ => by cases c
theorem Pm.scr {H H1 : Hp} {v : V} {ns : List Int} (h : Pm K m S H H1 v (.scr ns)) : ∃ a, v = .ref a ∧ NdL K S H1 a (ns.map V.int) := by
  have key : IsT K S H1 v (.scr ns) → ∃ a, v = .ref a ∧ NdL K S H1 a (ns.map V.int) := fun z => by cases z with | scr g => exact ⟨_, rfl, g⟩
  cases m with
  | s => exact key h
  | w => exact h.elim key fun ⟨a, e, c⟩ => by cases c
  | f => exact h.elim (fun z => key z.2) fun ⟨a, e, _, c⟩ => by cases c
theorem wk (h : PE X e (tG m K S0 H0 W d)) : PE X e (tG .w K S0 H0 W d) := pe_imp h fun σ H Q ⟨ev, ps, r, z⟩ =>
  ⟨ev, ps, r, R.on_mono z (fun t q v H' s p => q v H' s (Pm.weak r.sx p)) fun _ _ q => q⟩
theorem st (hm : m ≠ .w) (h : PE X e (tG m K S0 H0 W d)) : PE X e (tG .s K S0 H0 W d) := pe_imp h fun σ H Q ⟨ev, ps, r, z⟩ =>
  ⟨ev, ps, r, R.on_mono z (fun t q v H' s p => q v H' s (Pm.strong hm r.sx p)) fun _ _ q => q⟩
theorem fs (h : PE X e (tG .f K S0 H0 W d)) : PE X e (tG .s K S0 H0 W d) := st (m := .f) (by intro z; cases z) h
end
end DL
set_option maxHeartbeats 1000000
namespace DL
open PySem PySem.Spec PyProof.Rows L2
structure Cn (X : Cx) (W : WX) (k : Nat) : Prop where
  tk : Takes X W
  room : Room k X.A
  gu : X.A.guards = some []
  calm : X.calm = true
  nd : X.N.Nodup
  po : PassesOwn (model X.prog X.w) X.A X.env X.xe
def dVar (i : Nat) : Lo → R T := fun ev => match ev[i]? with
  | some (some (t, false)) => .ok t
  | _ => .bad
def dVarW (i : Nat) : Lo → R T := fun ev => match ev[i]? with
  | some (some (t, _)) => .ok t
  | _ => .bad
def dC (t : T) : Lo → R T := fun _ => .ok t
def d1 (f : T → Option T) (a : Lo → R T) : Lo → R T := fun ev => (a ev).bind fun t => ofO (f t)
def d2 (f : T → T → Option T) (a b : Lo → R T) : Lo → R T := fun ev => (a ev).bind fun t => (b ev).bind fun u => ofO (f t u)
def dTest (a : Lo → R T) : Lo → R Bool := fun ev => (a ev).bind fun t => match t with
  | .bl b => .ok b
  | _ => .bad
def dNot (a : Lo → R Bool) : Lo → R Bool := fun ev => (a ev).bind fun b => .ok (!b)
def dAnd (a b : Lo → R Bool) : Lo → R Bool := fun ev => (a ev).bind fun c => if c then b ev else .ok false
def dOr (a b : Lo → R Bool) : Lo → R Bool := fun ev => (a ev).bind fun c => if c then .ok true else b ev
def dIf (c : Lo → R Bool) (a b : Lo → R T) : Lo → R T := fun ev => (c ev).bind fun z => if z then a ev else b ev
def dAndV (a b : Lo → R T) : Lo → R T := fun ev => (a ev).bind fun t => match t with
  | .bl c => if c then b ev else .ok (.bl false)
  | _ => .bad
def dOrV (a b : Lo → R T) : Lo → R T := fun ev => (a ev).bind fun t => match t with
  | .bl c => if c then .ok (.bl true) else b ev
  | _ => .bad
def dNil : Lo → R (List T) := fun _ => .ok []
def dCons (a : Lo → R T) (b : Lo → R (List T)) : Lo → R (List T) := fun ev => (a ev).bind fun t => (b ev).bind fun ts => .ok (t :: ts)
def dList (a : Lo → R (List T)) : Lo → R T := fun ev => (a ev).bind fun ts => if ts.length ≤ sizeLine then .ok (.lst ts) else .bad
def dTup (a : Lo → R (List T)) : Lo → R T := fun ev => (a ev).bind fun ts => if ts.length ≤ sizeLine then .ok (.tup ts) else .bad
section
variable {X : Cx} {e a b : Expr} {S S0 : Addr → Prop} {H0 : Hp} {W : WX} {d da db : Lo → R T} {c : Lo → R Bool} {pos : Pos} {m ma mb : Md} {k : Nat}
theorem im1 {r : V → Hp → VK → Prop} {f : T → Option T}
    (hr : ∀ (S : Addr → Prop) (H : Hp) (x : V) (t w : T) (Q : VK), (∀ a, S a → Mu H a) → Pm X.K .w S H H x t → f t = some w → (∀ v H', Same H H' → Pm X.K m S H H' v w → Q v H') → r x H Q) :
    ∀ σ H Q, tG m X.K S0 H0 W (d1 f da) σ H Q → tUn r (tG .w X.K S0 H0 W da) σ H Q := fun σ H Q ⟨ev, ps, r0, z⟩ => by
  refine ⟨ev, ps, r0, R.on_mono (R.on_bind z) (fun t q v H1 s1 p1 => ?_) fun _ _ q => q⟩
  cases e : f t with
  | none => rw [e] at q; exact q.elim
  | some w =>
    rw [e] at q
    exact hr _ H1 v t w Q (r0.up s1).sx p1 e fun v' H' s p => q v' H' (s1.trans s) (p.back s1)
theorem im2 {r : R2} {f : T → T → Option T}
    (hr : ∀ (S : Addr → Prop) (H : Hp) (x y : V) (t u w : T) (Q : VK), (∀ a, S a → Mu H a) → Pm X.K .w S H H x t → Pm X.K .w S H H y u → f t u = some w → (∀ v H', Same H H' → Pm X.K m S H H' v w → Q v H') → r x y H Q) :
    ∀ σ H Q, tG m X.K S0 H0 W (d2 f da db) σ H Q → tOp r (tG .w X.K S0 H0 W da) (tG .w X.K S0 H0 W db) σ H Q := fun σ H Q ⟨ev, ps, r0, z⟩ => by
  refine ⟨ev, ps, r0, R.on_mono (R.on_bind z) (fun t q v H1 s1 p1 => ?_) fun _ _ q => q⟩
  refine ⟨ev, ps, r0.up s1, R.on_mono (R.on_bind q) (fun u q2 w' H2 s2 p2 => ?_) fun c fs q2 cls dd H2 s2 x => q2 cls dd H2 (s1.trans s2) x⟩
  cases e : f t u with
  | none => rw [e] at q2; exact q2.elim
  | some w =>
    rw [e] at q2
    refine hr _ H2 v w' t u w Q (r0.up (s1.trans s2)).sx ?_ p2 e fun v' H' s p => q2 v' H' ((s1.trans s2).trans s) (p.back (s1.trans s2))
    exact Pm.up (m := .w) s2 p1
theorem e_var (i : Nat) {x : Str} (hN : X.N[i]? = some x := by rfl) (hv : Vis X.env.scope x := by first | exact Or.inl rfl | exact Or.inr (Or.inl rfl) | exact Or.inr (Or.inr rfl)) (hd : (x == ("__debug__" : Str)) = false := by decide)
    (hcd : (x == ("__classdict__" : Str)) = false := by decide) : PE X (.Name x pos) (tG .s X.K S0 H0 W (dVar i)) := pe_imp (pe_var hN hv hd hcd) fun σ H Q ⟨ev, ps, r, z⟩ => by
  unfold dVar at z
  split at z
  · rename_i t e
    obtain ⟨v, a, b⟩ := r.frz i t e
    exact ⟨v, a, z v H (Same.refl _) b⟩
  · exact z.elim
theorem e_varW (i : Nat) {x : Str} (hN : X.N[i]? = some x := by rfl) (hv : Vis X.env.scope x := by first | exact Or.inl rfl | exact Or.inr (Or.inl rfl) | exact Or.inr (Or.inr rfl)) (hd : (x == ("__debug__" : Str)) = false := by decide)
    (hcd : (x == ("__classdict__" : Str)) = false := by decide) : PE X (.Name x pos) (tG .w X.K S0 H0 W (dVarW i)) := pe_imp (pe_var hN hv hd hcd) fun σ H Q ⟨ev, ps, r, z⟩ => by
  unfold dVarW at z
  split at z
  · rename_i t o e
    cases o with
    | false =>
      obtain ⟨v, a, b⟩ := r.frz i t e
      exact ⟨v, a, z v H (Same.refl _) (.inl b)⟩
    | true =>
      obtain ⟨a, h1, _, _, c⟩ := r.own i t e
      exact ⟨_, h1, z _ H (Same.refl _) (.inr ⟨a, rfl, c⟩)⟩
  · exact z.elim
theorem im0 {v : V} {t : T} (h : ∀ S H, IsT X.K S H v t) : ∀ σ H Q, tG .s X.K S0 H0 W (dC t) σ H Q → tC v σ H Q := fun σ H Q ⟨ev, ps, r, z⟩ => z v H (Same.refl _) (h _ _)
theorem e_int {i : Int} {j : Nat} : PE X (.Constant (.int i) j pos) (tG .s X.K S0 H0 W (dC (.int i))) := pe_imp pe_int (im0 fun _ _ => .int i)
theorem e_bl {i : Bool} {j : Nat} : PE X (.Constant (.bool i) j pos) (tG .s X.K S0 H0 W (dC (.bl i))) := pe_imp pe_bl (im0 fun _ _ => .bl i)
theorem e_non {j : Nat} : PE X (.Constant .none j pos) (tG .s X.K S0 H0 W (dC .non)) := pe_imp pe_non (im0 fun _ _ => .non)
theorem e_str {i : Str} {j : Nat} : PE X (.Constant (.str i) j pos) (tG .s X.K S0 H0 W (dC (.str i))) := pe_imp pe_str (im0 fun _ _ => .str i)
theorem e_gint {x : Str} {i : Int} (hm : ∃ t, X.mg x = some (.int i t)) (hg : Gl X x := by rfl) (hd : (x == ("__debug__" : Str)) = false := by decide) : PE X (.Name x pos) (tG .s X.K S0 H0 W (dC (.int i))) := by
  obtain ⟨t, hm⟩ := hm
  exact pe_imp (pe_glob (v := .int i) hg hm ⟨t, rfl⟩ hd) (im0 fun _ _ => .int i)
theorem tst_of (h : PE X e (tG m X.K S0 H0 W d)) (he : ∀ whole, isTrue e X.env whole = (do let v ← whole; standAt e.pos; holding [v] (truthy v)) := by intro _; rfl) : PT X e (tB X.K S0 H0 W (dTest d)) :=
  pt_imp (pt_val h he) fun σ H Q ⟨ev, ps, r, z⟩ => ⟨ev, ps, r, R.on_mono (R.on_bind z) (fun t q v H' s p => by
    cases t with
    | bl b => exact ⟨b, p.bl, q H' s⟩
    | _ => exact q.elim) fun _ _ q => q⟩
theorem t_not (h : PT X e (tB X.K S0 H0 W c)) : PT X (.UnaryOp .Not e pos) (tB X.K S0 H0 W (dNot c)) :=
  pt_imp (pt_not h) fun σ H Q ⟨ev, ps, r, z⟩ => ⟨ev, ps, r, R.on_mono (R.on_bind z) (fun _ q H' s => q H' s) fun _ _ q => q⟩
variable {c' : Lo → R Bool} {rest : List Expr}
theorem tw_and (ha : PT X a (tB X.K S0 H0 W c)) (hb : PW X (.BoolOp .And (b :: rest) pos) (tB X.K S0 H0 W c')) : PW X (.BoolOp .And (a :: b :: rest) pos) (tB X.K S0 H0 W (dAnd c c')) := by
  refine ⟨fun wh pins s σ H Q I h => (pw_and ha hb).run wh pins s σ H Q I ?_⟩
  obtain ⟨ev, ps, r, z⟩ := h
  refine ⟨ev, ps, r, R.on_mono (R.on_bind z) (fun b q H' s => ?_) fun _ _ q => q⟩
  cases b with
  | true => exact ⟨ev, ps, r.up s, R.on_mono q (fun d q2 H2 s2 => q2 H2 (s.trans s2)) fun c fs q2 cls dd H2 s2 x => q2 cls dd H2 (s.trans s2) x⟩
  | false => exact q H' s
theorem tw_or (ha : PT X a (tB X.K S0 H0 W c)) (hb : PW X (.BoolOp .Or (b :: rest) pos) (tB X.K S0 H0 W c')) : PW X (.BoolOp .Or (a :: b :: rest) pos) (tB X.K S0 H0 W (dOr c c')) := by
  refine ⟨fun wh pins s σ H Q I h => (pw_or ha hb).run wh pins s σ H Q I ?_⟩
  obtain ⟨ev, ps, r, z⟩ := h
  refine ⟨ev, ps, r, R.on_mono (R.on_bind z) (fun b q H' s => ?_) fun _ _ q => q⟩
  cases b with
  | true => exact q H' s
  | false => exact ⟨ev, ps, r.up s, R.on_mono q (fun d q2 H2 s2 => q2 H2 (s.trans s2)) fun c fs q2 cls dd H2 s2 x => q2 cls dd H2 (s.trans s2) x⟩
theorem e_if {ce : Expr} (hc : PT X ce (tB X.K S0 H0 W c)) (ha : PE X a (tG m X.K S0 H0 W da)) (hb : PE X b (tG m X.K S0 H0 W db)) : PE X (.IfExp ce a b pos) (tG m X.K S0 H0 W (dIf c da db)) :=
  pe_imp (pe_ifExp hc ha hb) fun σ H Q ⟨ev, ps, r, z⟩ => by
    refine ⟨ev, ps, r, R.on_mono (R.on_bind z) (fun b q H' s => ?_) fun _ _ q => q⟩
    have go : ∀ {d : Lo → R T}, (d ev).on (fun t => ∀ v H', Same H H' → Pm X.K m (Sx S0 σ ev) H H' v t → Q v H') (fun c fs => ∀ cls dd H', Same H H' → IsX X.K (Sx S0 σ ev) H' cls dd c fs → W cls dd σ H') → tG m X.K S0 H0 W d σ H' Q := fun q =>
      ⟨ev, ps, r.up s, R.on_mono q (fun t q2 v H2 s2 p => q2 v H2 (s.trans s2) (p.back s)) fun c fs q2 cls dd H2 s2 x => q2 cls dd H2 (s.trans s2) x⟩
    cases b with
    | true => exact go q
    | false => exact go q
theorem e_andV (ha : PE X a (tG ma X.K S0 H0 W da)) (hb : PE X (.BoolOp .And (b :: rest) pos) (tG .f X.K S0 H0 W db)) : PE X (.BoolOp .And (a :: b :: rest) pos) (tG .f X.K S0 H0 W (dAndV da db)) :=
  pe_imp (pe_and ha hb) fun σ H Q ⟨ev, ps, r, z⟩ => by
    refine ⟨ev, ps, r, R.on_mono (R.on_bind z) (fun t q v H' s p => ?_) fun _ _ q => q⟩
    cases t with
    | bl b =>
      refine ⟨b, p.bl, ?_⟩
      cases b with
      | true => exact ⟨ev, ps, r.up s, R.on_mono q (fun t q2 v H2 s2 p => q2 v H2 (s.trans s2) (p.back s)) fun c fs q2 cls dd H2 s2 x => q2 cls dd H2 (s.trans s2) x⟩
      | false => exact q _ H' s (.inl ⟨rfl, .bl false⟩)
    | _ => exact q.elim
theorem e_orV (ha : PE X a (tG ma X.K S0 H0 W da)) (hb : PE X (.BoolOp .Or (b :: rest) pos) (tG .f X.K S0 H0 W db)) : PE X (.BoolOp .Or (a :: b :: rest) pos) (tG .f X.K S0 H0 W (dOrV da db)) :=
  pe_imp (pe_or ha hb) fun σ H Q ⟨ev, ps, r, z⟩ => by
    refine ⟨ev, ps, r, R.on_mono (R.on_bind z) (fun t q v H' s p => ?_) fun _ _ q => q⟩
    cases t with
    | bl b =>
      refine ⟨b, p.bl, ?_⟩
      cases b with
      | true => exact q _ H' s (.inl ⟨rfl, .bl true⟩)
      | false => exact ⟨ev, ps, r.up s, R.on_mono q (fun t q2 v H2 s2 p => q2 v H2 (s.trans s2) (p.back s)) fun c fs q2 cls dd H2 s2 x => q2 cls dd H2 (s.trans s2) x⟩
    | _ => exact q.elim
def dNotV (a : Lo → R T) : Lo → R T := d1 (fun t => match t with
  | .bl b => some (.bl (!b))
  | _ => none) a
theorem e_notV (ha : PE X a (tG .w X.K S0 H0 W da)) : PE X (.UnaryOp .Not a pos) (tG .f X.K S0 H0 W (dNotV da)) :=
  pe_imp (pe_not ha) fun σ H Q h => by
    refine im1 (r := fun x H Q => ∃ c, x = .bl c ∧ Q (.bl (!c)) H) (fun S H x t w Q hs p e q => ?_) σ H Q h
    cases t with
    | bl b =>
      cases e
      exact ⟨b, Pm.bl (m := .w) (H := H) p, q _ H (Same.refl _) (.inl ⟨rfl, .bl _⟩)⟩
    | _ => cases e
variable {es : List Expr} {ds : Lo → R (List T)}
theorem a_nil : PA X [] (tA X.K S0 H0 W dNil) := ⟨fun pos pins s σ H Q I ⟨ev, ps, r, z⟩ => pa_nil.run pos pins s σ H Q I (z [] H (Same.refl _) .nil)⟩
theorem a_cons (ha : PE X e (tG .s X.K S0 H0 W d)) (hr : PA X es (tA X.K S0 H0 W ds)) (hs : starEach (e :: es) X.env = (false, eval e X.env) :: starEach es X.env := by rfl) : PA X (e :: es) (tA X.K S0 H0 W (dCons d ds)) := by
  refine ⟨fun pos pins s σ H Q I h => (pa_cons ha hr hs).run pos pins s σ H Q I ?_⟩
  obtain ⟨ev, ps, r, z⟩ := h
  refine ⟨ev, ps, r, R.on_mono (R.on_bind z) (fun t q v H1 s1 p1 => ?_) fun _ _ q => q⟩
  refine ⟨ev, ps, r.up s1, R.on_mono (R.on_bind q) (fun ts q2 vs H2 s2 p2 => q2 _ H2 (s1.trans s2) (.cons ?_ p2)) fun c fs q2 cls dd H2 s2 x => q2 cls dd H2 (s1.trans s2) x⟩
  exact IsT.mv (mv_same s2) p1
theorem e_list (h : PA X es (tA X.K S0 H0 W ds)) : PE X (.List es pos) (tG .f X.K S0 H0 W (dList ds)) := pe_imp (pe_lst h) fun σ H Q ⟨ev, ps, r, z⟩ => by
  refine ⟨ev, ps, r, R.on_mono (R.on_bind z) (fun ts q vs H1 s1 p1 => ?_) fun _ _ q => q⟩
  by_cases hz : ts.length ≤ sizeLine
  · have q : ∀ v H', Same H H' → Pm X.K .f (Sx S0 σ ev) H H' v (.lst ts) → Q v H' := by
      have q' : (if ts.length ≤ sizeLine then R.ok (T.lst ts) else R.bad).on _ _ := q
      rw [if_pos hz] at q'
      exact q'
    refine ⟨by rw [p1.len]; exact hz, fun p hp => q _ _ (s1.trans (same_upd hp)) (.inr ⟨p, rfl, s1.free hp, .lst upd_same (p1.mv (mv_new hp))⟩)⟩
  · have q' : (if ts.length ≤ sizeLine then R.ok (T.lst ts) else R.bad).on _ _ := q
    rw [if_neg hz] at q'
    exact q'.elim
theorem e_tup {x1 : Nat} (h : PA X es (tA X.K S0 H0 W ds)) : PE X (.Tuple es x1 pos) (tG .f X.K S0 H0 W (dTup ds)) := pe_imp (pe_tup h) fun σ H Q ⟨ev, ps, r, z⟩ => by
  refine ⟨ev, ps, r, R.on_mono (R.on_bind z) (fun ts q vs H1 s1 p1 => ?_) fun _ _ q => q⟩
  by_cases hz : ts.length ≤ sizeLine
  · have q : ∀ v H', Same H H' → Pm X.K .f (Sx S0 σ ev) H H' v (.tup ts) → Q v H' := by
      have q' : (if ts.length ≤ sizeLine then R.ok (T.tup ts) else R.bad).on _ _ := q
      rw [if_pos hz] at q'
      exact q'
    refine ⟨by rw [p1.len]; exact hz, fun p hp => q _ _ (s1.trans (same_upd hp)) (.inl ⟨rfl, ?_⟩)⟩
    have n : ¬ Sx S0 σ ev p := fun z => ((r.up s1).sx p z).ne hp
    exact .tup ⟨n, upd_same⟩ (p1.mv (mv_same (same_upd hp)))
  · have q' : (if ts.length ≤ sizeLine then R.ok (T.tup ts) else R.bad).on _ _ := q
    rw [if_neg hz] at q'
    exact q'.elim
end
end DL
set_option maxHeartbeats 1000000
namespace DL
open PySem PySem.Spec PyProof.Rows L2
def addT : T → T → Option T
  | .int a, .int b => some (.int (a + b))
  | .str a, .str b => if a.length + b.length ≤ sizeLine then some (.str (a ++ b)) else none
  | .lst a, .lst b => if a.length + b.length ≤ sizeLine then some (.lst (a ++ b)) else none
  | .tup a, .tup b => if a.length + b.length ≤ sizeLine then some (.tup (a ++ b)) else none
  | _, _ => none
def subT : T → T → Option T
  | .int a, .int b => some (.int (a - b))
  | _, _ => none
def mulT : T → T → Option T
  | .int a, .int b => if a.natAbs.log2 + b.natAbs.log2 < 1000000 then some (.int (a * b)) else none
  | .lst a, .int k => if -(2 ^ 63) ≤ k ∧ k < 2 ^ 63 ∧ a.length * k.toNat ≤ sizeLine then some (.lst (List.replicate k.toNat a).flatten) else none
  | _, _ => none
def divT : T → T → Option T
  | .int a, .int b => if 0 < b ∧ b.natAbs.log2 < 9000 then some (.int (a / b)) else none
  | _, _ => none
def modT : T → T → Option T
  | .int a, .int b => if 0 < b then some (.int (a % b)) else none
  | _, _ => none
def powT : T → T → Option T
  | .int a, .int b => if 0 ≤ b ∧ b ≤ 1000000 ∧ a.natAbs < 2 ^ 64 then some (.int (a ^ b.toNat)) else none
  | _, _ => none
def negT : T → Option T
  | .int a => some (.int (-a))
  | _ => none
def cmpT (p : Int → Int → Bool) : T → T → Option T
  | .int a, .int b => some (.bl (p a b))
  | _, _ => none
abbrev ltT := cmpT fun a b => decide (a < b)
abbrev leT := cmpT fun a b => decide (a ≤ b)
abbrev gtT := cmpT fun a b => decide (b < a)
def isNonB : T → Bool
  | .non => true
  | _ => false
def isNonT (t : T) : Option T := some (.bl (isNonB t))
def notNonT (t : T) : Option T := some (.bl (!isNonB t))
section
variable {X : Cx} {e a b : Expr} {S S0 : Addr → Prop} {H0 : Hp} {W : WX} {d da db : Lo → R T} {c : Lo → R Bool} {pos : Pos} {m ma mb : Md} {k : Nat}
theorem IsTs.rep {K : PySem.W.Frag} {H : Hp} {vs : List V} {ts : List T} (h : IsTs K S H vs ts) : ∀ n : Nat, IsTs K S H (List.replicate n vs).flatten (List.replicate n ts).flatten
  | 0 => .nil
  | n + 1 => by rw [List.replicate_succ, List.replicate_succ, List.flatten_cons, List.flatten_cons]; exact h.app (IsTs.rep h n)
theorem new_lst {K : PySem.W.Frag} {H : Hp} {p : Addr} {vs : List V} {ts : List T} (hp : H p = none) (r : IsTs K S H vs ts) : Pm K .f S H (upd H p (.lst vs)) (.ref p) (.lst ts) := .inr ⟨p, rfl, hp, .lst upd_same (r.mv (mv_new hp))⟩
theorem new_tup {K : PySem.W.Frag} {H : Hp} {p : Addr} {vs : List V} {ts : List T} (hs : ∀ a, S a → Mu H a) (hp : H p = none) (r : IsTs K S H vs ts) : Pm K .f S H (upd H p (.tup vs)) (.ref p) (.tup ts) :=
  .inl ⟨rfl, .tup ⟨fun z => (hs p z).ne hp, upd_same⟩ (r.mv (mv_same (same_upd hp)))⟩
theorem one_int {K : PySem.W.Frag} {H H' : Hp} (i : Int) : Pm K .f S H H' (.int i) (.int i) := .inl ⟨rfl, .int i⟩
theorem one_bl {K : PySem.W.Frag} {H H' : Hp} (i : Bool) : Pm K .f S H H' (.bl i) (.bl i) := .inl ⟨rfl, .bl i⟩
theorem one_str {K : PySem.W.Frag} {H H' : Hp} (i : Str) : Pm K .f S H H' (.str i) (.str i) := .inl ⟨rfl, .str i⟩
theorem one_non {K : PySem.W.Frag} {H H' : Hp} : Pm K .f S H H' .non .non := .inl ⟨rfl, .non⟩
theorem e_bin {op : Operator} {r : R2} {f : T → T → Option T} (ho : OpR X (binaryOp op) r)
    (hr : ∀ (S : Addr → Prop) (H : Hp) (x y : V) (t u w : T) (Q : VK), (∀ a, S a → Mu H a) → Pm X.K .w S H H x t → Pm X.K .w S H H y u → f t u = some w → (∀ v H', Same H H' → Pm X.K .f S H H' v w → Q v H') → r x y H Q)
    (ha : PE X a (tG .w X.K S0 H0 W da)) (hb : PE X b (tG .w X.K S0 H0 W db)) : PE X (.BinOp a op b pos) (tG .f X.K S0 H0 W (d2 f da db)) := pe_imp (pe_op ho ha hb) (im2 hr)
theorem int2 {C : Int → Int → Prop} {g : Int → Int → V} {f : T → T → Option T} (hf : ∀ t u w, f t u = some w → ∃ i j, t = .int i ∧ u = .int j ∧ C i j ∧ ((∃ n, g i j = .int n ∧ w = .int n) ∨ ∃ n, g i j = .bl n ∧ w = .bl n)) :
    ∀ (S : Addr → Prop) (H : Hp) (x y : V) (t u w : T) (Q : VK), (∀ a, S a → Mu H a) → Pm X.K .w S H H x t → Pm X.K .w S H H y u → f t u = some w → (∀ v H', Same H H' → Pm X.K .f S H H' v w → Q v H') → rI C g x y H Q := fun S H x y t u w Q hs p q e z => by
  obtain ⟨i, j, rfl, rfl, hc, h⟩ := hf t u w e
  refine ⟨i, j, p.int, q.int, hc, ?_⟩
  rcases h with ⟨n, e1, rfl⟩ | ⟨n, e1, rfl⟩
  · rw [e1]; exact z _ _ (Same.refl _) (one_int n)
  · rw [e1]; exact z _ _ (Same.refl _) (one_bl n)
theorem int0 {g : Int → Int → V} {f : T → T → Option T} (hf : ∀ t u w, f t u = some w → ∃ i j, t = .int i ∧ u = .int j ∧ ((∃ n, g i j = .int n ∧ w = .int n) ∨ ∃ n, g i j = .bl n ∧ w = .bl n)) :
    ∀ (S : Addr → Prop) (H : Hp) (x y : V) (t u w : T) (Q : VK), (∀ a, S a → Mu H a) → Pm X.K .w S H H x t → Pm X.K .w S H H y u → f t u = some w → (∀ v H', Same H H' → Pm X.K .f S H H' v w → Q v H') → rI0 g x y H Q := fun S H x y t u w Q hs p q e z => by
  obtain ⟨i, j, rfl, rfl, h⟩ := hf t u w e
  refine ⟨i, j, p.int, q.int, ?_⟩
  rcases h with ⟨n, e1, rfl⟩ | ⟨n, e1, rfl⟩
  · rw [e1]; exact z _ _ (Same.refl _) (one_int n)
  · rw [e1]; exact z _ _ (Same.refl _) (one_bl n)
theorem e_add (ha : PE X a (tG .w X.K S0 H0 W da)) (hb : PE X b (tG .w X.K S0 H0 W db)) : PE X (.BinOp a .Add b pos) (tG .f X.K S0 H0 W (d2 addT da db)) := by
  refine e_bin (op_add.or (op_add_str.or (op_cat.or op_catA))) (fun S H x y t u w Q hs p q e z => ?_) ha hb
  cases t with
  | int i =>
    cases u with
    | int j => cases e; exact .inl ⟨i, j, p.int, q.int, z _ _ (Same.refl _) (one_int _)⟩
    | _ => cases e
  | str i =>
    cases u with
    | str j =>
      by_cases hz : i.length + j.length ≤ sizeLine
      · have e' : (if i.length + j.length ≤ sizeLine then some (T.str (i ++ j)) else none) = some w := e
        rw [if_pos hz] at e'
        cases e'
        exact .inr (.inl ⟨i, j, p.str, q.str, hz, z _ _ (Same.refl _) (one_str _)⟩)
      · have e' : (if i.length + j.length ≤ sizeLine then some (T.str (i ++ j)) else none) = some w := e
        rw [if_neg hz] at e'
        cases e'
    | _ => cases e
  | lst i =>
    cases u with
    | lst j =>
      have e' : (if i.length + j.length ≤ sizeLine then some (T.lst (i ++ j)) else none) = some w := e
      by_cases hz : i.length + j.length ≤ sizeLine
      · rw [if_pos hz] at e'
        cases e'
        obtain ⟨l, xs, ex, hl, rl⟩ := p.lst
        obtain ⟨l2, ys, ey, hl2, rl2⟩ := q.lst
        exact .inr (.inr (.inl ⟨l, l2, xs, ys, ex, ey, hl, hl2, by rw [rl.len, rl2.len]; exact hz, fun n hn => z _ _ (same_upd hn) (new_lst hn (rl.app rl2))⟩))
      · rw [if_neg hz] at e'
        cases e'
    | _ => cases e
  | tup i =>
    cases u with
    | tup j =>
      have e' : (if i.length + j.length ≤ sizeLine then some (T.tup (i ++ j)) else none) = some w := e
      by_cases hz : i.length + j.length ≤ sizeLine
      · rw [if_pos hz] at e'
        cases e'
        obtain ⟨l, xs, ex, hl, rl⟩ := p.tup
        obtain ⟨l2, ys, ey, hl2, rl2⟩ := q.tup
        refine .inr (.inr (.inr ⟨l, l2, xs, ys, ex, ey, hl.sq, hl2.sq, by rw [rl.len, rl2.len]; exact hz, fun en => ?_, fun n1 en => ?_, fun n1 n2 n hn => z _ _ (same_upd hn) (new_tup hs hn (rl.app rl2))⟩))
        · subst en; cases rl
          exact z _ _ (Same.refl _) (.inl ⟨rfl, .tup hl2 rl2⟩)
        · subst en; cases rl2
          exact z _ _ (Same.refl _) (.inl ⟨rfl, by rw [List.append_nil]; exact .tup hl rl⟩)
      · rw [if_neg hz] at e'
        cases e'
    | _ => cases e
  | _ => cases u <;> cases e
theorem some_if {α : Type} {c : Prop} [Decidable c] {x w : α} (h : (if c then some x else none) = some w) : c ∧ w = x := by
  by_cases z : c
  · rw [if_pos z] at h; exact ⟨z, (Option.some.inj h).symm⟩
  · rw [if_neg z] at h; cases h
theorem e_sub (ha : PE X a (tG .w X.K S0 H0 W da)) (hb : PE X b (tG .w X.K S0 H0 W db)) : PE X (.BinOp a .Sub b pos) (tG .f X.K S0 H0 W (d2 subT da db)) :=
  e_bin op_sub (int0 fun t u w e => by cases t <;> cases u <;> first | (cases e; done) | (cases e; exact ⟨_, _, rfl, rfl, .inl ⟨_, rfl, rfl⟩⟩)) ha hb
theorem e_mul (ha : PE X a (tG .w X.K S0 H0 W da)) (hb : PE X b (tG .w X.K S0 H0 W db)) : PE X (.BinOp a .Mult b pos) (tG .f X.K S0 H0 W (d2 mulT da db)) := by
  refine e_bin (op_mulW.or op_rep) (fun S H x y t u w Q hs p q e z => ?_) ha hb
  cases t with
  | int i =>
    cases u with
    | int j =>
      obtain ⟨hc, rfl⟩ := some_if (show (if i.natAbs.log2 + j.natAbs.log2 < 1000000 then some (T.int (i * j)) else none) = some w from e)
      exact .inl ⟨i, j, p.int, q.int, hc, z _ _ (Same.refl _) (one_int _)⟩
    | _ => cases e
  | lst i =>
    cases u with
    | int j =>
      obtain ⟨⟨h1, h2, h3⟩, rfl⟩ := some_if (show (if -(2 ^ 63) ≤ j ∧ j < 2 ^ 63 ∧ i.length * j.toNat ≤ sizeLine then some (T.lst (List.replicate j.toNat i).flatten) else none) = some w from e)
      obtain ⟨l, xs, ex, hl, rl⟩ := p.lst
      exact .inr ⟨l, j, xs, ex, q.int, hl, h1, h2, by rw [rl.len]; exact h3, fun n hn => z _ _ (same_upd hn) (new_lst hn (rl.rep _))⟩
    | _ => cases e
  | _ => cases u <;> cases e
theorem e_div (ha : PE X a (tG .w X.K S0 H0 W da)) (hb : PE X b (tG .w X.K S0 H0 W db)) : PE X (.BinOp a .FloorDiv b pos) (tG .f X.K S0 H0 W (d2 divT da db)) :=
  e_bin op_fdivW (int2 fun t u w e => by
    cases t <;> cases u <;> first | (cases e; done) | skip
    rename_i i j
    obtain ⟨hc, rfl⟩ := some_if (show (if 0 < j ∧ j.natAbs.log2 < 9000 then some (T.int (i / j)) else none) = some w from e)
    exact ⟨_, _, rfl, rfl, hc, .inl ⟨_, rfl, rfl⟩⟩) ha hb
theorem e_mod (ha : PE X a (tG .w X.K S0 H0 W da)) (hb : PE X b (tG .w X.K S0 H0 W db)) : PE X (.BinOp a .Mod b pos) (tG .f X.K S0 H0 W (d2 modT da db)) :=
  e_bin op_mod (int2 fun t u w e => by
    cases t <;> cases u <;> first | (cases e; done) | skip
    rename_i i j
    obtain ⟨hc, rfl⟩ := some_if (show (if 0 < j then some (T.int (i % j)) else none) = some w from e)
    exact ⟨_, _, rfl, rfl, hc, .inl ⟨_, rfl, rfl⟩⟩) ha hb
theorem e_pow (ha : PE X a (tG .w X.K S0 H0 W da)) (hb : PE X b (tG .w X.K S0 H0 W db)) : PE X (.BinOp a .Pow b pos) (tG .f X.K S0 H0 W (d2 powT da db)) :=
  e_bin op_pow (int2 fun t u w e => by
    cases t <;> cases u <;> first | (cases e; done) | skip
    rename_i i j
    obtain ⟨hc, rfl⟩ := some_if (show (if 0 ≤ j ∧ j ≤ 1000000 ∧ i.natAbs < 2 ^ 64 then some (T.int (i ^ j.toNat)) else none) = some w from e)
    exact ⟨_, _, rfl, rfl, hc, .inl ⟨_, rfl, rfl⟩⟩) ha hb
theorem e_neg (ha : PE X a (tG .w X.K S0 H0 W da)) : PE X (.UnaryOp .USub a pos) (tG .f X.K S0 H0 W (d1 negT da)) := pe_imp (pe_un un_neg ha) (im1 fun S H x t w Q hs p e z => by
    cases t <;> first | (cases e; done) | skip
    cases e
    exact ⟨_, p.int, z _ _ (Same.refl _) (one_int _)⟩)
theorem e_cmp {op : CmpOp} {r : R2} {f : T → T → Option T} (ho : OpR X (compareOp op) r)
    (hr : ∀ (S : Addr → Prop) (H : Hp) (x y : V) (t u w : T) (Q : VK), (∀ a, S a → Mu H a) → Pm X.K .w S H H x t → Pm X.K .w S H H y u → f t u = some w → (∀ v H', Same H H' → Pm X.K .f S H H' v w → Q v H') → r x y H Q)
    (ha : PE X a (tG .w X.K S0 H0 W da)) (hb : PE X b (tG .w X.K S0 H0 W db)) (hm : behindInMarks op b = false) : PE X (.Compare a [op] [b] pos) (tG .f X.K S0 H0 W (d2 f da db)) := pe_imp (pe_cmpR ho ha hb hm) (im2 hr)
theorem t_cmp {op : CmpOp} {r : R2} {f : T → T → Option T} (ho : OpR X (compareOp op) r)
    (hr : ∀ (S : Addr → Prop) (H : Hp) (x y : V) (t u w : T) (Q : VK), (∀ a, S a → Mu H a) → Pm X.K .w S H H x t → Pm X.K .w S H H y u → f t u = some w → (∀ v H', Same H H' → Pm X.K .f S H H' v w → Q v H') → r x y H Q)
    (ha : PE X a (tG .w X.K S0 H0 W da)) (hb : PE X b (tG .w X.K S0 H0 W db)) (hm : behindInMarks op b = false) : PT X (.Compare a [op] [b] pos) (tB X.K S0 H0 W (dTest (d2 f da db))) :=
  pt_imp (pt_cmpR ho ha hb hm) fun σ H Q ⟨ev, ps, r0, z⟩ => im2 hr σ H _ ⟨ev, ps, r0, R.on_mono (R.on_bind z) (fun t q v H' s p => by
    cases t with
    | bl b => exact ⟨b, p.bl, q H' s⟩
    | _ => exact q.elim) fun _ _ q => q⟩
theorem cmpOk {p : Int → Int → Bool} : ∀ t u w, cmpT p t u = some w → ∃ i j, t = .int i ∧ u = .int j ∧ ((∃ n, (fun i j => V.bl (p i j)) i j = .int n ∧ w = .int n) ∨ ∃ n, (fun i j => V.bl (p i j)) i j = .bl n ∧ w = .bl n) := fun t u w e => by
  cases t <;> cases u <;> first | (cases e; done) | (cases e; exact ⟨_, _, rfl, rfl, .inr ⟨_, rfl, rfl⟩⟩)
theorem t_lt (ha : PE X a (tG .w X.K S0 H0 W da)) (hb : PE X b (tG .w X.K S0 H0 W db)) : PT X (.Compare a [.Lt] [b] pos) (tB X.K S0 H0 W (dTest (d2 ltT da db))) := t_cmp op_lt (int0 cmpOk) ha hb (nomark _)
theorem t_le (ha : PE X a (tG .w X.K S0 H0 W da)) (hb : PE X b (tG .w X.K S0 H0 W db)) : PT X (.Compare a [.LtE] [b] pos) (tB X.K S0 H0 W (dTest (d2 leT da db))) := t_cmp op_le (int0 cmpOk) ha hb (nomark _)
theorem t_gt (ha : PE X a (tG .w X.K S0 H0 W da)) (hb : PE X b (tG .w X.K S0 H0 W db)) : PT X (.Compare a [.Gt] [b] pos) (tB X.K S0 H0 W (dTest (d2 gtT da db))) := t_cmp op_gt (int0 cmpOk) ha hb (nomark _)
theorem e_le (ha : PE X a (tG .w X.K S0 H0 W da)) (hb : PE X b (tG .w X.K S0 H0 W db)) : PE X (.Compare a [.LtE] [b] pos) (tG .f X.K S0 H0 W (d2 leT da db)) := e_cmp op_le (int0 cmpOk) ha hb (nomark _)
theorem e_gt (ha : PE X a (tG .w X.K S0 H0 W da)) (hb : PE X b (tG .w X.K S0 H0 W db)) : PE X (.Compare a [.Gt] [b] pos) (tG .f X.K S0 H0 W (d2 gtT da db)) := e_cmp op_gt (int0 cmpOk) ha hb (nomark _)
theorem nonV {H : Hp} {x : V} {t : T} (p : Pm X.K .w S H H x t) : decide (x = .non) = isNonB t := by
  have key : isNonB t = false → (∃ a, x = .ref a) → decide (x = .non) = isNonB t := fun e ⟨a, h⟩ => by subst h; rw [e]; rfl
  cases t with
  | non => rw [p.non]; rfl
  | bl b => rw [p.bl]; rfl
  | int i => rw [p.int]; rfl
  | str i => rw [p.str]; rfl
  | _ =>
    refine key rfl ?_
    rcases p with p | ⟨a, e, _⟩
    · cases p <;> exact ⟨_, rfl⟩
    · exact ⟨a, e⟩
theorem isN_imp {g : Bool → Bool} {f : T → Option T} (hf : ∀ t, f t = some (.bl (g (isNonB t)))) :
    ∀ (S : Addr → Prop) (H : Hp) (x : V) (t w : T) (Q : VK), (∀ a, S a → Mu H a) → Pm X.K .w S H H x t → f t = some w → (∀ v H', Same H H' → Pm X.K .f S H H' v w → Q v H') → (fun x H Q => Q (.bl (g (decide (x = .non)))) H : V → Hp → VK → Prop) x H Q := fun S H x t w Q hs p e z => by
  rw [hf] at e
  cases e
  show Q (.bl (g (decide (x = .non)))) H
  rw [nonV p]
  exact z _ _ (Same.refl _) (one_bl _)
theorem e_isN {j : Nat} {p' : Pos} (ha : PE X a (tG .w X.K S0 H0 W da)) : PE X (.Compare a [.Is] [.Constant .none j p'] pos) (tG .f X.K S0 H0 W (d1 isNonT da)) := pe_imp (pe_cmp (pc_isN ha) rfl) (im1 (isN_imp (g := id) fun _ => rfl))
theorem e_notN {j : Nat} {p' : Pos} (ha : PE X a (tG .w X.K S0 H0 W da)) : PE X (.Compare a [.IsNot] [.Constant .none j p'] pos) (tG .f X.K S0 H0 W (d1 notNonT da)) := pe_imp (pe_cmp (pc_notN ha) rfl) (im1 (isN_imp (g := not) fun _ => rfl))
theorem t_isN {j : Nat} {p' : Pos} (ha : PE X a (tG .w X.K S0 H0 W da)) : PT X (.Compare a [.Is] [.Constant .none j p'] pos) (tB X.K S0 H0 W (dTest (d1 isNonT da))) :=
  pt_imp (pt_cmpR op_isN ha pe_non (nomark _)) fun σ H Q ⟨ev, ps, r, z⟩ => ⟨ev, ps, r, R.on_mono (R.on_bind (R.on_bind z)) (fun t q v H' s p => ⟨rfl, _, rfl, by rw [nonV p]; exact q H' s⟩) fun _ _ q => q⟩
theorem t_notN {j : Nat} {p' : Pos} (ha : PE X a (tG .w X.K S0 H0 W da)) : PT X (.Compare a [.IsNot] [.Constant .none j p'] pos) (tB X.K S0 H0 W (dTest (d1 notNonT da))) :=
  pt_imp (pt_cmpR op_notN ha pe_non (nomark _)) fun σ H Q ⟨ev, ps, r, z⟩ => ⟨ev, ps, r, R.on_mono (R.on_bind (R.on_bind z)) (fun t q v H' s p => ⟨rfl, _, rfl, by rw [nonV p]; exact q H' s⟩) fun _ _ q => q⟩
mutual
def py : T → PyData
  | .non => .none
  | .bl b => .bool b
  | .int i => .int i
  | .str x => .str x
  | .lst xs => .list (pys xs)
  | .tup xs => .tuple (pys xs)
  | .scr ns => .list (ns.map .int)
  | .dic [] => .dict []
  | .dic [(.inl i, t)] => .dict [(.int i, py t)]
  | _ => .none
def pys : List T → List PyData
  | [] => []
  | t :: ts => py t :: pys ts
end
mutual
def pln : T → Bool
  | .non => true
  | .bl _ => true
  | .int _ => true
  | .str _ => true
  | .lst xs => plns xs
  | .tup xs => plns xs
  | .scr _ => true
  | _ => false
def plns : List T → Bool
  | [] => true
  | t :: ts => pln t && plns ts
end
theorem dpInts {K : PySem.W.Frag} {H : Hp} : ∀ ns : List Int, DpAll K H (ns.map V.int) (ns.map PyData.int)
  | [] => .nil
  | n :: ns => .cons (.int n) (dpInts ns)
mutual
theorem IsT.dp {K : PySem.W.Frag} {H : Hp} : ∀ {v : V} {t : T}, IsT K S H v t → pln t = true → Dp K H v (py t)
  | _, _, .non, _ => by unfold py; exact .non
  | _, _, .bl b, _ => by unfold py; exact .bl b
  | _, _, .int i, _ => by unfold py; exact .int i
  | _, _, .str x, _ => by unfold py; exact .str x
  | _, _, .lst n h r, p => by unfold py; unfold pln at p; exact .lst (SqL.of h) (IsTs.dp r p)
  | _, _, .tup h r, p => by unfold py; unfold pln at p; exact .tup h.sq (IsTs.dp r p)
  | _, _, .dic _ _ _, p => by simp [pln] at p
  | _, _, .dit _ _ _, p => by simp [pln] at p
  | _, _, .exc0 _ _, p => by simp [pln] at p
  | _, _, .exc _ _ _ _ _, p => by simp [pln] at p
  | _, _, .scr h, _ => by unfold py; exact .lst h.sq (dpInts _)
  | _, _, .ins _ _ _, p => by simp [pln] at p
theorem IsTs.dp {K : PySem.W.Frag} {H : Hp} : ∀ {v : List V} {t : List T}, IsTs K S H v t → plns t = true → DpAll K H v (pys t)
  | _, _, .nil, _ => by unfold pys; exact .nil
  | _, _, .cons h r, p => by
    unfold plns at p
    unfold pys
    have q := Bool.and_eq_true_iff.mp p
    exact .cons (IsT.dp h q.1) (IsTs.dp r q.2)
end
theorem Pm.dp {K : PySem.W.Frag} {H H' : Hp} {v : V} {t : T} (p : Pm K .w S H H' v t) (h : pln t = true) : Dp K H' v (py t) := by
  rcases p with p | ⟨a, rfl, c⟩
  · exact p.dp h
  · cases c with
    | lst g r => unfold py; unfold pln at h; exact .lst (SqL.of g) (r.dp h)
    | dic g r => simp [pln] at h
    | dit g r => simp [pln] at h
def okE (t : T) : Bool := pln t && SeqAt.shaped (py t)
def eqG (n : Bool → Bool) (t u : T) : Option T := match t, u with
  | .str a, .str b => some (.bl (n (decide (a = b))))
  | t, u => if okE t = true ∧ okE u = true then some (.bl (n (PyData.eqv (py t) (py u)))) else none
def eqT : T → T → Option T := eqG id
def neT : T → T → Option T := eqG not
theorem eqG_cases {n : Bool → Bool} {t u w : T} (h : eqG n t u = some w) : (∃ a b, t = .str a ∧ u = .str b ∧ w = .bl (n (decide (a = b)))) ∨ (okE t = true ∧ okE u = true ∧ w = .bl (n (PyData.eqv (py t) (py u)))) := by
  unfold eqG at h
  split at h
  · cases h; exact .inl ⟨_, _, rfl, rfl, rfl⟩
  · obtain ⟨⟨h1, h2⟩, e⟩ := some_if h
    exact .inr ⟨h1, h2, e⟩
theorem eq_imp {n : Bool → Bool} {r0 r : R2} (hr0 : ∀ (a b : Str) (H : Hp) (Q : VK), Q (.bl (n (decide (a = b)))) H → r0 (.str a) (.str b) H Q) (hr : r = fun x y H Q => ∃ d e, Dp X.K H x d ∧ Dp X.K H y e ∧ SeqAt.shaped d = true ∧ SeqAt.shaped e = true ∧ Q (.bl (n (PyData.eqv d e))) H) :
    ∀ (S : Addr → Prop) (H : Hp) (x y : V) (t u w : T) (Q : VK), (∀ a, S a → Mu H a) → Pm X.K .w S H H x t → Pm X.K .w S H H y u → eqG n t u = some w → (∀ v H', Same H H' → Pm X.K .f S H H' v w → Q v H') → (fun x y H Q => r0 x y H Q ∨ r x y H Q : R2) x y H Q := fun S H x y t u w Q hs p q e z => by
  rcases eqG_cases e with ⟨a, b, rfl, rfl, rfl⟩ | ⟨h1, h2, rfl⟩
  · refine .inl ?_
    rw [p.str, q.str]
    exact hr0 a b H Q (z _ _ (Same.refl _) (one_bl _))
  · obtain ⟨a1, b1⟩ := Bool.and_eq_true_iff.mp h1
    obtain ⟨a2, b2⟩ := Bool.and_eq_true_iff.mp h2
    subst hr
    exact .inr ⟨_, _, p.dp a1, q.dp a2, b1, b2, z _ _ (Same.refl _) (one_bl _)⟩
theorem req_str (a b : Str) (H : Hp) (Q : VK) (h : Q (.bl (id (decide (a = b)))) H) : rEq (.str a) (.str b) H Q := ⟨rfl, by
  have e : decide (V.str a = V.str b) = decide (a = b) := by by_cases z : a = b <;> simp [z]
  rw [e]; exact h⟩
theorem rne_str (a b : Str) (H : Hp) (Q : VK) (h : Q (.bl (not (decide (a = b)))) H) : rNe (.str a) (.str b) H Q := ⟨rfl, by
  have e : decide (V.str a = V.str b) = decide (a = b) := by by_cases z : a = b <;> simp [z]
  rw [e]; exact h⟩
theorem t_eq (cn : Cn X W k) (ha : PE X a (tG .w X.K S0 H0 W da)) (hb : PE X b (tG .w X.K S0 H0 W db)) : PT X (.Compare a [.Eq] [b] pos) (tB X.K S0 H0 W (dTest (d2 eqT da db))) := t_cmp (op_eq.or (op_eqD cn.room.units)) (eq_imp (n := id) req_str rfl) ha hb (nomark _)
theorem t_ne (cn : Cn X W k) (ha : PE X a (tG .w X.K S0 H0 W da)) (hb : PE X b (tG .w X.K S0 H0 W db)) : PT X (.Compare a [.NotEq] [b] pos) (tB X.K S0 H0 W (dTest (d2 neT da db))) := t_cmp (op_ne.or (op_neD cn.room.units)) (eq_imp (n := not) rne_str rfl) ha hb (nomark _)
theorem e_eq (cn : Cn X W k) (ha : PE X a (tG .w X.K S0 H0 W da)) (hb : PE X b (tG .w X.K S0 H0 W db)) : PE X (.Compare a [.Eq] [b] pos) (tG .f X.K S0 H0 W (d2 eqT da db)) := e_cmp (op_eq.or (op_eqD cn.room.units)) (eq_imp (n := id) req_str rfl) ha hb (nomark _)
def isBT (n : Bool → Bool) : T → T → Option T
  | .bl a, .bl b => some (.bl (n (decide (a = b))))
  | _, _ => none
theorem isB_imp {n : Bool → Bool} : ∀ (S : Addr → Prop) (H : Hp) (x y : V) (t u w : T) (Q : VK), (∀ a, S a → Mu H a) → Pm X.K .w S H H x t → Pm X.K .w S H H y u → isBT n t u = some w → (∀ v H', Same H H' → Pm X.K .f S H H' v w → Q v H') →
    (fun x y H Q => ∃ a b, x = .bl a ∧ y = .bl b ∧ Q (.bl (n (decide (a = b)))) H : R2) x y H Q := fun S H x y t u w Q hs p q e z => by
  cases t <;> cases u <;> first | (cases e; done) | (cases e; exact ⟨_, _, p.bl, q.bl, z _ _ (Same.refl _) (one_bl _)⟩)
theorem t_notB (ha : PE X a (tG .w X.K S0 H0 W da)) (hb : PE X b (tG .w X.K S0 H0 W db)) : PT X (.Compare a [.IsNot] [b] pos) (tB X.K S0 H0 W (dTest (d2 (isBT not) da db))) := t_cmp op_isnot_bl (isB_imp (n := not)) ha hb (nomark _)
theorem e_isB (ha : PE X a (tG .w X.K S0 H0 W da)) (hb : PE X b (tG .w X.K S0 H0 W db)) : PE X (.Compare a [.Is] [b] pos) (tG .f X.K S0 H0 W (d2 (isBT id) da db)) := e_cmp op_is_bl (isB_imp (n := id)) ha hb (nomark _)
def dChain (f g : T → T → Option T) (da db dc : Lo → R T) : Lo → R T := fun ev => (da ev).bind fun t => (db ev).bind fun u => (ofO (f t u)).bind fun z => match z with
  | .bl true => (dc ev).bind fun w => ofO (g u w)
  | .bl false => .ok (.bl false)
  | _ => .bad
theorem chain_imp {ce : Expr} {dc : Lo → R T} {r r' : R2} {f g : T → T → Option T}
    (hr : ∀ (S : Addr → Prop) (H : Hp) (x y : V) (t u w : T) (Q : VK), (∀ a, S a → Mu H a) → Pm X.K .w S H H x t → Pm X.K .w S H H y u → f t u = some w → (∀ v H', Same H H' → Pm X.K .f S H H' v w → Q v H') → r x y H Q)
    (hr' : ∀ (S : Addr → Prop) (H : Hp) (x y : V) (t u w : T) (Q : VK), (∀ a, S a → Mu H a) → Pm X.K .w S H H x t → Pm X.K .w S H H y u → g t u = some w → (∀ v H', Same H H' → Pm X.K .f S H H' v w → Q v H') → r' x y H Q) :
    ∀ σ H Q, tG .f X.K S0 H0 W (dChain f g da db dc) σ H Q → tChain r r' (tG .w X.K S0 H0 W da) (tG .w X.K S0 H0 W db) (tG .w X.K S0 H0 W dc) σ H Q := fun σ H Q ⟨ev, ps, r0, z⟩ => by
  refine ⟨ev, ps, r0, R.on_mono (R.on_bind z) (fun t q v H1 s1 p1 => ?_) fun _ _ q => q⟩
  refine ⟨ev, ps, r0.up s1, R.on_mono (R.on_bind q) (fun u q2 v2 H2 s2 p2 => ?_) fun c fs q2 cls dd H2 s2 x => q2 cls dd H2 (s1.trans s2) x⟩
  cases e : f t u with
  | none => rw [e] at q2; exact q2.elim
  | some w =>
    rw [e] at q2
    refine hr _ H2 v v2 t u w _ (r0.up (s1.trans s2)).sx (Pm.up (m := .w) s2 p1) p2 e fun v3 H3 s3 p3 => ?_
    cases w with
    | bl b =>
      refine ⟨b, p3.bl, ?_⟩
      have s13 := (s1.trans s2).trans s3
      cases b with
      | true =>
        refine iteT ⟨ev, ps, r0.up s13, R.on_mono (R.on_bind (show R.on ((dc ev).bind fun w => ofO (g u w)) _ _ from q2)) (fun w q4 v4 H4 s4 p4 => ?_) fun c fs q4 cls dd H4 s4 x => q4 cls dd H4 (s13.trans s4) x⟩
        cases e2 : g u w with
        | none => rw [e2] at q4; exact q4.elim
        | some w2 =>
          rw [e2] at q4
          exact hr' _ H4 v2 v4 u w w2 Q (r0.up (s13.trans s4)).sx (Pm.up (m := .w) (s3.trans s4) p2) p4 e2 fun v5 H5 s5 p5 => q4 v5 H5 ((s13.trans s4).trans s5) (p5.back (s13.trans s4))
      | false => exact iteF (q2 _ H3 s13 (one_bl false))
    | _ => exact q2.elim
theorem e_chain {ce : Expr} {dc : Lo → R T} {op op' : CmpOp} {r r' : R2} {f g : T → T → Option T} (ho : OpR X (compareOp op) r) (ho' : OpR X (compareOp op') r')
    (hr : ∀ (S : Addr → Prop) (H : Hp) (x y : V) (t u w : T) (Q : VK), (∀ a, S a → Mu H a) → Pm X.K .w S H H x t → Pm X.K .w S H H y u → f t u = some w → (∀ v H', Same H H' → Pm X.K .f S H H' v w → Q v H') → r x y H Q)
    (hr' : ∀ (S : Addr → Prop) (H : Hp) (x y : V) (t u w : T) (Q : VK), (∀ a, S a → Mu H a) → Pm X.K .w S H H x t → Pm X.K .w S H H y u → g t u = some w → (∀ v H', Same H H' → Pm X.K .f S H H' v w → Q v H') → r' x y H Q)
    (ha : PE X a (tG .w X.K S0 H0 W da)) (hb : PE X b (tG .w X.K S0 H0 W db)) (hc : PE X ce (tG .w X.K S0 H0 W dc)) (hm : lastMarks [op, op'] [b, ce] = false := by with_unfolding_all rfl) :
    PE X (.Compare a [op, op'] [b, ce] pos) (tG .f X.K S0 H0 W (dChain f g da db dc)) := pe_imp (pe_chain ho ho' ha hb hc hm) (chain_imp (ce := ce) hr hr')
end
end DL
set_option maxHeartbeats 1000000
namespace DL
open PySem PySem.Spec PyProof.Rows L2
def ixT : T → T → Option T
  | .lst xs, .int i => atI xs i
  | .tup xs, .int i => atI xs i
  | .scr ns, .int i => (atI ns i).map T.int
  | .str z, .int i => if z.length ≤ sizeLine then (atI z.cps.toList i).map fun c => T.str ⟨#[c]⟩ else none
  | _, _ => none
def cut {α : Type} (xs : List α) (lo hi : Option Int) : List α := (xs.drop (HT.sIx xs.length 0 lo)).take (HT.sIx xs.length xs.length hi - HT.sIx xs.length 0 lo)
def sliceT (t : T) (lo hi : Option Int) : Option T := match t with
  | .lst xs => some (.lst (cut xs lo hi))
  | .tup xs => some (.tup (cut xs lo hi))
  | .scr ns => some (.lst ((cut ns lo hi).map .int))
  | .str z => if z.length ≤ sizeLine then some (.str (cutS z lo hi)) else none
  | _ => none
def dPn : Lo → R (Option Int) := fun _ => .ok none
def dPs (a : Lo → R T) : Lo → R (Option Int) := fun ev => (a ev).bind fun t => match t with
  | .int i => .ok (some i)
  | _ => .bad
def dSlice (a : Lo → R T) (lo hi : Lo → R (Option Int)) : Lo → R T := fun ev => (a ev).bind fun t => (lo ev).bind fun l => (hi ev).bind fun h => ofO (sliceT t l h)
def tP (K : PySem.W.Frag) (S0 : Addr → Prop) (H0 : Hp) (W : WX) (d : Lo → R (Option Int)) : TO := fun σ H Q => ∃ ev ps, Rp K S0 H0 ps σ H ev ∧
  (d ev).on (fun o => ∀ H', Same H H' → Q o H') (fun c fs => ∀ cls dd H', Same H H' → IsX K (Sx S0 σ ev) H' cls dd c fs → W cls dd σ H')
section
variable {X : Cx} {e a b : Expr} {S S0 : Addr → Prop} {H0 : Hp} {W : WX} {d da db : Lo → R T} {c : Lo → R Bool} {pos : Pos} {m ma mb : Md} {k : Nat}
theorem ixN_map {α β : Type} (f : α → β) (xs : List α) (i : Int) : atI (xs.map f) i = (atI xs i).map f := by
  unfold atI
  rw [List.length_map]
  cases ixN xs.length i with
  | none => rfl
  | some j => simp
theorem atI_ts {K : PySem.W.Frag} {H : Hp} {vs : List V} {ts : List T} {i : Int} {t : T} (r : IsTs K S H vs ts) (h : atI ts i = some t) : ∃ v, atI vs i = some v ∧ IsT K S H v t := by
  unfold atI at h ⊢
  rw [r.len]
  cases e : ixN ts.length i with
  | none => rw [e] at h; cases h
  | some j =>
    rw [e] at h
    obtain ⟨v, h1, h2⟩ := r.get (i := j) (t := t) h
    exact ⟨v, h1, h2⟩
theorem e_ix (ha : PE X a (tG .w X.K S0 H0 W da)) (hb : PE X b (tG .w X.K S0 H0 W db)) (hs : PlainIx b := by exact fun _ _ => rfl) : PE X (.Subscript a b pos) (tG .s X.K S0 H0 W (d2 ixT da db)) := by
  refine pe_imp (pe_ix ix_seq ha hb hs) (im2 fun S H x y t u w Q hs p q e z => ?_)
  cases u with
  | int i =>
    cases t with
    | lst xs =>
      obtain ⟨l, vs, ex, hl, r⟩ := p.lst
      obtain ⟨v, h1, h2⟩ := atI_ts r e
      exact .inl ⟨l, vs, i, v, ex, q.int, SqL.of hl, h1, z _ _ (Same.refl _) h2⟩
    | tup xs =>
      obtain ⟨l, vs, ex, hl, r⟩ := p.tup
      obtain ⟨v, h1, h2⟩ := atI_ts r e
      exact .inr (.inl ⟨l, vs, i, v, ex, q.int, hl.sq, h1, z _ _ (Same.refl _) h2⟩)
    | scr ns =>
      obtain ⟨l, ex, hl⟩ := p.scr
      have e' : (atI ns i).map T.int = some w := e
      cases e2 : atI ns i with
      | none => rw [e2] at e'; cases e'
      | some n =>
        rw [e2] at e'
        cases e'
        exact .inl ⟨l, _, i, .int n, ex, q.int, hl.sq, by rw [ixN_map, e2]; rfl, z _ _ (Same.refl _) (IsT.int n)⟩
    | str s =>
      obtain ⟨hz, e'⟩ : s.length ≤ sizeLine ∧ (atI s.cps.toList i).map (fun c => T.str ⟨#[c]⟩) = some w := by
        have e1 : (if s.length ≤ sizeLine then (atI s.cps.toList i).map fun c => T.str ⟨#[c]⟩ else none) = some w := e
        by_cases hz : s.length ≤ sizeLine
        · rw [if_pos hz] at e1; exact ⟨hz, e1⟩
        · rw [if_neg hz] at e1; cases e1
      cases e2 : atI s.cps.toList i with
      | none => rw [e2] at e'; cases e'
      | some n =>
        rw [e2] at e'
        cases e'
        exact .inr (.inr ⟨s, i, n, p.str, q.int, hz, e2, z _ _ (Same.refl _) (IsT.str _)⟩)
    | _ => cases e
  | _ => cases t <;> cases e
theorem o_none : PO X none (tP X.K S0 H0 W dPn) := ⟨fun pins s σ H Q I ⟨ev, ps, r, z⟩ => po_none.run pins s σ H Q I (z H (Same.refl _))⟩
theorem o_some (h : PE X e (tG m X.K S0 H0 W d)) : PO X (some e) (tP X.K S0 H0 W (dPs d)) := ⟨fun pins s σ H Q I ⟨ev, ps, r, z⟩ => (po_some h).run pins s σ H Q I
  ⟨ev, ps, r, R.on_mono (R.on_bind z) (fun t q v H' s p => by
    cases t with
    | int i => exact ⟨i, p.int, q H' s⟩
    | _ => exact q.elim) fun _ _ q => q⟩⟩
theorem e_slice {lo hi : Option Expr} {dl dh : Lo → R (Option Int)} {p2 : Pos} (he : PE X e (tG .w X.K S0 H0 W d)) (hl : PO X lo (tP X.K S0 H0 W dl)) (hu : PO X hi (tP X.K S0 H0 W dh)) :
    PE X (.Subscript e (.Slice lo hi none p2) pos) (tG .f X.K S0 H0 W (dSlice d dl dh)) := pe_imp (pe_slice (sl_list.or (sl_tupA.or sl_str)) he hl hu) fun σ H Q ⟨ev, ps, r0, z⟩ => by
  refine ⟨ev, ps, r0, R.on_mono (R.on_bind z) (fun t q v H1 s1 p1 => ?_) fun _ _ q => q⟩
  refine ⟨ev, ps, r0.up s1, R.on_mono (R.on_bind q) (fun l q2 H2 s2 => ?_) fun c fs q2 cls dd H2 s2 x => q2 cls dd H2 (s1.trans s2) x⟩
  have s12 := s1.trans s2
  refine ⟨ev, ps, r0.up s12, R.on_mono (R.on_bind q2) (fun h q3 H3 s3 => ?_) fun c fs q2 cls dd H2 s2 x => q2 cls dd H2 (s12.trans s2) x⟩
  have s13 := s12.trans s3
  have p3 := Pm.up (m := .w) (s2.trans s3) p1
  have hs := (r0.up s13).sx
  cases t with
  | lst xs =>
    obtain ⟨a, vs, ex, hl, rl⟩ := p3.lst
    refine .inl ⟨a, vs, ex, SqL.of hl, fun n hn => q3 _ _ (s13.trans (same_upd hn)) ?_⟩
    have e1 : cutV vs l h = (vs.drop (HT.sIx xs.length 0 l)).take (HT.sIx xs.length xs.length h - HT.sIx xs.length 0 l) := by unfold cutV; rw [rl.len]
    rw [e1]
    exact (new_lst hn ((rl.drop _).take _)).back s13
  | tup xs =>
    obtain ⟨a, vs, ex, hl, rl⟩ := p3.tup
    have e1 : cutV vs l h = (vs.drop (HT.sIx xs.length 0 l)).take (HT.sIx xs.length xs.length h - HT.sIx xs.length 0 l) := by unfold cutV; rw [rl.len]
    refine .inr (.inl ⟨a, vs, ex, hl.sq, fun hw => q3 _ _ s13 ?_, fun hw n hn => q3 _ _ (s13.trans (same_upd hn)) ?_⟩)
    · have e2 : cut xs l h = xs := by
        have hw1 := hw.1
        have hw2 := hw.2
        rw [rl.len] at hw1 hw2
        unfold cut
        rw [hw1, hw2]; simp
      rw [e2]
      exact .inl ⟨rfl, .tup hl rl⟩
    · rw [e1]
      exact (new_tup hs hn ((rl.drop _).take _)).back s13
  | scr ns =>
    obtain ⟨a, ex, hl⟩ := p3.scr
    refine .inl ⟨a, _, ex, hl.sq, fun n hn => q3 _ _ (s13.trans (same_upd hn)) ?_⟩
    have e1 : cutV (ns.map V.int) l h = (cut ns l h).map V.int := by unfold cutV cut; rw [List.length_map, ← List.map_drop, ← List.map_take]
    have e2 : ∀ (ms : List Int), IsTs X.K (Sx S0 σ ev) H3 (ms.map V.int) (ms.map T.int) := fun ms => by
      induction ms with
      | nil => exact .nil
      | cons i ms ih => exact .cons (.int i) ih
    rw [e1]
    exact (new_lst hn (e2 _)).back s13
  | str s =>
    have q3' : (ofO (if s.length ≤ sizeLine then some (T.str (cutS s l h)) else none)).on (fun t => ∀ v H', Same H H' → Pm X.K .f (Sx S0 σ ev) H H' v t → Q v H') _ := q3
    by_cases hz : s.length ≤ sizeLine
    · rw [if_pos hz] at q3'
      exact .inr (.inr ⟨s, p3.str, hz, q3' _ _ s13 (one_str _)⟩)
    · rw [if_neg hz] at q3'
      exact q3'.elim
  | _ => exact q3.elim
inductive IsWs (K : PySem.W.Frag) (S : Addr → Prop) (H : Hp) : List V → List T → Prop
  | nil : IsWs K S H [] []
  | cons {v : V} {t : T} {vs : List V} {ts : List T} (h : Pm K .w S H H v t) (r : IsWs K S H vs ts) : IsWs K S H (v :: vs) (t :: ts)
theorem IsWs.same {K : PySem.W.Frag} {H H' : Hp} (s : Same H H') : ∀ {vs : List V} {ts : List T}, IsWs K S H vs ts → IsWs K S H' vs ts
  | _, _, .nil => .nil
  | _, _, .cons h r => .cons (Pm.up (m := .w) s h) (IsWs.same s r)
def tAw (K : PySem.W.Frag) (S0 : Addr → Prop) (H0 : Hp) (W : WX) (d : Lo → R (List T)) : TA := fun σ H Q => ∃ ev ps, Rp K S0 H0 ps σ H ev ∧
  (d ev).on (fun ts => ∀ vs H', Same H H' → IsWs K (Sx S0 σ ev) H' vs ts → Q vs H') (fun c fs => ∀ cls dd H', Same H H' → IsX K (Sx S0 σ ev) H' cls dd c fs → W cls dd σ H')
variable {es : List Expr} {ds : Lo → R (List T)}
theorem w_nil : PA X [] (tAw X.K S0 H0 W dNil) := ⟨fun pos pins s σ H Q I ⟨ev, ps, r, z⟩ => pa_nil.run pos pins s σ H Q I (z [] H (Same.refl _) .nil)⟩
theorem w_cons (ha : PE X e (tG .w X.K S0 H0 W d)) (hr : PA X es (tAw X.K S0 H0 W ds)) (hs : starEach (e :: es) X.env = (false, eval e X.env) :: starEach es X.env := by rfl) : PA X (e :: es) (tAw X.K S0 H0 W (dCons d ds)) := by
  refine ⟨fun pos pins s σ H Q I h => (pa_cons ha hr hs).run pos pins s σ H Q I ?_⟩
  obtain ⟨ev, ps, r, z⟩ := h
  refine ⟨ev, ps, r, R.on_mono (R.on_bind z) (fun t q v H1 s1 p1 => ?_) fun _ _ q => q⟩
  refine ⟨ev, ps, r.up s1, R.on_mono (R.on_bind q) (fun ts q2 vs H2 s2 p2 => q2 _ H2 (s1.trans s2) (.cons ?_ p2)) fun c fs q2 cls dd H2 s2 x => q2 cls dd H2 (s1.trans s2) x⟩
  exact Pm.up (m := .w) s2 p1
def dBlt (f : List T → Option T) (ds : Lo → R (List T)) : Lo → R T := fun ev => (ds ev).bind fun ts => ofO (f ts)
def BOk (K : PySem.W.Frag) (m : Md) (r : List V → Hp → VK → Prop) (f : List T → Option T) : Prop :=
  ∀ (S : Addr → Prop) (H : Hp) (vs : List V) (ts : List T) (w : T) (Q : VK), (∀ a, S a → Mu H a) → IsWs K S H vs ts → f ts = some w → (∀ v H', Same H H' → Pm K m S H H' v w → Q v H') → r vs H Q
theorem imB {r : List V → Hp → VK → Prop} {f : List T → Option T} (hr : BOk X.K m r f) : ∀ σ H Q, tG m X.K S0 H0 W (dBlt f ds) σ H Q → tCB r (tAw X.K S0 H0 W ds) σ H Q := fun σ H Q ⟨ev, ps, r0, z⟩ => by
  refine ⟨ev, ps, r0, R.on_mono (R.on_bind z) (fun ts q vs H1 s1 p1 => ?_) fun _ _ q => q⟩
  cases e : f ts with
  | none => rw [e] at q; exact q.elim
  | some w =>
    rw [e] at q
    exact hr _ H1 vs ts w Q (r0.up s1).sx p1 e fun v' H' s p => q v' H' (s1.trans s) (p.back s1)
theorem e_blt {x : Str} {id : String} {p : Pos} {r : List V → Hp → VK → Prop} {f : List T → Option T} (hc : CallR X (.builtin id) r) (hr : BOk X.K m r f) (hm : X.mg x = none) (hv : bootBuiltins x = some (.builtin id)) (ha : PA X (e :: es) (tAw X.K S0 H0 W ds)) (hg : Gl X x := by rfl) (hn : x ≠ "__name__" := by decide) (hdb : (x == ("__debug__" : Str)) = false := by decide)
    (he : starEach (e :: es) X.env = (false, eval e X.env) :: starEach es X.env := by rfl) (hpl : (backTo pos (starEach es X.env)).any (·.1) = false := by rfl) : PE X (.Call (.Name x p) (e :: es) [] pos) (tG m X.K S0 H0 W (dBlt f ds)) :=
  pe_imp (pe_callB hc hg hm hv ha hn hdb he hpl) (imB hr)
theorem e_bty {x : Str} {id : String} {p : Pos} {r : List V → Hp → VK → Prop} {f : List T → Option T} (hc : CallR X (.type id) r) (hr : BOk X.K m r f) (hm : X.mg x = none) (hv : bootBuiltins x = some (.type id)) (ha : PA X (e :: es) (tAw X.K S0 H0 W ds)) (hg : Gl X x := by rfl) (hn : x ≠ "__name__" := by decide) (hdb : (x == ("__debug__" : Str)) = false := by decide)
    (he : starEach (e :: es) X.env = (false, eval e X.env) :: starEach es X.env := by rfl) (hpl : (backTo pos (starEach es X.env)).any (·.1) = false := by rfl) : PE X (.Call (.Name x p) (e :: es) [] pos) (tG m X.K S0 H0 W (dBlt f ds)) :=
  pe_imp (pe_callTy hc hg hm hv ha hn hdb he hpl) (imB hr)
def lenL : List T → Option T
  | [.lst xs] => some (.int xs.length)
  | [.tup xs] => some (.int xs.length)
  | [.scr ns] => some (.int ns.length)
  | [.str z] => if z.length ≤ sizeLine then some (.int z.length) else none
  | _ => none
theorem one_w {K : PySem.W.Frag} {H : Hp} {vs : List V} {t : T} (h : IsWs K S H vs [t]) : ∃ v, vs = [v] ∧ Pm K .w S H H v t := by
  cases h with
  | cons h r => cases r; exact ⟨_, rfl, h⟩
theorem two_w {K : PySem.W.Frag} {H : Hp} {vs : List V} {t u : T} (h : IsWs K S H vs [t, u]) : ∃ v w, vs = [v, w] ∧ Pm K .w S H H v t ∧ Pm K .w S H H w u := by
  cases h with
  | cons h r => cases r with | cons h2 r => cases r; exact ⟨_, _, rfl, h, h2⟩
theorem b_len : BOk X.K .f (fun xs H Q => (∃ p ys, xs = [.ref p] ∧ (SqL X.K H p ys ∨ SqT X.K H p ys) ∧ Q (.int ys.length) H) ∨ ∃ z : Str, xs = [.str z] ∧ z.length ≤ sizeLine ∧ Q (.int z.length) H) lenL := fun S H vs ts w Q hs p e z => by
  unfold lenL at e
  split at e
  · cases e
    obtain ⟨v, rfl, q⟩ := one_w p
    obtain ⟨a, xs, rfl, h, r⟩ := q.lst
    exact .inl ⟨a, xs, rfl, .inl (SqL.of h), by rw [r.len]; exact z _ _ (Same.refl _) (one_int _)⟩
  · cases e
    obtain ⟨v, rfl, q⟩ := one_w p
    obtain ⟨a, xs, rfl, h, r⟩ := q.tup
    exact .inl ⟨a, xs, rfl, .inr h.sq, by rw [r.len]; exact z _ _ (Same.refl _) (one_int _)⟩
  · cases e
    obtain ⟨v, rfl, q⟩ := one_w p
    obtain ⟨a, rfl, h⟩ := q.scr
    exact .inl ⟨a, _, rfl, .inl h.sq, by rw [List.length_map]; exact z _ _ (Same.refl _) (one_int _)⟩
  · obtain ⟨hz, rfl⟩ := some_if e
    obtain ⟨v, rfl, q⟩ := one_w p
    rw [q.str]
    exact .inr ⟨_, rfl, hz, z _ _ (Same.refl _) (one_int _)⟩
  · cases e
theorem e_len {p : Pos} (hm : X.mg "len" = none) (ha : PE X e (tG .w X.K S0 H0 W d)) (hg : Gl X "len" := by rfl) (hs : starEach [e] X.env = (false, eval e X.env) :: starEach [] X.env := by rfl) :
    PE X (.Call (.Name "len" p) [e] [] pos) (tG .f X.K S0 H0 W (dBlt lenL (dCons d dNil))) := e_blt (call_len_seq.or call_len_str) b_len hm (by decide +kernel) (w_cons ha w_nil hs) hg (he := hs)
def maxL : List T → Option T
  | [.int a, .int b] => some (.int (if b > a then b else a))
  | _ => none
def minL : List T → Option T
  | [.int a, .int b] => some (.int (if b < a then b else a))
  | _ => none
theorem b_max2 : BOk X.K .f (fun xs H Q => ∃ i j, xs = [.int i, .int j] ∧ Q (.int (if j > i then j else i)) H) maxL := fun S H vs ts w Q hs p e z => by
  unfold maxL at e
  split at e
  · cases e
    obtain ⟨v, v', rfl, q, q'⟩ := two_w p
    rw [q.int, q'.int]
    exact ⟨_, _, rfl, z _ _ (Same.refl _) (one_int _)⟩
  · cases e
theorem b_min2 : BOk X.K .f (fun xs H Q => ∃ i j, xs = [.int i, .int j] ∧ Q (.int (if j < i then j else i)) H) minL := fun S H vs ts w Q hs p e z => by
  unfold minL at e
  split at e
  · cases e
    obtain ⟨v, v', rfl, q, q'⟩ := two_w p
    rw [q.int, q'.int]
    exact ⟨_, _, rfl, z _ _ (Same.refl _) (one_int _)⟩
  · cases e
theorem e_max2 {p : Pos} (cn : Cn X W k) (hm : X.mg "max" = none) (ha : PA X [a, b] (tAw X.K S0 H0 W ds)) (hg : Gl X "max" := by rfl) (hs : starEach [a, b] X.env = (false, eval a X.env) :: starEach [b] X.env := by rfl) (hpl : (backTo pos (starEach [b] X.env)).any (·.1) = false := by rfl) :
    PE X (.Call (.Name "max" p) [a, b] [] pos) (tG .f X.K S0 H0 W (dBlt maxL ds)) := e_blt (call_max2 cn.calm) b_max2 hm (by decide +kernel) ha hg (he := hs) (hpl := hpl)
theorem e_min2 {p : Pos} (cn : Cn X W k) (hm : X.mg "min" = none) (ha : PA X [a, b] (tAw X.K S0 H0 W ds)) (hg : Gl X "min" := by rfl) (hs : starEach [a, b] X.env = (false, eval a X.env) :: starEach [b] X.env := by rfl) (hpl : (backTo pos (starEach [b] X.env)).any (·.1) = false := by rfl) :
    PE X (.Call (.Name "min" p) [a, b] [] pos) (tG .f X.K S0 H0 W (dBlt minL ds)) := e_blt (call_min2 cn.calm) b_min2 hm (by decide +kernel) ha hg (he := hs) (hpl := hpl)
def intL : List T → Option T
  | [.int a] => some (.int a)
  | [.bl b] => some (.int (if b then 1 else 0))
  | _ => none
theorem b_int : BOk X.K .f (fun xs H Q => (∃ i, xs = [.int i] ∧ Q (.int i) H) ∨ ∃ k, xs = [.bl k] ∧ Q (.int (if k then 1 else 0)) H) intL := fun S H vs ts w Q hs p e z => by
  unfold intL at e
  split at e
  · cases e
    obtain ⟨v, rfl, q⟩ := one_w p
    rw [q.int]
    exact .inl ⟨_, rfl, z _ _ (Same.refl _) (one_int _)⟩
  · cases e
    obtain ⟨v, rfl, q⟩ := one_w p
    rw [q.bl]
    exact .inr ⟨_, rfl, z _ _ (Same.refl _) (one_int _)⟩
  · cases e
theorem e_int1 {p : Pos} (hm : X.mg "int" = none) (ha : PE X e (tG .w X.K S0 H0 W d)) (hg : Gl X "int" := by rfl) (hs : starEach [e] X.env = (false, eval e X.env) :: starEach [] X.env := by rfl) :
    PE X (.Call (.Name "int" p) [e] [] pos) (tG .f X.K S0 H0 W (dBlt intL (dCons d dNil))) := e_bty call_int1 b_int hm (by decide +kernel) (w_cons ha w_nil hs) hg (he := hs)
def listL : List T → Option T
  | [.lst xs] => some (.lst xs)
  | [.tup xs] => some (.lst xs)
  | _ => none
theorem b_list : BOk X.K .f (fun xs H Q => ∃ p ys, xs = [.ref p] ∧ (SqL X.K H p ys ∨ SqT X.K H p ys) ∧ ∀ l, H l = none → Q (.ref l) (upd H l (.lst ys))) listL := fun S H vs ts w Q hs p e z => by
  unfold listL at e
  split at e
  · cases e
    obtain ⟨v, rfl, q⟩ := one_w p
    obtain ⟨a, xs, rfl, h, r⟩ := q.lst
    exact ⟨a, xs, rfl, .inl (SqL.of h), fun l hl => z _ _ (same_upd hl) (new_lst hl r)⟩
  · cases e
    obtain ⟨v, rfl, q⟩ := one_w p
    obtain ⟨a, xs, rfl, h, r⟩ := q.tup
    exact ⟨a, xs, rfl, .inr h.sq, fun l hl => z _ _ (same_upd hl) (new_lst hl r)⟩
  · cases e
theorem e_listc {p : Pos} (hm : X.mg "list" = none) (ha : PE X e (tG .w X.K S0 H0 W d)) (hg : Gl X "list" := by rfl) (hs : starEach [e] X.env = (false, eval e X.env) :: starEach [] X.env := by rfl) :
    PE X (.Call (.Name "list" p) [e] [] pos) (tG .f X.K S0 H0 W (dBlt listL (dCons d dNil))) := e_bty call_list_of b_list hm (by decide +kernel) (w_cons ha w_nil hs) hg (he := hs)
def tupleL : List T → Option T
  | [.lst xs] => some (.tup xs)
  | [.tup xs] => some (.tup xs)
  | _ => none
theorem b_tuple : BOk X.K .f (fun xs H Q => ∃ p ys, xs = [.ref p] ∧ ((SqL X.K H p ys ∧ ∀ l, H l = none → Q (.ref l) (upd H l (.tup ys))) ∨ (SqT X.K H p ys ∧ Q (.ref p) H))) tupleL := fun S H vs ts w Q hs p e z => by
  unfold tupleL at e
  split at e
  · cases e
    obtain ⟨v, rfl, q⟩ := one_w p
    obtain ⟨a, xs, rfl, h, r⟩ := q.lst
    exact ⟨a, xs, rfl, .inl ⟨SqL.of h, fun l hl => z _ _ (same_upd hl) (new_tup hs hl r)⟩⟩
  · cases e
    obtain ⟨v, rfl, q⟩ := one_w p
    obtain ⟨a, xs, rfl, h, r⟩ := q.tup
    exact ⟨a, xs, rfl, .inr ⟨h.sq, z _ _ (Same.refl _) (.inl ⟨rfl, .tup h r⟩)⟩⟩
  · cases e
theorem e_tuplec {p : Pos} (hm : X.mg "tuple" = none) (ha : PE X e (tG .w X.K S0 H0 W d)) (hg : Gl X "tuple" := by rfl) (hs : starEach [e] X.env = (false, eval e X.env) :: starEach [] X.env := by rfl) :
    PE X (.Call (.Name "tuple" p) [e] [] pos) (tG .f X.K S0 H0 W (dBlt tupleL (dCons d dNil))) := e_bty call_tuple_of b_tuple hm (by decide +kernel) (w_cons ha w_nil hs) hg (he := hs)
def bls : List T → Option (List Bool)
  | [] => some []
  | .bl b :: ts => (bls ts).map (b :: ·)
  | _ => none
def nums : List T → Option (List Int)
  | [] => some []
  | .int b :: ts => (nums ts).map (b :: ·)
  | _ => none
def allL : List T → Option T
  | [.lst xs] => (bls xs).map fun bs => .bl (bs.all id)
  | _ => none
def sumL : List T → Option T
  | [.lst xs] => (nums xs).map fun bs => .int bs.sum
  | [.scr ns] => some (.int ns.sum)
  | _ => none
theorem bls_v {K : PySem.W.Frag} {H : Hp} : ∀ {vs : List V} {ts : List T} {bs : List Bool}, IsTs K S H vs ts → bls ts = some bs → vs = bs.map V.bl
  | _, _, bs, .nil, e => by cases e; rfl
  | _, _, bs, .cons h r, e => by
    cases h with
    | bl b =>
      unfold bls at e
      obtain ⟨cs, e1, e2⟩ := Option.map_eq_some_iff.mp e
      subst e2
      rw [bls_v r e1]; rfl
    | _ => cases e
theorem nums_v {K : PySem.W.Frag} {H : Hp} : ∀ {vs : List V} {ts : List T} {bs : List Int}, IsTs K S H vs ts → nums ts = some bs → vs = bs.map V.int
  | _, _, bs, .nil, e => by cases e; rfl
  | _, _, bs, .cons h r, e => by
    cases h with
    | int b =>
      unfold nums at e
      obtain ⟨cs, e1, e2⟩ := Option.map_eq_some_iff.mp e
      subst e2
      rw [nums_v r e1]; rfl
    | _ => cases e
theorem b_all : BOk X.K .f (rAll X.K) allL := fun S H vs ts w Q hs p e z => by
  unfold allL at e
  split at e
  · obtain ⟨bs, e1, e2⟩ := Option.map_eq_some_iff.mp e
    subst e2
    obtain ⟨v, rfl, q⟩ := one_w p
    obtain ⟨a, xs, rfl, h, r⟩ := q.lst
    exact ⟨a, bs, rfl, by rw [← bls_v r e1]; exact SqL.of h, z _ _ (Same.refl _) (one_bl _)⟩
  · cases e
theorem b_sum : BOk X.K .f (rSum X.K) sumL := fun S H vs ts w Q hs p e z => by
  unfold sumL at e
  split at e
  · obtain ⟨bs, e1, e2⟩ := Option.map_eq_some_iff.mp e
    subst e2
    obtain ⟨v, rfl, q⟩ := one_w p
    obtain ⟨a, xs, rfl, h, r⟩ := q.lst
    exact ⟨a, bs, rfl, by rw [← nums_v r e1]; exact SqL.of h, z _ _ (Same.refl _) (one_int _)⟩
  · cases e
    obtain ⟨v, rfl, q⟩ := one_w p
    obtain ⟨a, rfl, h⟩ := q.scr
    exact ⟨a, _, rfl, h.sq, z _ _ (Same.refl _) (one_int _)⟩
  · cases e
theorem e_all {p : Pos} (cn : Cn X W k) (hm : X.mg "all" = none) (ha : PE X e (tG .w X.K S0 H0 W d)) (hg : Gl X "all" := by rfl) (hs : starEach [e] X.env = (false, eval e X.env) :: starEach [] X.env := by rfl) :
    PE X (.Call (.Name "all" p) [e] [] pos) (tG .f X.K S0 H0 W (dBlt allL (dCons d dNil))) := e_blt (cr_all cn.calm) b_all hm (by decide +kernel) (w_cons ha w_nil hs) hg (he := hs)
theorem e_sum {p : Pos} (cn : Cn X W k) (hm : X.mg "sum" = none) (ha : PE X e (tG .w X.K S0 H0 W d)) (hg : Gl X "sum" := by rfl) (hs : starEach [e] X.env = (false, eval e X.env) :: starEach [] X.env := by rfl) :
    PE X (.Call (.Name "sum" p) [e] [] pos) (tG .f X.K S0 H0 W (dBlt sumL (dCons d dNil))) := e_blt (cr_sum cn.calm) b_sum hm (by decide +kernel) (w_cons ha w_nil hs) hg (he := hs)
def tyN : T → Option String
  | .non => some "NoneType"
  | .bl _ => some "bool"
  | .int _ => some "int"
  | .str _ => some "str"
  | .lst _ => some "list"
  | .scr _ => some "list"
  | .tup _ => some "tuple"
  | .dic _ => some "dict"
  | .dit _ => some "dict"
  | _ => none
def isiB (n m : String) : Bool := n == m || (n == "bool" && m == "int")
def isiT (m : String) (t : T) : Option T := (tyN t).map fun n => .bl (isiB n m)
def isiL (m : String) : List T → Option T
  | [t] => isiT m t
  | _ => none
theorem kit_isi (n m : String) (hn : n ∈ ["NoneType", "bool", "int", "str", "list", "tuple", "dict"]) (hm : m ∈ ["bool", "int", "str", "list", "tuple", "dict"]) : kitB n m = some (isiB n m) := by
  have key : ∀ n ∈ ["NoneType", "bool", "int", "str", "list", "tuple", "dict"], ∀ m ∈ ["bool", "int", "str", "list", "tuple", "dict"], kitB n m = some (isiB n m) := by decide +kernel
  exact key n hn m hm
theorem ty_in {t : T} {n : String} (h : tyN t = some n) : n ∈ ["NoneType", "bool", "int", "str", "list", "tuple", "dict"] := by
  cases t <;> simp [tyN] at h <;> subst h <;> decide
theorem Pm.ty {K : PySem.W.Frag} {H : Hp} {v : V} {t : T} {n : String} (p : Pm K .w S H H v t) (h : tyN t = some n) : TyX K H v (.type n) := by
  cases t with
  | non => cases h; rw [p.non]; exact .base .non
  | bl b => cases h; rw [p.bl]; exact .base (.bl b)
  | int b => cases h; rw [p.int]; exact .base (.int b)
  | str b => cases h; rw [p.str]; exact .base (.str b)
  | lst ts => cases h; obtain ⟨a, xs, rfl, h, r⟩ := p.lst; exact .base (.lst h)
  | tup ts =>
    cases h
    obtain ⟨a, xs, rfl, h, r⟩ := p.tup
    exact .base (.tup h.2)
  | scr ts =>
    cases h
    obtain ⟨a, rfl, h⟩ := p.scr
    rcases h with ⟨_, h | ⟨o, h⟩⟩ | ⟨o, its, n, h, c, _⟩
    · exact .base (.lst h)
    · exact .base (.frz h)
    · exact .kList h c
  | dic ts =>
    cases h
    rcases p with p | ⟨a, rfl, p⟩
    · cases p with | dic n h r => exact .base (.dK h)
    · cases p with | dic h r => exact .base (.dK h)
  | dit ts =>
    cases h
    rcases p with p | ⟨a, rfl, p⟩
    · cases p with | dit n h r => exact .base (.dT h)
    · cases p with | dit h r => exact .base (.dT h)
  | _ => cases h
theorem e_isi {ty : String} {x : Str} {p p2 : Pos} (hm : X.mg "isinstance" = none) (hm2 : X.mg x = none) (hv : bootBuiltins x = some (.type ty)) (hty : ty ∈ ["bool", "int", "str", "list", "tuple", "dict"]) (ha : PE X e (tG .w X.K S0 H0 W d)) (hg : Gl X "isinstance" := by rfl) (hg2 : Gl X x := by rfl) (hn : x ≠ "__name__" := by decide)
    (hdb : (x == ("__debug__" : Str)) = false := by decide)
    (hs : starEach [e, .Name x p2] X.env = (false, eval e X.env) :: starEach [.Name x p2] X.env := by rfl) (hs2 : starEach [.Name x p2] X.env = (false, eval (.Name x p2) X.env) :: starEach [] X.env := by rfl)
    (hpl : (backTo pos (starEach [.Name x p2] X.env)).any (·.1) = false := by rfl) :
    PE X (.Call (.Name "isinstance" p) [e, .Name x p2] [] pos) (tG .f X.K S0 H0 W (dBlt (isiL ty) (dCons d dNil))) := by
  refine pe_imp (pe_callB call_isi hg hm (by decide +kernel) (pa_cons ha (pa_cons (pe_bltn hg2 hm2 hv (v := .ty ty) rfl hn hdb) pa_nil hs2) hs) (he := hs) (hpl := hpl)) fun σ H Q ⟨ev, ps, r0, z⟩ => ?_
  refine ⟨ev, ps, r0, R.on_mono (R.on_bind (R.on_bind z)) (fun t q v H1 s1 p1 => ?_) fun _ _ q => q⟩
  have q : (ofO (isiT ty t)).on _ _ := q
  cases e : tyN t with
  | none => unfold isiT at q; rw [e] at q; exact q.elim
  | some n =>
    unfold isiT at q
    rw [e] at q
    exact ⟨v, .ty ty, .type n, .type ty, isiB n ty, rfl, .ty ty, p1.ty e, kit_ty (kit_isi n ty (ty_in e) hty), q _ _ s1 (one_bl _)⟩
end
end DL
set_option maxHeartbeats 1000000
namespace DL
open PySem PySem.Spec PyProof.Rows L2
structure FnG (P : Program) (w : World) (K : PySem.W.Frag) (mg : Str → Option Value) (base : Heap) (k : Nat) (f : Addr) (fd : FuncData) (ps : List Str) (sp : Sp) : Prop where
  len : ∀ vs H Q E, sp vs H Q E → vs.length = ps.length
  go : ∀ (A : Around) (outer : List PySem.Env) (s : Shared) (H : Hp) (args : Args) (us : List Value) (vs : List V) (Q : VK) (E : XK), Room k A → A.guards = some [] → Env0 P w K mg base A outer s H → BindsTo s fd args (ps.zip us) → Vals vs us →
    sp vs H Q E → codeAny (model P w) A (.call (.ref f) args) (CR (L2.CX P w) outer P w H s Q E) s
def spD (K : PySem.W.Frag) (n : Nat) (m : Md) (d : List T → R T) : Sp := fun vs H Q E => ∃ ts S, vs.length = n ∧ (∀ a, S a → Mu H a) ∧ IsTs K S H vs ts ∧
  (d ts).on (fun t => ∀ v H', Same H H' → Pm K m S H H' v t → Q v H') (fun c fs => ∀ cls dd H', Same H H' → IsX K S H' cls dd c fs → E cls dd H')
structure GF (P : Program) (w : World) (K : PySem.W.Frag) (mg : Str → Option Value) (base : Heap) (k : Nat) (x : Str) (n : Nat) (m : Md) (d : List T → R T) : Prop where
  ex : ∃ f fd ps, ps.length = n ∧ mg x = some (.ref f) ∧ PySem.W.keepIn K (.ref f) = true ∧ Binds K fd ps [] ∧ FnG P w K mg base k f fd ps (spD K n m d)
theorem GF.mono {P : Program} {w : World} {K : PySem.W.Frag} {mg : Str → Option Value} {base : Heap} {j k : Nat} {x : Str} {n : Nat} {m : Md} {d : List T → R T} (F : GF P w K mg base j x n m d) (h : j ≤ k := by decide) : GF P w K mg base k x n m d := by
  obtain ⟨f, fd, ps, a, b, c, e, G⟩ := F.ex
  exact ⟨f, fd, ps, a, b, c, e, ⟨G.len, fun A outer s H args us vs Q E hr => G.go A outer s H args us vs Q E (hr.mono h)⟩⟩
def dCall (d : List T → R T) (ds : Lo → R (List T)) : Lo → R T := fun ev => (ds ev).bind d
section
variable {X : Cx} {e a b : Expr} {S S0 : Addr → Prop} {H0 : Hp} {W : WX} {da db : Lo → R T} {c : Lo → R Bool} {pos : Pos} {m ma mb : Md} {k : Nat} {es : List Expr} {ds : Lo → R (List T)}
theorem run_G {x : Str} {n : Nat} {d : List T → R T} (cn : Cn X W k) {f : Addr} {fd : FuncData} {prs : List Str} (hb : Binds X.K fd prs []) (G : FnG X.prog X.w X.K X.mg X.base k f fd prs (spD X.K n m d))
    {pins : List (Addr × Obj)} {σ : L2.St} {H : Hp} {s : Shared} {Q : VK} {us : List Value} {vs : List V} (I : Inv X pins σ H s) (r : Vals vs us) (h : spD X.K n m d vs H Q (fun cls dd H' => W cls dd σ H')) :
    wpAny (model X.prog X.w) X.A (call (.ref f) us) (EP X pins σ Q) X.xe s := by
  have hl : us.length = prs.length := by rw [← r.length]; exact G.len _ _ _ _ h
  have bd := hb s us I.kIn (by rw [List.append_nil]; exact hl)
  rw [List.append_nil] at bd
  refine wpAny_call (codeAny_mono (G.go X.A X.stack s H ⟨us, []⟩ us vs Q _ cn.room cn.gu I.env0 bd r h) fun res s' hq => ?_)
  match res, hq with
  | .error u, hq => exact cn.tk u s' (XE.of_call I (fun cls dd H' z => z) hq)
  | .ok (.ret u), hq => exact I.after hq
theorem e_call {x : Str} {n : Nat} {d : List T → R T} {p : Pos} (cn : Cn X W k) (F : GF X.prog X.w X.K X.mg X.base k x n m d) (ha : PA X (e :: es) (tA X.K S0 H0 W ds)) (hn : ∀ ev ts, ds ev = .ok ts → ts.length = n) (hg : Gl X x := by rfl) (hdb : (x == ("__debug__" : Str)) = false := by decide)
    (he : starEach (e :: es) X.env = (false, eval e X.env) :: starEach es X.env := by rfl) (hpl : (backTo pos (starEach es X.env)).any (·.1) = false := by rfl) : PE X (.Call (.Name x p) (e :: es) [] pos) (tG m X.K S0 H0 W (dCall d ds)) := by
  refine ⟨fun pins s σ H Q I h => ?_⟩
  obtain ⟨ev, ps, r0, z⟩ := h
  obtain ⟨f, fd, prs, hl, hm, hk, hb, G⟩ := F.ex
  refine wpAny_Call_Name_kw (ld_glob I hg hm ?_ hdb)
  refine PySem.W.callWith_K (h₀ := X.base) I.ok.mod.kin hk (thn (ha.run pos pins s σ H (fun vs H1 => spD X.K n m d vs H1 Q fun cls dd H' => W cls dd σ H') I ⟨ev, ps, r0, ?_⟩) fun us s1 hh => ?_) he hpl
  · have z2 := R.on_bind z
    cases e1 : ds ev with
    | bad => rw [e1] at z2; exact z2.elim
    | ex c fs => rw [e1] at z2; exact z2
    | ok ts =>
      rw [e1] at z2
      intro vs H1 s1 p1
      exact ⟨ts, _, by rw [p1.len]; exact hn ev ts e1, (r0.up s1).sx, p1, R.on_mono z2 (fun t q v H2 s2 p => q v H2 (s1.trans s2) (p.back s1)) fun c fs q cls dd H2 s2 x => q cls dd H2 (s1.trans s2) x⟩
  · obtain ⟨vs, H1, I1, rv, q⟩ := hh
    exact ⟨I1.kIn, run_G (x := x) cn hb G I1 rv q⟩
theorem n_nil : ∀ (ev : Lo) (ts : List T), dNil ev = .ok ts → ts.length = 0 := fun ev ts h => by cases h; rfl
theorem n_cons {d : Lo → R T} {n : Nat} (h : ∀ ev ts, ds ev = .ok ts → ts.length = n) : ∀ (ev : Lo) (ts : List T), dCons d ds ev = .ok ts → ts.length = n + 1 := fun ev ts z => by
  unfold dCons at z
  cases e1 : d ev with
  | ok t =>
    rw [e1] at z
    have z : ((ds ev).bind fun ts => R.ok (t :: ts)) = .ok ts := z
    cases e2 : ds ev with
    | ok us =>
      rw [e2] at z
      cases z
      rw [List.length_cons, h ev us e2]
    | ex c fs => rw [e2] at z; cases z
    | bad => rw [e2] at z; cases z
  | ex c fs => rw [e1] at z; cases z
  | bad => rw [e1] at z; cases z
end
inductive Fl where
  | nx (ev : Lo) | bk (ev : Lo) | ct (ev : Lo) | rt (t : T) | ex (c : Str) (fs : List (Str × T)) (ev : Lo) | bad
def Fl.on (r : Fl) (N B C : Lo → Prop) (Rt : T → Prop) (Ex : Str → List (Str × T) → Lo → Prop) : Prop := match r with
  | .nx ev => N ev
  | .bk ev => B ev
  | .ct ev => C ev
  | .rt t => Rt t
  | .ex c fs ev => Ex c fs ev
  | .bad => False
theorem Fl.on_mono {r : Fl} {N B C N' B' C' : Lo → Prop} {Rt Rt' : T → Prop} {Ex Ex' : Str → List (Str × T) → Lo → Prop} (h : r.on N B C Rt Ex) (hN : ∀ ev, N ev → N' ev) (hB : ∀ ev, B ev → B' ev) (hC : ∀ ev, C ev → C' ev) (hR : ∀ t, Rt t → Rt' t)
    (hE : ∀ c fs ev, Ex c fs ev → Ex' c fs ev) : r.on N' B' C' Rt' Ex' := by
  cases r with
  | nx ev => exact hN _ h
  | bk ev => exact hB _ h
  | ct ev => exact hC _ h
  | rt ev => exact hR _ h
  | ex c fs ev => exact hE _ _ _ h
  | bad => exact h
def R.fl {α : Type} (r : R α) (ev : Lo) (f : α → Fl) : Fl := match r with
  | .ok a => f a
  | .ex c fs => .ex c fs ev
  | .bad => .bad
@[simp] theorem R.fl_ok {α : Type} (a : α) (ev : Lo) (f : α → Fl) : (R.ok a).fl ev f = f a := rfl
@[simp] theorem R.fl_ex {α : Type} (c : Str) (fs : List (Str × T)) (ev : Lo) (f : α → Fl) : (R.ex c fs : R α).fl ev f = .ex c fs ev := rfl
@[simp] theorem R.fl_bad {α : Type} (ev : Lo) (f : α → Fl) : (R.bad : R α).fl ev f = .bad := rfl
theorem R.fl_on {α : Type} {r : R α} {ev : Lo} {f : α → Fl} {N B C : Lo → Prop} {Rt : T → Prop} {Ex : Str → List (Str × T) → Lo → Prop} (h : (r.fl ev f).on N B C Rt Ex) : r.on (fun a => (f a).on N B C Rt Ex) fun c fs => Ex c fs ev := by
  cases r <;> exact h
def tS (m : Md) (K : PySem.W.Frag) (S0 : Addr → Prop) (H0 : Hp) (W : WX) (d : Lo → Fl) : TS := fun D σ H => ∃ ev ps, Rp K S0 H0 ps σ H ev ∧
  (d ev).on (fun e => ∀ σ' H', Rp K S0 H0 ps σ' H' e → D.nx σ' H') (fun e => ∀ σ' H', Rp K S0 H0 ps σ' H' e → D.bk σ' H') (fun e => ∀ σ' H', Rp K S0 H0 ps σ' H' e → D.ct σ' H')
    (fun t => ∀ v H', Same H0 H' → Pm K m S0 H0 H' v t → D.rt v H') (fun c fs e => ∀ cls dd σ' H', Rp K S0 H0 ps σ' H' e → IsX K (Sx S0 σ' e) H' cls dd c fs → W cls dd σ' H')
section
variable {K : PySem.W.Frag} {S0 : Addr → Prop} {H0 H H' : Hp} {ps ps' : List (V × T)} {σ : L2.St} {ev : Lo}
theorem Rp.pins (r : Rp K S0 H0 ps σ H ev) (h : ∀ p ∈ ps', IsT K (Sx S0 σ ev) H p.1 p.2) : Rp K S0 H0 ps' σ H ev := ⟨r.same, r.s0, r.frz, r.own, r.inj, h, r.len⟩
theorem set_get {α : Type} {l : List α} {i j : Nat} {x y : α} (h : (l.set i x)[j]? = some y) : (j = i ∧ y = x ∧ i < l.length) ∨ (j ≠ i ∧ l[j]? = some y) := by
  by_cases e : i = j
  · subst e
    by_cases hl : i < l.length
    · rw [List.getElem?_set_self hl] at h; cases h; exact .inl ⟨rfl, rfl, hl⟩
    · rw [List.getElem?_eq_none (by simpa using hl)] at h; cases h
  · rw [List.getElem?_set_ne e] at h; exact .inr ⟨fun z => e z.symm, h⟩
theorem own_set {i : Nat} {v : V} {t : T} {o : Bool} {a : Addr} (h : Own (σ.set i (some v)) (ev.set i (some (t, o))) a) : (o = true ∧ v = .ref a) ∨ Own σ ev a := by
  obtain ⟨j, u, h1, h2⟩ := h
  rcases set_get h1 with ⟨rfl, e, _⟩ | ⟨n, g⟩
  · cases e
    rcases set_get h2 with ⟨_, e2, _⟩ | ⟨n, _⟩
    · cases e2; exact .inl ⟨rfl, rfl⟩
    · exact absurd rfl n
  · rcases set_get h2 with ⟨e, _⟩ | ⟨_, g2⟩
    · exact absurd e n
    · exact .inr ⟨j, u, g, g2⟩
theorem Rp.store {i : Nat} {v : V} {t : T} {o : Bool} (r : Rp K S0 H0 ps σ H ev) (s : Same H H')
    (h : (o = false ∧ IsT K (Sx S0 σ ev) H' v t) ∨ (o = true ∧ ∃ a, v = .ref a ∧ H a = none ∧ OwC K (fun b => Sx S0 σ ev b ∨ b = a) H' a t)) : Rp K S0 H0 ps (σ.set i (some v)) H' (ev.set i (some (t, o))) := by
  have lt : ∀ {a : Addr}, Own (σ.set i (some v)) (ev.set i (some (t, o))) a → (o = true ∧ v = .ref a) ∨ Own σ ev a := own_set
  -- what isn't owned now isn't owned then
  have mv : Mv (Sx S0 σ ev) (Sx S0 (σ.set i (some v)) (ev.set i (some (t, o)))) H H' := fun a u e n => ⟨s a u e, fun z => by
    rcases z with z | z
    · exact n (.inl z)
    · rcases lt z with ⟨eo, ea⟩ | z
      · rcases h with ⟨e2, _⟩ | ⟨_, b, eb, hb, _⟩
        · rw [eo] at e2; cases e2
        · rw [ea] at eb; cases eb; rw [hb] at e; cases e
      · exact n (.inr z)⟩
  refine ⟨r.same.trans s, (r.up s).s0, fun j u hj => ?_, fun j u hj => ?_, fun j l u w a h1 h2 h3 h4 => ?_, fun p hp => (r.pin p hp).mv mv, by simp [r.len]⟩
  · rcases set_get hj with ⟨rfl, e, hlt⟩ | ⟨n, g⟩
    · cases e
      refine ⟨v, ?_, ?_⟩
      · rw [List.getElem?_set_self (by rw [r.len]; exact hlt)]
      · rcases h with ⟨_, q⟩ | ⟨e2, _⟩
        · refine q.mv (mv_less fun a z => ?_)
          rcases z with z | z
          · exact .inl z
          · rcases lt z with ⟨eo, _⟩ | z
            · cases eo
            · exact .inr z
        · cases e2
    · obtain ⟨x, h1, h2⟩ := r.frz j u g
      exact ⟨x, by rw [List.getElem?_set_ne (fun z => n z.symm)]; exact h1, h2.mv mv⟩
  · rcases set_get hj with ⟨rfl, e, hlt⟩ | ⟨n, g⟩
    · cases e
      rcases h with ⟨e2, _⟩ | ⟨_, a, rfl, hn, c⟩
      · cases e2
      · refine ⟨a, by rw [List.getElem?_set_self (by rw [r.len]; exact hlt)], fun z => (r.s0 a z).ne hn, r.same.free hn, c.mv (mv_less fun b z => ?_) rfl⟩
        rcases z with z | z
        · exact .inl (.inl z)
        · rcases lt z with ⟨_, eb⟩ | z
          · cases eb; exact .inr rfl
          · exact .inl (.inr z)
    · obtain ⟨a, h1, h2, h3, c⟩ := r.own j u g
      refine ⟨a, by rw [List.getElem?_set_ne (fun z => n z.symm)]; exact h1, h2, h3, c.mv mv ?_⟩
      obtain ⟨x, e⟩ := c.some
      rw [e]; exact s _ _ e
  · have ne : ∀ {j : Nat} {u : T}, j ≠ i → ev[j]? = some (some (u, true)) → (σ.set i (some v))[j]? = some (some (.ref a)) → o = true → v = .ref a → False := fun {j u} n g g2 eo ea => by
      rw [List.getElem?_set_ne (fun z => n z.symm)] at g2
      obtain ⟨b, e1, _, _, c⟩ := r.own j u g
      rw [g2] at e1
      cases e1
      obtain ⟨x, e⟩ := c.some
      rcases h with ⟨e2, _⟩ | ⟨_, b, eb, hb, _⟩
      · rw [eo] at e2; cases e2
      · rw [ea] at eb; cases eb; rw [hb] at e; cases e
    have vat : ∀ {j : Nat}, j = i → (σ.set i (some v))[j]? = some (some (.ref a)) → v = .ref a := fun {j} e g => by
      subst e
      rcases set_get g with ⟨_, e2, _⟩ | ⟨n, _⟩
      · cases e2; rfl
      · exact absurd rfl n
    rcases set_get h1 with ⟨e1, e2, _⟩ | ⟨n1, g1⟩
    · rcases set_get h2 with ⟨e3, _, _⟩ | ⟨n2, g2⟩
      · rw [e1, e3]
      · cases e2
        exact (ne n2 g2 h4 rfl (vat e1 h3)).elim
    · rcases set_get h2 with ⟨e3, e4, _⟩ | ⟨n2, g2⟩
      · cases e4
        exact (ne n1 g1 h3 rfl (vat e3 h4)).elim
      · rw [List.getElem?_set_ne (fun z => n1 z.symm)] at h3
        rw [List.getElem?_set_ne (fun z => n2 z.symm)] at h4
        exact r.inj j l u w a g1 g2 h3 h4
theorem Rp.write {i : Nat} {a : Addr} {t u : T} {o : HO} (r : Rp K S0 H0 ps σ H ev) (hi : ev[i]? = some (some (t, true))) (ha : σ[i]? = some (some (.ref a))) (c : OwC K (Sx S0 σ ev) (upd H a o) a u) : Rp K S0 H0 ps σ (upd H a o) (ev.set i (some (u, true))) := by
  have hit : i < ev.length := (List.getElem?_eq_some_iff.mp hi).1
  have sx : ∀ b, Sx S0 σ (ev.set i (some (u, true))) b ↔ Sx S0 σ ev b := fun b => by
    constructor
    · rintro (z | ⟨j, w, h1, h2⟩)
      · exact .inl z
      · rcases set_get h1 with ⟨rfl, _, _⟩ | ⟨n, g⟩
        · exact .inr ⟨j, t, hi, h2⟩
        · exact .inr ⟨j, w, g, h2⟩
    · rintro (z | ⟨j, w, h1, h2⟩)
      · exact .inl z
      · by_cases e : i = j
        · subst e; exact .inr ⟨i, u, by rw [List.getElem?_set_self hit], h2⟩
        · exact .inr ⟨j, w, by rw [List.getElem?_set_ne e]; exact h1, h2⟩
  have hS : Sx S0 σ ev a := .inr ⟨i, t, hi, ha⟩
  have mv : Mv (Sx S0 σ ev) (Sx S0 σ (ev.set i (some (u, true)))) H (upd H a o) := fun b w e n => ⟨(upd_ne (fun z => n (by rw [z]; exact hS))).trans e, fun z => n ((sx b).mp z)⟩
  obtain ⟨a', e1, n0, hn, c0⟩ := r.own i t hi
  rw [ha] at e1
  cases e1
  have own0 : H0 a = none := hn
  refine ⟨fun b w e => ?_, fun b z => ?_, fun j w hj => ?_, fun j w hj => ?_, fun j l w x b h1 h2 h3 h4 => ?_, fun p hp => (r.pin p hp).mv mv, by simp [r.len]⟩
  · have : b ≠ a := fun z => by rw [z, own0] at e; cases e
    rw [upd_ne this]; exact r.same b w e
  · by_cases e : b = a
    · rw [e]; exact c.mu
    · exact (r.s0 b z).oth e
  · rcases set_get hj with ⟨_, e, _⟩ | ⟨n, g⟩
    · cases e
    · obtain ⟨x, h1, h2⟩ := r.frz j w g
      exact ⟨x, h1, h2.mv mv⟩
  · rcases set_get hj with ⟨rfl, e, _⟩ | ⟨n, g⟩
    · cases e
      exact ⟨a, ha, n0, hn, c.mv (mv_less fun b z => (sx b).mp z) rfl⟩
    · obtain ⟨b, h1, h2, h3, cb⟩ := r.own j w g
      have nb : b ≠ a := fun z => n (r.inj j i w t a g hi (z ▸ h1) ha)
      exact ⟨b, h1, h2, h3, cb.mv mv (by rw [upd_ne nb])⟩
  · have g : ∀ {j : Nat} {w : T}, (ev.set i (some (u, true)))[j]? = some (some (w, true)) → ∃ w', ev[j]? = some (some (w', true)) := fun {j w} h => by
      rcases set_get h with ⟨rfl, _, _⟩ | ⟨_, g⟩
      · exact ⟨t, hi⟩
      · exact ⟨w, g⟩
    obtain ⟨w1, g1⟩ := g h1
    obtain ⟨w2, g2⟩ := g h2
    exact r.inj j l w1 w2 b g1 g2 h3 h4
theorem Rp.release {i : Nat} {t : T} (r : Rp K S0 H0 ps σ H ev) (hi : ev[i]? = some (some (t, true))) : Rp K S0 H0 ps σ H (ev.set i (some (t, false))) := by
  have sx : ∀ b, Sx S0 σ (ev.set i (some (t, false))) b → Sx S0 σ ev b := fun b z => by
    rcases z with z | ⟨j, w, h1, h2⟩
    · exact .inl z
    · rcases set_get h1 with ⟨_, e, _⟩ | ⟨n, g⟩
      · cases e
      · exact .inr ⟨j, w, g, h2⟩
  have mv : Mv (Sx S0 σ ev) (Sx S0 σ (ev.set i (some (t, false)))) H H := mv_less sx
  refine ⟨r.same, r.s0, fun j w hj => ?_, fun j w hj => ?_, fun j l w x b h1 h2 h3 h4 => ?_, fun p hp => (r.pin p hp).mv mv, by simp [r.len]⟩
  · rcases set_get hj with ⟨rfl, e, _⟩ | ⟨n, g⟩
    · cases e
      obtain ⟨a, h1, h2, h3, c⟩ := r.own _ _ hi
      refine ⟨.ref a, h1, OwC.isT ?_ (c.mv mv rfl)⟩
      rintro (z | ⟨l, x, g1, g2⟩)
      · exact h2 z
      · rcases set_get g1 with ⟨_, e, _⟩ | ⟨n, g⟩
        · cases e
        · exact n (r.inj l _ x _ a g hi g2 h1)
    · obtain ⟨x, h1, h2⟩ := r.frz j w g
      exact ⟨x, h1, h2.mv mv⟩
  · rcases set_get hj with ⟨_, e, _⟩ | ⟨n, g⟩
    · cases e
    · obtain ⟨b, h1, h2, h3, cb⟩ := r.own j w g
      exact ⟨b, h1, h2, h3, cb.mv mv rfl⟩
  · rcases set_get h1 with ⟨_, e, _⟩ | ⟨_, g1⟩
    · cases e
    · rcases set_get h2 with ⟨_, e, _⟩ | ⟨_, g2⟩
      · cases e
      · exact r.inj j l w x b g1 g2 h3 h4
end
end DL
set_option maxHeartbeats 1000000
namespace DL
open PySem PySem.Spec PyProof.Rows L2
def sNx : Lo → Fl := fun ev => .nx ev
def sSeq (a b : Lo → Fl) : Lo → Fl := fun ev => match a ev with
  | .nx e => b e
  | r => r
def sIf (c : Lo → R Bool) (a b : Lo → Fl) : Lo → Fl := fun ev => (c ev).fl ev fun z => if z then a ev else b ev
def sEx (d : Lo → R T) : Lo → Fl := fun ev => (d ev).fl ev fun _ => .nx ev
def sSet (i : Nat) (d : Lo → R T) : Lo → Fl := fun ev => (d ev).fl ev fun t => .nx (ev.set i (some (t, false)))
def sSetF (i : Nat) (d : Lo → R T) : Lo → Fl := fun ev => (d ev).fl ev fun t => .nx (ev.set i (some (t, isMut t)))
def sRet (d : Lo → R T) : Lo → Fl := fun ev => (d ev).fl ev fun t => .rt t
def sRetO (f : Bool) (i : Nat) : Lo → Fl := fun ev => match ev[i]? with
  | some (some (t, true)) => .rt t
  | some (some (t, false)) => if f && isMut t then .bad else .rt t
  | _ => .bad
def sRel (i : Nat) (a : Lo → Fl) : Lo → Fl := fun ev => match ev[i]? with
  | some (some (t, true)) => a (ev.set i (some (t, false)))
  | _ => a ev
def sApp (i : Nat) (d : Lo → R T) : Lo → Fl := fun ev => match ev[i]? with
  | some (some (.lst ts, true)) => (d ev).fl ev fun u => if ts.length < sizeLine then .nx (ev.set i (some (.lst (ts ++ [u]), true))) else .bad
  | _ => .bad
def sSetIx (i : Nat) (dk d : Lo → R T) : Lo → Fl := fun ev => (d ev).fl ev fun u => match ev[i]? with
  | some (some (.lst ts, true)) => (dk ev).fl ev fun k => match k with
    | .int j => match ixN ts.length j with
      | some n => .nx (ev.set i (some (.lst (ts.set n u), true)))
      | none => .bad
    | _ => .bad
  | _ => .bad
def gNm (i : Nat) : T → Lo → Option Lo := fun t ev => some (ev.set i (some (t, false)))
def gNil : List T → Lo → Option Lo := fun ts ev => match ts with
  | [] => some ev
  | _ => none
def gCons (g : T → Lo → Option Lo) (gs : List T → Lo → Option Lo) : List T → Lo → Option Lo := fun ts ev => match ts with
  | t :: ts => (g t ev).bind (gs ts)
  | [] => none
def gTp (n : Nat) (gs : List T → Lo → Option Lo) : T → Lo → Option Lo := fun t ev => match t with
  | .tup ts => if ts.length = n then gs ts ev else none
  | .lst ts => if ts.length = n then gs ts ev else none
  | _ => none
def sAsg (g : T → Lo → Option Lo) (d : Lo → R T) : Lo → Fl := fun ev => (d ev).fl ev fun t => match g t ev with
  | some e => .nx e
  | none => .bad
def forL (g : T → Lo → Option Lo) (body : Lo → Fl) : List T → Lo → Fl
  | [], ev => .nx ev
  | t :: ts, ev => match g t ev with
    | none => .bad
    | some e => match body e with
      | .nx e' => forL g body ts e'
      | .ct e' => forL g body ts e'
      | .bk e' => .nx e'
      | r => r
def sFor (di : Lo → R (List T)) (g : T → Lo → Option Lo) (body : Lo → Fl) : Lo → Fl := fun ev => (di ev).fl ev fun ts => forL g body ts ev
def fin : Fl → R T
  | .nx _ => .ok .non
  | .rt t => .ok t
  | .ex c fs _ => .ex c fs
  | _ => .bad
def start' (n : Nat) (ts : List T) : Lo := ts.map (fun t => some (t, false)) ++ List.replicate (n - ts.length) none
def dFn (n : Nat) (d : Lo → Fl) : List T → R T := fun ts => fin (d (start' n ts))
section
variable {X : Cx} {e a b : Expr} {stm : Stmt} {rest sa sb : List Stmt} {S S0 : Addr → Prop} {H0 : Hp} {W : WX} {d da db dk : Lo → R T} {c : Lo → R Bool} {d1 d2 : Lo → Fl} {pos : Pos} {m ma mb : Md} {k : Nat}
theorem ps_imp {t t' : TS} (h : PS X stm t) (f : ∀ D σ H, t' D σ H → t D σ H) : PS X stm t' := ⟨fun pins s σ H D I z => h.run pins s σ H D I (f D σ H z)⟩
theorem pss_imp {t t' : TS} (h : PSs X rest t) (f : ∀ D σ H, t' D σ H → t D σ H) : PSs X rest t' := ⟨fun pins s σ H D I z => h.run pins s σ H D I (f D σ H z)⟩
theorem ss_nil : PSs X [] (tS m X.K S0 H0 W sNx) := pss_imp pss_nil fun D σ H ⟨ev, ps, r, z⟩ => z σ H r
theorem ss_cons (h1 : PS X stm (tS m X.K S0 H0 W d1)) (h2 : PSs X rest (tS m X.K S0 H0 W d2)) : PSs X (stm :: rest) (tS m X.K S0 H0 W (sSeq d1 d2)) := pss_imp (pss_cons h1 h2) fun D σ H ⟨ev, ps, r, z⟩ => by
  refine ⟨ev, ps, r, ?_⟩
  unfold sSeq at z
  cases e1 : d1 ev with
  | nx e => rw [e1] at z; exact fun σ' H' r' => ⟨e, ps, r', z⟩
  | _ => rw [e1] at z; exact z
theorem ss_one (h1 : PS X stm (tS m X.K S0 H0 W d1)) : PSs X [stm] (tS m X.K S0 H0 W d1) := pss_one h1
theorem rel {i : Nat} (h : PS X stm (tS m X.K S0 H0 W d1)) : PS X stm (tS m X.K S0 H0 W (sRel i d1)) := ps_imp h fun D σ H ⟨ev, ps, r, z⟩ => by
  unfold sRel at z
  split at z
  · rename_i t e
    exact ⟨_, ps, r.release e, z⟩
  · exact ⟨ev, ps, r, z⟩
theorem s_if {ce : Expr} (hc : PT X ce (tB X.K S0 H0 W c)) (ha : PSs X sa (tS m X.K S0 H0 W d1)) (hb : PSs X sb (tS m X.K S0 H0 W d2)) : PS X (.If ce sa sb pos) (tS m X.K S0 H0 W (sIf c d1 d2)) := ps_imp (ps_if hc ha hb) fun D σ H ⟨ev, ps, r, z⟩ => by
  refine ⟨ev, ps, r, R.on_mono (R.fl_on z) (fun b q H' s => ?_) fun c fs q cls dd H' s x => q cls dd σ H' (r.up s) x⟩
  cases b with
  | true => exact ⟨ev, ps, r.up s, q⟩
  | false => exact ⟨ev, ps, r.up s, q⟩
theorem s_expr (he : PE X e (tG ma X.K S0 H0 W d)) (hs : swapsWith e none pos.line X.env = pure false := by rfl) : PS X (.Expr e pos) (tS m X.K S0 H0 W (sEx d)) := ps_imp (ps_expr he hs) fun D σ H ⟨ev, ps, r, z⟩ =>
  ⟨ev, ps, r, R.on_mono (R.fl_on z) (fun t q v H' s p => q σ H' (r.up s)) fun c fs q cls dd H' s x => q cls dd σ H' (r.up s) x⟩
theorem imSet {i : Nat} : ∀ D σ H, tS m X.K S0 H0 W (sSet i d) D σ H → tAsg (tG .s X.K S0 H0 W d) (gName i) D σ H := fun D σ H ⟨ev, ps, r, z⟩ =>
  ⟨ev, ps, r, R.on_mono (R.fl_on z) (fun t q v H' s p => q _ H' (r.store s (.inl ⟨rfl, p⟩))) fun c fs q cls dd H' s x => q cls dd σ H' (r.up s) x⟩
theorem imSetF {i : Nat} : ∀ D σ H, tS m X.K S0 H0 W (sSetF i d) D σ H → tAsg (tG .f X.K S0 H0 W d) (gName i) D σ H := fun D σ H ⟨ev, ps, r, z⟩ =>
  ⟨ev, ps, r, R.on_mono (R.fl_on z) (fun t q v H' s p => q _ H' (r.store s (by
    rcases p with ⟨h1, h2⟩ | ⟨a, h1, h2, h3⟩
    · exact .inl ⟨h1, h2⟩
    · refine .inr ⟨?_, a, h1, h2, h3⟩
      cases h3 <;> rfl))) fun c fs q cls dd H' s x => q cls dd σ H' (r.up s) x⟩
theorem s_set (cn : Cn X W k) (i : Nat) {x : Str} {p' : Pos} (he : PE X e (tG .s X.K S0 H0 W d)) (hi : X.N[i]? = some x := by rfl) (hx : Loc X.env.scope x := by first | exact Or.inl rfl | exact Or.inr rfl) (hs : swapsWith e (some (.Name x p')) pos.line X.env = pure false := by rfl)
    (hf : X.fn x = true ∨ X.env.scope.names.lookup x = some .local := by first | exact .inl rfl | exact .inr rfl) : PS X (.Assign [.Name x p'] e pos) (tS m X.K S0 H0 W (sSet i d)) := ps_imp (ps_set cn.nd hi hx he hs hf) imSet
theorem s_setF (cn : Cn X W k) (i : Nat) {x : Str} {p' : Pos} (he : PE X e (tG .f X.K S0 H0 W d)) (hi : X.N[i]? = some x := by rfl) (hx : Loc X.env.scope x := by first | exact Or.inl rfl | exact Or.inr rfl) (hs : swapsWith e (some (.Name x p')) pos.line X.env = pure false := by rfl)
    (hf : X.fn x = true ∨ X.env.scope.names.lookup x = some .local := by first | exact .inl rfl | exact .inr rfl) : PS X (.Assign [.Name x p'] e pos) (tS m X.K S0 H0 W (sSetF i d)) := ps_imp (ps_set cn.nd hi hx he hs hf) imSetF
theorem Rp.less {ps : List (V × T)} {σ : L2.St} {H : Hp} {ev : Lo} {K : PySem.W.Frag} (r : Rp K S0 H0 ps σ H ev) {H' : Hp} {v : V} {t : T} (hm : m ≠ .w) (p : Pm K m (Sx S0 σ ev) H H' v t) : Pm K m S0 H0 H' v t := by
  cases m with
  | w => exact absurd rfl hm
  | s => exact IsT.mv (mv_less fun a z => .inl z) p
  | f => exact p.elim (fun z => .inl ⟨z.1, z.2.mv (mv_less fun a z => .inl z)⟩) fun ⟨a, e, n, c⟩ => .inr ⟨a, e, r.same.free n, c.mv (mv_less fun b z => z.elim (fun y => .inl (.inl y)) .inr) rfl⟩
theorem s_ret (hm : m ≠ .w) (he : PE X e (tG m X.K S0 H0 W d)) : PS X (.Return (some e) pos) (tS m X.K S0 H0 W (sRet d)) := ps_imp (ps_ret he) fun D σ H ⟨ev, ps, r, z⟩ =>
  ⟨ev, ps, r, R.on_mono (R.fl_on z) (fun t q v H' s p => q v H' (r.same.trans s) (r.less hm p)) fun c fs q cls dd H' s x => q cls dd σ H' (r.up s) x⟩
theorem s_retS (he : PE X e (tG .s X.K S0 H0 W d)) : PS X (.Return (some e) pos) (tS .s X.K S0 H0 W (sRet d)) := s_ret (fun z => nomatch z) he
theorem s_retF (he : PE X e (tG .f X.K S0 H0 W d)) : PS X (.Return (some e) pos) (tS .f X.K S0 H0 W (sRet d)) := s_ret (fun z => nomatch z) he
theorem imRetO {i : Nat} {f : Bool} (hf : f = match m with | .s => false | _ => true) (hm : m ≠ .w) : ∀ D σ H, tS m X.K S0 H0 W (sRetO f i) D σ H → tRet (tVar i) D σ H := fun D σ H ⟨ev, ps, r, z⟩ => by
  unfold sRetO at z
  split at z
  · rename_i t e
    obtain ⟨a, h1, h2, h3, c⟩ := r.own i t e
    refine ⟨_, h1, z _ H r.same ?_⟩
    cases m with
    | w => exact absurd rfl hm
    | s => exact OwC.isT h2 (c.mv (mv_less fun b z => .inl z) rfl)
    | f => exact .inr ⟨a, rfl, h3, c.mv (mv_less fun b z => z.elim .inl fun e2 => .inr ⟨i, t, e, by rw [e2]; exact h1⟩) rfl⟩
  · rename_i t e
    obtain ⟨v, h1, h2⟩ := r.frz i t e
    refine ⟨v, h1, ?_⟩
    have h3 : IsT X.K S0 H v t := h2.mv (mv_less fun a z => .inl z)
    cases m with
    | w => exact absurd rfl hm
    | s => subst hf; exact z v H r.same h3
    | f =>
      subst hf
      cases e2 : isMut t with
      | true => rw [e2] at z; exact z.elim
      | false => rw [e2] at z; exact z v H r.same (.inl ⟨e2, h3⟩)
  · exact z.elim
theorem s_retOF (i : Nat) {x : Str} {p' : Pos} (hN : X.N[i]? = some x := by rfl) (hv : Vis X.env.scope x := by first | exact Or.inl rfl | exact Or.inr (Or.inl rfl) | exact Or.inr (Or.inr rfl)) (hd : (x == ("__debug__" : Str)) = false := by decide)
    (hcd : (x == ("__classdict__" : Str)) = false := by decide) : PS X (.Return (some (.Name x p')) pos) (tS .f X.K S0 H0 W (sRetO true i)) := ps_imp (ps_ret (pe_var hN hv hd hcd)) (imRetO rfl (fun z => nomatch z))
theorem s_append (i : Nat) {x : Str} {p1 p2 p3 : Pos} (he : PE X e (tG .s X.K S0 H0 W d)) (hN : X.N[i]? = some x := by rfl) (hv : Vis X.env.scope x := by first | exact Or.inl rfl | exact Or.inr (Or.inl rfl) | exact Or.inr (Or.inr rfl)) (hd : (x == ("__debug__" : Str)) = false := by decide)
    (hcd : (x == ("__classdict__" : Str)) = false := by decide) (hse : starEach [e] X.env = (false, eval e X.env) :: starEach [] X.env := by rfl)
    (hs : swapsWith (.Call (.Attribute (.Name x p1) "append" p2) [e] [] p3) none pos.line X.env = pure false := by rfl)
    (hpe : ∀ {tv : TE} {tl : TA}, PE X (.Name x p1) tv → PA X [e] tl → PE X (.Call (.Attribute (.Name x p1) "append" p2) [e] [] p3) (tBM X.K "list" rAppend tv tl) := by
      intro _ _ h1 h2; exact pe_bm PySem.F.plainAttrs_list PySem.F.slot_list_append PySem.F.type_list_append mt_append h1 h2) :
    PS X (.Expr (.Call (.Attribute (.Name x p1) "append" p2) [e] [] p3) pos) (tS m X.K S0 H0 W (sApp i d)) := ps_imp (ps_expr (hpe (pe_var hN hv hd hcd) (pa_cons he pa_nil hse)) hs) fun D σ H ⟨ev, ps, r, z⟩ => by
  unfold sApp at z
  split at z
  · rename_i ts e0
    obtain ⟨a, h1, h2, h3, c⟩ := r.own i _ e0
    refine ⟨.ref a, h1, ?_, ?_⟩
    · cases c with
      | lst h q => exact .inl ⟨rfl, _, SqL.of h⟩
    · refine ⟨ev, ps, r, R.on_mono (R.fl_on z) (fun u q v H1 s1 p1 => ?_) fun c fs q cls dd H' s x => q cls dd σ H' (r.up s) x⟩
      have r1 := r.up s1
      obtain ⟨a', h1', _, _, c1⟩ := r1.own i _ e0
      rw [h1] at h1'
      cases h1'
      by_cases hz : ts.length < sizeLine
      · rw [if_pos hz] at q
        cases c1 with
        | @lst xs _ h rs =>
          refine ⟨a, xs, v, rfl, rfl, h, by rw [rs.len]; exact hz, q _ _ (r1.write e0 h1 ?_)⟩
          have n : Sx S0 σ ev a := .inr ⟨i, _, e0, h1⟩
          have mv : Mv (Sx S0 σ ev) (Sx S0 σ ev) H1 (upd H1 a (.lst (xs ++ [v]))) := fun b w g nb => ⟨by rw [upd_ne (fun y => nb (by rw [y]; exact n))]; exact g, nb⟩
          exact .lst upd_same ((rs.mv mv).app (.cons (IsT.mv mv p1) .nil))
      · rw [if_neg hz] at q
        exact q.elim
  · exact z.elim
theorem s_setIx (i : Nat) {x : Str} {ke : Expr} {p1 p2 : Pos} (he : PE X e (tG .s X.K S0 H0 W d)) (hk : PE X ke (tG .w X.K S0 H0 W dk)) (hN : X.N[i]? = some x := by rfl) (hv : Vis X.env.scope x := by first | exact Or.inl rfl | exact Or.inr (Or.inl rfl) | exact Or.inr (Or.inr rfl)) (hd : (x == ("__debug__" : Str)) = false := by decide)
    (hcd : (x == ("__classdict__" : Str)) = false := by decide)
    (hpg : ∀ {tv tk : TE}, PE X (.Name x p1) tv → PE X ke tk → PG X (.Subscript (.Name x p1) ke p2) (gSub tv tk rSetL) := by intro _ _ h1 h2; exact pg_sub h1 h2 set_list)
    (hs : swapsWithSole [.Subscript (.Name x p1) ke p2] e pos.line X.env = pure false := by rfl) (hw : swappedStores [.Subscript (.Name x p1) ke p2] e X.env = pure none := by rfl)
    (h1 : (assignEach [.Subscript (.Name x p1) ke p2] X.env).map (·.2) = [assign (.Subscript (.Name x p1) ke p2) X.env] := by rfl) :
    PS X (.Assign [.Subscript (.Name x p1) ke p2] e pos) (tS m X.K S0 H0 W (sSetIx i dk d)) := ps_imp (ps_asg he (hpg (pe_var hN hv hd hcd) hk) hs hw h1) fun D σ H ⟨ev, ps, r, z⟩ => by
  refine ⟨ev, ps, r, R.on_mono (R.fl_on z) (fun u q v H1 s1 p1 => ?_) fun c fs q cls dd H' s x => q cls dd σ H' (r.up s) x⟩
  split at q
  · rename_i ts e0
    obtain ⟨a, g1, _, _, _⟩ := r.own i _ e0
    refine ⟨.ref a, g1, ev, ps, r.up s1, R.on_mono (R.fl_on q) (fun kt q2 kv H2 s2 p2 => ?_) fun c fs q cls dd H' s x => q cls dd σ H' (r.up (s1.trans s)) x⟩
    have r2 := r.up (s1.trans s2)
    obtain ⟨a', g1', _, _, c1⟩ := r2.own i _ e0
    rw [g1] at g1'
    cases g1'
    cases kt with
    | int j =>
      cases ej : ixN ts.length j with
      | none => have q2' := q2; simp only [ej] at q2'; exact q2'.elim
      | some n =>
        have q2' := q2
        simp only [ej] at q2'
        cases c1 with
        | @lst xs _ h rs =>
          refine ⟨a, xs, j, n, rfl, p2.int, h, by rw [rs.len]; exact ej, q2' _ _ (r2.write e0 g1 ?_)⟩
          have nn : Sx S0 σ ev a := .inr ⟨i, _, e0, g1⟩
          have mv : Mv (Sx S0 σ ev) (Sx S0 σ ev) H2 (upd H2 a (.lst (xs.set n v))) := fun b w g nb => ⟨by rw [upd_ne (fun y => nb (by rw [y]; exact nn))]; exact g, nb⟩
          exact .lst upd_same (IsTs.set (IsT.mv mv (IsT.mv (mv_same s2) p1)) n (rs.mv mv))
    | _ => exact q2.elim
  · exact q.elim
def tTg (vs : List Nat) (K : PySem.W.Frag) (S0 : Addr → Prop) (H0 : Hp) (g : T → Lo → Option Lo) : TG := fun v σ H Q => ∃ ev ps t, Rp K S0 H0 ps σ H ev ∧ IsT K (Sx S0 σ ev) H v t ∧ ∃ e, g t ev = some e ∧ ∀ σ', wipe σ' vs = wipe σ vs → Rp K S0 H0 ps σ' H e → Q σ' H
def tTgs (vs : List Nat) (K : PySem.W.Frag) (S0 : Addr → Prop) (H0 : Hp) (g : List T → Lo → Option Lo) : TGs := fun xs σ H Q => ∃ ev ps ts, Rp K S0 H0 ps σ H ev ∧ IsTs K (Sx S0 σ ev) H xs ts ∧ ∃ e, g ts ev = some e ∧ ∀ σ', wipe σ' vs = wipe σ vs → Rp K S0 H0 ps σ' H e → Q σ' H
theorem wipe_in {σ : L2.St} {i : Nat} {x : Option V} : ∀ {vs : List Nat}, i ∈ vs → wipe (σ.set i x) vs = wipe σ vs := fun {vs} => by
  have key : ∀ vs : List Nat, wipe (σ.set i x) vs = if i ∈ vs then wipe σ vs else (wipe σ vs).set i x := fun vs => by
    induction vs with
    | nil => simp [wipe]
    | cons v vs ih =>
      unfold wipe
      rw [ih]
      by_cases hv : v = i
      · subst hv
        by_cases hm : v ∈ vs <;> simp [hm, List.set_set]
      · have hv' : ¬ i = v := fun z => hv z.symm
        by_cases hm : i ∈ vs
        · simp [hm]
        · simp [hm, hv', List.set_comm _ _ hv]
  intro h
  rw [key vs, if_pos h]
theorem pg_imp {t t' : TG} (h : PG X e t) (f : ∀ v σ H Q, t' v σ H Q → t v σ H Q) : PG X e t' := ⟨fun pins s σ H v u Q I r z => h.run pins s σ H v u Q I r (f v σ H Q z)⟩
variable {vs : List Nat} {g : T → Lo → Option Lo} {gs : List T → Lo → Option Lo} {es : List Expr}
theorem g_nm (cn : X.N.Nodup) (i : Nat) {x : Str} (hi : X.N[i]? = some x := by rfl) (hx : Loc X.env.scope x := by first | exact Or.inl rfl | exact Or.inr rfl) (hf : X.fn x = true ∨ X.env.scope.names.lookup x = some .local := by first | exact .inl rfl | exact .inr rfl) (hv : i ∈ vs := by decide) :
    PG X (.Name x pos) (tTg vs X.K S0 H0 (gNm i)) := pg_imp (pg_name cn hi hx hf) fun v σ H Q ⟨ev, ps, t, r, p, e, he, z⟩ => by
  cases he
  exact z _ (wipe_in hv) (r.store (Same.refl _) (.inl ⟨rfl, p⟩))
theorem g_nil : PGs X [] (tTgs vs X.K S0 H0 gNil) := ⟨fun pins s σ H xs us Q I r ⟨ev, ps, ts, r0, p, e, he, z⟩ => pgs_nil.run pins s σ H xs us Q I r (by
  unfold gNil at he
  split at he
  · cases he; cases p; exact ⟨rfl, z σ rfl r0⟩
  · cases he)⟩
theorem g_cons (h1 : PG X e (tTg vs X.K S0 H0 g)) (h2 : PGs X es (tTgs vs X.K S0 H0 gs)) (hs : (assignEach (e :: es) X.env).map (·.2) = assign e X.env :: (assignEach es X.env).map (·.2) := by rfl) : PGs X (e :: es) (tTgs vs X.K S0 H0 (gCons g gs)) :=
  ⟨fun pins s σ H xs us Q I r ⟨ev, ps, ts, r0, p, e0, he, z⟩ => (pgs_cons h1 h2 hs).run pins s σ H xs us Q I r (by
    unfold gCons at he
    split at he
    · rename_i t ts
      cases p with
      | @cons v _ xs' _ p1 p2 =>
        obtain ⟨e1, he1, he2⟩ := Option.bind_eq_some_iff.mp he
        -- the rest is pinned while the first one is stored
        have zip : ∀ {S : Addr → Prop} {xs : List V} {ts : List T}, IsTs X.K S H xs ts → ∀ q ∈ xs.zip ts, IsT X.K S H q.1 q.2 := fun {S xs ts} h => by
          induction ts generalizing xs with
          | nil => cases h; intro q hq; simp at hq
          | cons t ts ih =>
            cases h with
            | cons a b =>
              intro q hq
              rcases List.mem_cons.mp (by simpa using hq) with e | hq
              · rw [e]; exact a
              · exact ih b q hq
        have unzip : ∀ {S : Addr → Prop} {xs : List V} {ts : List T}, xs.length = ts.length → (∀ q ∈ xs.zip ts, IsT X.K S H q.1 q.2) → IsTs X.K S H xs ts := fun {S xs ts} hl h => by
          induction ts generalizing xs with
          | nil => cases xs with | nil => exact .nil | cons _ _ => simp at hl
          | cons t ts ih =>
            cases xs with
            | nil => simp at hl
            | cons x xs => exact .cons (h (x, t) (by simp)) (ih (by simpa using hl) fun q hq => h q (by simp [hq]))
        have len := p2.len
        refine ⟨v, _, rfl, ev, xs'.zip ts ++ ps, t, r0.pins fun q hq => (List.mem_append.mp hq).elim (zip p2 q) (r0.pin q), p1, e1, he1, fun σ1 hw1 r1 => ?_⟩
        refine ⟨e1, ps, ts, r1.pins fun q hq => r1.pin q (List.mem_append_right _ hq), unzip len fun q hq => r1.pin q (List.mem_append_left _ hq), e0, he2, fun σ2 hw2 r2 => z σ2 (hw2.trans hw1) r2⟩
    · cases he)⟩
theorem g_tp {kk n : Nat} (hc : X.calm = true) (h : PGs X es (tTgs vs X.K S0 H0 gs)) (hn : (assignEach es X.env).length = n := by rfl) (hst : (assignEach es X.env).findIdx? (·.1) = none := by rfl) : PG X (.Tuple es kk pos) (tTg vs X.K S0 H0 (gTp n gs)) := by
  have two : PG X (.Tuple es kk pos) (fun v σ H Q => gTup X.K n (tTgs vs X.K S0 H0 gs) v σ H Q ∨ gLst X.K n (tTgs vs X.K S0 H0 gs) v σ H Q) := ⟨fun pins s σ H v u Q I r z => z.elim
    (fun z => (pg_tup hc h hn hst).run pins s σ H v u Q I r z) fun z => (pg_lst hc h hn hst).run pins s σ H v u Q I r z⟩
  refine pg_imp two fun v σ H Q ⟨ev, ps, t, r, p, e, he, z⟩ => ?_
  have key : ∀ {us : List T}, (if us.length = n then gs us ev else none) = some e → us.length = n ∧ gs us ev = some e := fun {us} q => by
    by_cases q1 : us.length = n
    · rw [if_pos q1] at q; exact ⟨q1, q⟩
    · rw [if_neg q1] at q; cases q
  cases t with
  | tup us =>
    obtain ⟨hl, he⟩ := key he
    cases p with
    | tup h rs => exact .inl ⟨_, _, rfl, h.sq, by rw [rs.len]; exact hl, ev, ps, _, r, rs, e, he, z⟩
  | lst us =>
    obtain ⟨hl, he⟩ := key he
    cases p with
    | lst nn h rs => exact .inr ⟨_, _, rfl, SqL.of h, by rw [rs.len]; exact hl, ev, ps, _, r, rs, e, he, z⟩
  | _ => cases he
theorem s_asg {tg : Expr} (he : PE X e (tG .s X.K S0 H0 W d)) (hg : PG X tg (tTg vs X.K S0 H0 g)) (hs : swapsWithSole [tg] e pos.line X.env = pure false := by rfl) (hw : swappedStores [tg] e X.env = pure none := by rfl) (h1 : (assignEach [tg] X.env).map (·.2) = [assign tg X.env] := by rfl) :
    PS X (.Assign [tg] e pos) (tS m X.K S0 H0 W (sAsg g d)) := ps_imp (ps_asg he hg hs hw h1) fun D σ H ⟨ev, ps, r, z⟩ => by
  refine ⟨ev, ps, r, R.on_mono (R.fl_on z) (fun t q v H' s p => ?_) fun c fs q cls dd H' s x => q cls dd σ H' (r.up s) x⟩
  cases e1 : g t ev with
  | none => rw [e1] at q; exact q.elim
  | some e2 => rw [e1] at q; exact ⟨ev, ps, t, r.up s, p, e2, e1, fun σ' _ r' => q σ' H' r'⟩
end
end DL
set_option maxHeartbeats 1000000
namespace DL
open PySem PySem.Spec PyProof.Rows L2
structure ItOk (K : PySem.W.Frag) (J : It) (pn : List (V × T)) (ts : List T) : Prop where
  go : ∀ (S : Addr → Prop) (H : Hp) (i : Nat), (∀ p ∈ pn, Pm K .w S H H p.1 p.2) → i < ts.length → J.go i H
  yld : ∀ (S : Addr → Prop) (H : Hp) (i : Nat) (x : V) (H' : Hp), (∀ p ∈ pn, Pm K .w S H H p.1 p.2) → (∀ a, S a → Mu H a) → i < ts.length → J.yld i H x H' → ∃ t, ts[i]? = some t ∧ Same H H' ∧ IsT K S H' x t
  stop : ∀ (S : Addr → Prop) (H : Hp) (i : Nat), (∀ p ∈ pn, Pm K .w S H H p.1 p.2) → ts.length ≤ i → J.stop i H
def tI (m : Md) (K : PySem.W.Frag) (S0 : Addr → Prop) (H0 : Hp) (W : WX) (d : Lo → R (List T)) : TI := fun σ H Rr => ∃ ev ps, Rp K S0 H0 ps σ H ev ∧
  (d ev).on (fun ts => ∀ J H' pn, Same H H' → (∀ p ∈ pn, Pm K m (Sx S0 σ ev) H H' p.1 p.2) → ItOk K J pn ts → Rr J H') (fun c fs => ∀ cls dd H', Same H H' → IsX K (Sx S0 σ ev) H' cls dd c fs → W cls dd σ H')
def itemsT : T → Option (List T)
  | .lst xs => some xs
  | .tup xs => some xs
  | .scr ns => some (ns.map T.int)
  | .str z => some (z.cps.toList.map fun c => T.str ⟨#[c]⟩)
  | _ => none
def dIter (d : Lo → R T) : Lo → R (List T) := fun ev => (d ev).bind fun t => ofO (itemsT t)
def dRng1 (d : Lo → R T) : Lo → R (List T) := fun ev => (d ev).bind fun t => match t with
  | .int n => if -(2 ^ 62) ≤ n ∧ n < 2 ^ 62 then .ok ((List.range n.toNat).map fun (i : Nat) => T.int (i : Int)) else .bad
  | _ => .bad
def dRng2 (d : Lo → R (List T)) : Lo → R (List T) := fun ev => (d ev).bind fun t => match t with
  | [.int a, .int b] => if -(2 ^ 62) ≤ a ∧ a < 2 ^ 62 ∧ -(2 ^ 62) ≤ b ∧ b < 2 ^ 62 then .ok ((List.range (b - a).toNat).map fun (i : Nat) => T.int (a + (i : Int))) else .bad
  | _ => .bad
def enumL (ts : List T) : List T := (ts.zipIdx).map fun p => T.tup [.int p.2, p.1]
def dEnum (d : Lo → R T) : Lo → R (List T) := fun ev => (d ev).bind fun t => match t with
  | .lst xs => .ok (enumL xs)
  | .scr ns => .ok (enumL (ns.map T.int))
  | _ => .bad
section
variable {X : Cx} {e a b tg : Expr} {S S0 : Addr → Prop} {H0 : Hp} {W : WX} {d da db : Lo → R T} {pos : Pos} {m ma mb : Md} {k : Nat} {ds : Lo → R (List T)} {es : List Expr}
theorem pi_imp {wi wi' : TI} (h : PI X tg e wi) (f : ∀ σ H Q, wi' σ H Q → wi σ H Q) : PI X tg e wi' := ⟨fun pins s σ H Q I z => h.run pins s σ H Q I (f σ H Q z)⟩
theorem itl_ok {K : PySem.W.Frag} {a : Addr} {ts : List T} (h : ∀ (S : Addr → Prop) (H : Hp), Pm K .w S H H (.ref a) (.lst ts) → ∃ xs, H a = some (.lst xs) ∧ IsTs K S H xs ts) : ItOk K (Itl K a) [(.ref a, .lst ts)] ts where
  go := fun S H i hp hi => by
    obtain ⟨xs, hx, r⟩ := h S H (hp _ List.mem_cons_self)
    obtain ⟨v, h1, _⟩ := r.get (i := i) (List.getElem?_eq_getElem hi)
    exact ⟨xs, v, SqL.of hx, h1⟩
  yld := fun S H i x H' hp hs hi y => by
    obtain ⟨xs, hx, r⟩ := h S H (hp _ List.mem_cons_self)
    obtain ⟨e, y⟩ := y
    subst e
    obtain ⟨t, h1, h2⟩ := r.getv (y xs (SqL.of hx))
    exact ⟨t, h1, Same.refl _, h2⟩
  stop := fun S H i hp hi => by
    obtain ⟨xs, hx, r⟩ := h S H (hp _ List.mem_cons_self)
    exact ⟨xs, SqL.of hx, by rw [r.len]; exact hi⟩
theorem itscr_ok {K : PySem.W.Frag} {a : Addr} {ns : List Int} : ItOk K (Itl K a) [(.ref a, .scr ns)] (ns.map T.int) where
  go := fun S H i hp hi => by
    obtain ⟨b, e, h⟩ := (hp (V.ref a, T.scr ns) List.mem_cons_self).scr
    cases e
    have hi' : i < ns.length := by simpa using hi
    exact ⟨_, .int ns[i], h.sq, by simp [hi']⟩
  yld := fun S H i x H' hp hs hi y => by
    obtain ⟨b, e, h⟩ := (hp (V.ref a, T.scr ns) List.mem_cons_self).scr
    cases e
    obtain ⟨e, y⟩ := y
    subst e
    have hi' : i < ns.length := by simpa using hi
    have q := y _ h.sq
    have q2 : x = .int ns[i] := by simp [hi'] at q; exact q.symm
    subst q2
    exact ⟨.int ns[i], by simp [hi'], Same.refl _, .int _⟩
  stop := fun S H i hp hi => by
    obtain ⟨b, e, h⟩ := (hp (V.ref a, T.scr ns) List.mem_cons_self).scr
    cases e
    exact ⟨_, h.sq, by simpa using hi⟩
theorem itt_ok {K : PySem.W.Frag} {a : Addr} {ts : List T} : ItOk K (Itt K a) [(.ref a, .tup ts)] ts where
  go := fun S H i hp hi => by
    obtain ⟨b, xs, e, h, r⟩ := (hp (V.ref a, T.tup ts) List.mem_cons_self).tup
    cases e
    obtain ⟨v, h1, _⟩ := r.get (i := i) (List.getElem?_eq_getElem hi)
    exact ⟨xs, v, h.sq, h1⟩
  yld := fun S H i x H' hp hs hi y => by
    obtain ⟨b, xs, e, h, r⟩ := (hp (V.ref a, T.tup ts) List.mem_cons_self).tup
    cases e
    obtain ⟨e, y⟩ := y
    subst e
    obtain ⟨t, h1, h2⟩ := r.getv (y xs h.sq)
    exact ⟨t, h1, Same.refl _, h2⟩
  stop := fun S H i hp hi => by
    obtain ⟨b, xs, e, h, r⟩ := (hp (V.ref a, T.tup ts) List.mem_cons_self).tup
    cases e
    exact ⟨xs, h.sq, by rw [r.len]; exact hi⟩
theorem its_ok {K : PySem.W.Frag} {z : Str} : ItOk K (Its z) [] (z.cps.toList.map fun c => T.str ⟨#[c]⟩) where
  go := fun S H i hp hi => by
    have hi' : i < z.cps.size := by simpa using hi
    exact hi'
  yld := fun S H i x H' hp hs hi y => by
    have hi' : i < z.cps.size := by simpa using hi
    obtain ⟨e, c, h1, h2⟩ := y
    subst e h2
    exact ⟨.str ⟨#[c]⟩, by simp [h1], Same.refl _, .str _⟩
  stop := fun S H i hp hi => by
    have hi' : z.cps.size ≤ i := by simpa using hi
    exact hi'
theorem i_seq (hm : m ≠ .f) (he : PE X e (tG m X.K S0 H0 W d)) : PI X tg e (tI m X.K S0 H0 W (dIter d)) := by
  have h3 : PI X tg e (fun σ H R => iList X.K (tG m X.K S0 H0 W d) σ H R ∨ iTup X.K (tG m X.K S0 H0 W d) σ H R ∨ iStr (tG m X.K S0 H0 W d) σ H R) := ⟨fun pins s σ H R I z => by
    rcases z with z | z | z
    · exact (pi_list he).run pins s σ H R I z
    · exact (pi_tup he).run pins s σ H R I z
    · exact (pi_str he).run pins s σ H R I z⟩
  refine pi_imp h3 fun σ H Rr ⟨ev, ps, r, z⟩ => ?_
  have z2 := R.on_bind z
  cases e1 : d ev with
  | bad => rw [e1] at z2; exact z2.elim
  | ex c fs => rw [e1] at z2; exact .inl ⟨ev, ps, r, by rw [e1]; exact z2⟩
  | ok t =>
    rw [e1] at z2
    cases t with
    | lst ts =>
      refine .inl ⟨ev, ps, r, ?_⟩
      rw [e1]
      intro v H' s p
      obtain ⟨a, xs, rfl, h, rs⟩ := p.lst
      exact ⟨a, rfl, ⟨xs, SqL.of h⟩, z2 _ H' [(.ref a, .lst ts)] s (fun q hq => by rw [List.mem_singleton.mp hq]; exact p) (itl_ok fun S H2 q => by
        obtain ⟨b, ys, eb, hb, rb⟩ := q.lst
        cases eb
        exact ⟨ys, hb, rb⟩)⟩
    | scr ns =>
      refine .inl ⟨ev, ps, r, ?_⟩
      rw [e1]
      intro v H' s p
      obtain ⟨a, rfl, h⟩ := p.scr
      exact ⟨a, rfl, ⟨_, h.sq⟩, z2 _ H' [(.ref a, .scr ns)] s (fun q hq => by rw [List.mem_singleton.mp hq]; exact p) itscr_ok⟩
    | tup ts =>
      refine .inr (.inl ⟨ev, ps, r, ?_⟩)
      rw [e1]
      intro v H' s p
      obtain ⟨a, xs, rfl, h, rs⟩ := p.tup
      exact ⟨a, rfl, ⟨_, h.sq⟩, z2 _ H' [(.ref a, .tup ts)] s (fun q hq => by rw [List.mem_singleton.mp hq]; exact p) itt_ok⟩
    | str x =>
      refine .inr (.inr ⟨ev, ps, r, ?_⟩)
      rw [e1]
      intro v H' s p
      exact ⟨x, p.str, z2 _ H' [] s (fun q hq => by cases hq) its_ok⟩
    | _ => exact z2.elim
theorem itr_ok {K : PySem.W.Frag} {lo : Int} {n : Nat} : ItOk K (Itr lo n) [] ((List.range n).map fun (i : Nat) => T.int (lo + (i : Int))) where
  go := fun S H i hp hi => by show i < n; simpa using hi
  yld := fun S H i x H' hp hs hi y => by
    obtain ⟨e, h2⟩ := y
    subst e h2
    have hi' : i < n := by simpa using hi
    exact ⟨.int (lo + i), by simp [hi'], Same.refl _, .int _⟩
  stop := fun S H i hp hi => by show n ≤ i; simpa using hi
theorem i_rng1 {p : Pos} (hm : X.mg "range" = none) (he : PE X e (tG .w X.K S0 H0 W d)) (hg : Gl X "range" := by rfl) (hs : starEach [e] X.env = [(false, eval e X.env)] := by rfl) : PI X tg (.Call (.Name "range" p) [e] [] pos) (tI m X.K S0 H0 W (dRng1 d)) :=
  pi_imp (pi_range1 hg hm (w_cons he w_nil hs) hs) fun σ H Rr ⟨ev, ps, r, z⟩ => by
    have z2 := R.on_bind z
    cases e1 : d ev with
    | bad => rw [e1] at z2; exact z2.elim
    | ex c fs => rw [e1] at z2; exact ⟨ev, ps, r, by unfold dCons; rw [e1]; exact z2⟩
    | ok t =>
      rw [e1] at z2
      refine ⟨ev, ps, r, ?_⟩
      unfold dCons
      rw [e1]
      intro vs H' s p
      obtain ⟨v, rfl, q⟩ := one_w p
      cases t with
      | int n =>
        have z3 : (if -(2 ^ 62) ≤ n ∧ n < 2 ^ 62 then R.ok ((List.range n.toNat).map fun (i : Nat) => T.int (i : Int)) else R.bad).on _ _ := z2
        by_cases hn : -(2 ^ 62) ≤ n ∧ n < 2 ^ 62
        · rw [if_pos hn] at z3
          refine ⟨n, by rw [q.int], hn.1, hn.2, z3 _ H' [] s (fun q hq => by cases hq) ?_⟩
          have e2 : ((List.range n.toNat).map fun (i : Nat) => T.int (i : Int)) = (List.range n.toNat).map fun (i : Nat) => T.int (0 + (i : Int)) := by
            apply List.map_congr_left; intro i _; rw [Int.zero_add]
          rw [e2]
          exact itr_ok
        · rw [if_neg hn] at z3; exact z3.elim
      | _ => exact z2.elim
theorem i_rng2 {p : Pos} (hm : X.mg "range" = none) (he : PA X [a, b] (tAw X.K S0 H0 W ds)) (hg : Gl X "range" := by rfl) (hs : starEach [a, b] X.env = [(false, eval a X.env), (false, eval b X.env)] := by rfl) (hs2 : starEach [b] X.env = [(false, eval b X.env)] := by rfl) :
    PI X tg (.Call (.Name "range" p) [a, b] [] pos) (tI m X.K S0 H0 W (dRng2 ds)) :=
  pi_imp (pi_range2 hg hm he hs hs2) fun σ H Rr ⟨ev, ps, r, z⟩ => by
    refine ⟨ev, ps, r, R.on_mono (R.on_bind z) (fun ts q vs H' s p => ?_) fun _ _ q => q⟩
    split at q
    · rename_i i j
      obtain ⟨v, v', rfl, q1, q2⟩ := two_w p
      by_cases hn : -(2 ^ 62) ≤ i ∧ i < 2 ^ 62 ∧ -(2 ^ 62) ≤ j ∧ j < 2 ^ 62
      · rw [if_pos hn] at q
        exact ⟨i, j, by rw [q1.int, q2.int], hn, q _ H' [] s (fun q hq => by cases hq) itr_ok⟩
      · rw [if_neg hn] at q; exact q.elim
    · exact q.elim
theorem three_w {K : PySem.W.Frag} {H : Hp} {vs : List V} {t u w : T} (h : IsWs K S H vs [t, u, w]) : ∃ x y z, vs = [x, y, z] ∧ Pm K .w S H H x t ∧ Pm K .w S H H y u ∧ Pm K .w S H H z w := by
  cases h with
  | cons h r => cases r with | cons h2 r => cases r with | cons h3 r => cases r; exact ⟨_, _, _, rfl, h, h2, h3⟩
theorem enum_at (ts : List T) (i : Nat) (h : i < ts.length) : (enumL ts)[i]? = some (.tup [.int i, ts[i]]) := by
  simp [enumL, h]
theorem enum_len (ts : List T) : (enumL ts).length = ts.length := by simp [enumL]
theorem ite_ok {K : PySem.W.Frag} {a : Addr} {u : T} {ts : List T} (h : ∀ (S : Addr → Prop) (H : Hp), Pm K .w S H H (.ref a) u → ∃ xs, SqL K H a xs ∧ IsTs K S H xs ts) : ItOk K (Ite K a) [(.ref a, u)] (enumL ts) where
  go := fun S H i hp hi => by
    obtain ⟨xs, hx, r⟩ := h S H (hp _ List.mem_cons_self)
    rw [enum_len] at hi
    obtain ⟨v, h1, _⟩ := r.get (i := i) (List.getElem?_eq_getElem hi)
    exact ⟨xs, v, hx, h1⟩
  yld := fun S H i x H' hp hs hi y => by
    obtain ⟨xs, hx, r⟩ := h S H (hp _ List.mem_cons_self)
    obtain ⟨U, w, rfl, hU, rfl, y⟩ := y
    obtain ⟨t, h1, h2⟩ := r.getv (y xs hx)
    rw [enum_len] at hi
    have e2 : ts[i] = t := by rw [List.getElem?_eq_getElem hi] at h1; exact Option.some.inj h1
    exact ⟨_, enum_at ts i hi, same_upd hU, by rw [e2]; exact (new_tup hs hU (.cons (.int _) (.cons h2 .nil))).elim (fun z => z.2) fun ⟨_, _, _, c⟩ => by cases c⟩
  stop := fun S H i hp hi => by
    obtain ⟨xs, hx, r⟩ := h S H (hp _ List.mem_cons_self)
    rw [enum_len] at hi
    exact ⟨xs, hx, by rw [r.len]; exact hi⟩
theorem scr_ts {K : PySem.W.Frag} {H : Hp} : ∀ ns : List Int, IsTs K S H (ns.map V.int) (ns.map T.int)
  | [] => .nil
  | n :: ns => .cons (.int n) (scr_ts ns)
theorem i_enum {p tpos : Pos} {elts : List Expr} {kk : Nat} (hm : X.mg "enumerate" = none) (hw : m ≠ .f) (he : PE X e (tG m X.K S0 H0 W d)) (hg : Gl X "enumerate" := by rfl) (hs : starEach [e] X.env = [(false, eval e X.env)] := by rfl) :
    PI X (.Tuple elts kk tpos) (.Call (.Name "enumerate" p) [e] [] pos) (tI m X.K S0 H0 W (dEnum d)) :=
  pi_imp (pi_enum hg hm (pa_cons he pa_nil hs) hs) fun σ H Rr ⟨ev, ps, r, z⟩ => by
    refine ⟨ev, ps, r, R.on_mono (R.on_bind z) (fun t q v H' s p => ?_) fun _ _ q => q⟩
    cases t with
    | lst ts =>
      obtain ⟨a, xs, rfl, h, rs⟩ := p.lst
      exact ⟨a, xs, rfl, SqL.of h, q _ H' [(.ref a, .lst ts)] s (fun q hq => by rw [List.mem_singleton.mp hq]; exact p) (ite_ok fun S H2 q => by
        obtain ⟨b, ys, eb, hb, rb⟩ := q.lst
        cases eb
        exact ⟨ys, SqL.of hb, rb⟩)⟩
    | scr ns =>
      obtain ⟨a, rfl, h⟩ := p.scr
      exact ⟨a, _, rfl, h.sq, q _ H' [(.ref a, .scr ns)] s (fun q hq => by rw [List.mem_singleton.mp hq]; exact p) (ite_ok fun S H2 q => by
        obtain ⟨b, eb, hb⟩ := q.scr
        cases eb
        exact ⟨_, hb.sq, scr_ts ns⟩)⟩
    | _ => exact q.elim
end
end DL
set_option maxHeartbeats 1000000
namespace DL
open PySem PySem.Spec PyProof.Rows L2
section
variable {X : Cx} {e a b tg iter : Expr} {body : List Stmt} {S S0 : Addr → Prop} {H0 : Hp} {W : WX} {d da db : Lo → R T} {pos : Pos} {m ma mb : Md} {k : Nat} {ds : Lo → R (List T)} {es : List Expr} {d1 : Lo → Fl} {g : T → Lo → Option Lo} {vs : List Nat} {di : Lo → R (List T)} {c : Lo → R Bool}
theorem s_for (cn : Cn X W k) (hi : PI X tg iter (tI .s X.K S0 H0 W di)) (hg : PG X tg (tTg vs X.K S0 H0 g)) (hb : PSs X body (tS m X.K S0 H0 W d1)) (hs : ∀ x, foldedSetIterable iter X.env x = pure x := by intro _; rfl) :
    PS X (.For tg iter body [] pos) (tS m X.K S0 H0 W (sFor di g d1)) := ps_imp (ps_for cn.po cn.calm hi hg hb hs) fun D σ H ⟨ev, ps, r, z⟩ => by
  refine ⟨ev, ps, r, R.on_mono (R.fl_on z) (fun ts q J H1 pn s1 hp it => ?_) fun c fs q cls dd H' s x => q cls dd σ H' (r.up s) x⟩
  have r1 : Rp X.K S0 H0 (pn ++ ps) σ H1 ev := (r.up s1).pins fun p hq => (List.mem_append.mp hq).elim (fun y => hp p y) ((r.up s1).pin p)
  refine ⟨fun i n σ' H' => n = ts.length - i ∧ i ≤ ts.length ∧ ∃ ev', Rp X.K S0 H0 (pn ++ ps) σ' H' ev' ∧
    (forL g d1 (ts.drop i) ev').on (fun e => ∀ σ' H', Rp X.K S0 H0 ps σ' H' e → D.nx σ' H') (fun e => ∀ σ' H', Rp X.K S0 H0 ps σ' H' e → D.bk σ' H') (fun e => ∀ σ' H', Rp X.K S0 H0 ps σ' H' e → D.ct σ' H')
      (fun t => ∀ v H', Same H0 H' → Pm X.K m S0 H0 H' v t → D.rt v H') (fun c fs e => ∀ cls dd σ' H', Rp X.K S0 H0 ps σ' H' e → IsX X.K (Sx S0 σ' e) H' cls dd c fs → W cls dd σ' H'), ⟨ts.length, by simp, Nat.zero_le _, ev, r1, by rw [List.drop_zero]; exact q⟩, ?_⟩
  rintro i n σ2 H2 ⟨rfl, hi2, ev2, r2, z2⟩
  have un : ∀ {σ' : L2.St} {H' : Hp} {e : Lo}, Rp X.K S0 H0 (pn ++ ps) σ' H' e → Rp X.K S0 H0 ps σ' H' e := fun y => y.pins fun p hq => y.pin p (List.mem_append_right _ hq)
  have pins : ∀ p ∈ pn, Pm X.K .w (Sx S0 σ2 ev2) H2 H2 p.1 p.2 := fun p hq => .inl (r2.pin p (List.mem_append_left _ hq))
  by_cases hlt : i < ts.length
  · refine .inr ⟨it.go _ H2 i pins hlt, fun σ' H' => ∃ ev', Rp X.K S0 H0 (pn ++ ps) σ' H' ev' ∧ (forL g d1 (ts.drop (i + 1)) ev').on _ _ _ _ _, fun σ' H' ⟨ev', r', z'⟩ => ⟨ts.length - (i + 1), by omega, rfl, hlt, ev', r', z'⟩, fun x H3 y => ?_⟩
    obtain ⟨t, ht, s3, pt⟩ := it.yld _ H2 i x H3 pins r2.sx hlt y
    have et : ts.drop i = t :: ts.drop (i + 1) := by
      rw [List.drop_eq_getElem_cons hlt]
      rw [List.getElem?_eq_getElem hlt] at ht
      rw [Option.some.inj ht]
    rw [et] at z2
    unfold forL at z2
    cases eg : g t ev2 with
    | none => rw [eg] at z2; exact z2.elim
    | some e3 =>
      rw [eg] at z2
      refine ⟨ev2, pn ++ ps, t, r2.up s3, pt, e3, eg, fun σ4 _ r4 => ⟨e3, pn ++ ps, r4, ?_⟩⟩
      cases e5 : d1 e3 with
      | nx e6 => simp only [e5] at z2; exact fun σ' H' r' => ⟨e6, r', z2⟩
      | ct e6 => simp only [e5] at z2; exact fun σ' H' r' => ⟨e6, r', z2⟩
      | bk e6 => simp only [e5] at z2; exact fun σ' H' r' => z2 σ' H' (un r')
      | rt t => simp only [e5] at z2; exact z2
      | ex c fs e6 => simp only [e5] at z2; exact fun cls dd σ' H' r' x => z2 cls dd σ' H' (un r') x
      | bad => simp only [e5] at z2; exact z2.elim
  · have ei : i = ts.length := by omega
    subst ei
    rw [List.drop_length] at z2
    exact .inl ⟨it.stop _ H2 _ pins (Nat.le_refl _), z2 σ2 H2 (un r2)⟩
end
def wipeL (vs : List Nat) (ev : Lo) : Lo := vs.foldr (fun v l => l.set v none) ev
def compL (g : T → Lo → Option Lo) (c : Lo → R Bool) (de : Lo → R T) (ev : Lo) : List T → R (List T)
  | [] => .ok []
  | t :: ts => match g t ev with
    | none => .bad
    | some e => match c e with
      | .ok true => (match de e with
        | .ok u => (match compL g c de ev ts with
          | .ok us => .ok (u :: us)
          | _ => .bad)
        | _ => .bad)
      | .ok false => compL g c de ev ts
      | _ => .bad
def dComp (vs : List Nat) (di : Lo → R (List T)) (g : T → Lo → Option Lo) (c : Lo → R Bool) (de : Lo → R T) : Lo → R T := fun ev => (di ev).bind fun ts => match compL g c de (wipeL vs ev) ts with
  | .ok us => if us.length ≤ sizeLine then .ok (.lst us) else .bad
  | _ => .bad
def dYes : Lo → R Bool := fun _ => .ok true
abbrev W0 : WX := fun _ _ _ _ => False
section
variable {K : PySem.W.Frag} {S0 : Addr → Prop} {H0 H : Hp} {ps : List (V × T)} {σ : L2.St} {ev : Lo} {vs : List Nat}
theorem wipeL_len (ev : Lo) : ∀ vs : List Nat, (wipeL vs ev).length = ev.length
  | [] => rfl
  | v :: vs => by show ((wipeL vs ev).set v none).length = _; rw [List.length_set, wipeL_len ev vs]
theorem wipeL_some {i : Nat} {x : T × Bool} : ∀ {vs : List Nat}, (wipeL vs ev)[i]? = some (some x) → ev[i]? = some (some x) ∧ i ∉ vs
  | [], h => ⟨h, by simp⟩
  | v :: vs, h => by
    have h : ((wipeL vs ev).set v none)[i]? = some (some x) := h
    rcases set_get h with ⟨_, e, _⟩ | ⟨n, g⟩
    · cases e
    · obtain ⟨h1, h2⟩ := wipeL_some g
      exact ⟨h1, by simp [n, h2]⟩
theorem wipe_out {i : Nat} : ∀ {vs : List Nat}, i ∉ vs → (wipe σ vs)[i]? = σ[i]?
  | [], _ => rfl
  | v :: vs, h => by
    unfold wipe
    have h2 : v ≠ i ∧ i ∉ vs := ⟨fun z => h (by simp [z]), fun z => h (by simp [z])⟩
    rw [List.getElem?_set_ne h2.1]
    exact wipe_out h2.2
theorem own_wipe {a : Addr} (h : Own (wipe σ vs) (wipeL vs ev) a) : Own σ ev a := by
  obtain ⟨i, t, h1, h2⟩ := h
  obtain ⟨g1, g2⟩ := wipeL_some h1
  rw [wipe_out g2] at h2
  exact ⟨i, t, g1, h2⟩
def Sb (S0 : Addr → Prop) (σ : L2.St) (ev : Lo) (vs : List Nat) (D : Addr) (a : Addr) : Prop := S0 a ∨ a = D ∨ (Own σ ev a ∧ ¬ Own (wipe σ vs) (wipeL vs ev) a)
theorem sb_iff {D a : Addr} : Sx (Sb S0 σ ev vs D) (wipe σ vs) (wipeL vs ev) a ↔ Sx S0 σ ev a ∨ a = D := by
  constructor
  · rintro ((z | z | ⟨z, _⟩) | z)
    · exact .inl (.inl z)
    · exact .inr z
    · exact .inl (.inr z)
    · exact .inl (.inr (own_wipe z))
  · rintro ((z | z) | z)
    · exact .inl (.inl z)
    · by_cases y : Own (wipe σ vs) (wipeL vs ev) a
      · exact .inr y
      · exact .inl (.inr (.inr ⟨z, y⟩))
    · exact .inl (.inr (.inl z))
theorem Rp.block {D : Addr} {o : HO} (r : Rp K S0 H0 ps σ H ev) (hD : H D = none) (ho : ∀ xs, o ≠ .tup xs := by intro xs z; cases z) : Rp K (Sb S0 σ ev vs D) H0 ps (wipe σ vs) (upd H D o) (wipeL vs ev) := by
  have mv : Mv (Sx S0 σ ev) (Sx (Sb S0 σ ev vs D) (wipe σ vs) (wipeL vs ev)) H (upd H D o) := fun a u e n => by
    have ne : a ≠ D := ne_of_none e hD
    exact ⟨by rw [upd_ne ne]; exact e, fun z => (sb_iff.mp z).elim n ne⟩
  have sm : Same H (upd H D o) := same_upd hD
  refine ⟨r.same.trans sm, fun a z => ?_, fun i t h => ?_, fun i t h => ?_, fun i j t u a h1 h2 h3 h4 => ?_, fun p hp => (r.pin p hp).mv mv, by rw [wipe_length, wipeL_len]; exact r.len⟩
  · rcases z with z | z | ⟨z, _⟩
    · exact (r.up sm).s0 a z
    · rw [z]; exact Mu.new ho
    · exact (r.up sm).sx a (.inr z)
  · obtain ⟨g1, g2⟩ := wipeL_some h
    obtain ⟨v, h1, h2⟩ := r.frz i t g1
    exact ⟨v, by rw [wipe_out g2]; exact h1, h2.mv mv⟩
  · obtain ⟨g1, g2⟩ := wipeL_some h
    obtain ⟨a, h1, h2, h3, c⟩ := r.own i t g1
    obtain ⟨o', e⟩ := c.some
    have ne : a ≠ D := ne_of_none e hD
    have w : (wipe σ vs)[i]? = some (some (.ref a)) := by rw [wipe_out g2]; exact h1
    refine ⟨a, w, ?_, h3, c.mv mv (by rw [upd_ne ne])⟩
    rintro (z | z | ⟨_, z⟩)
    · exact h2 z
    · exact ne z
    · exact z ⟨i, t, h, w⟩
  · obtain ⟨g1, g2⟩ := wipeL_some h1
    obtain ⟨g3, g4⟩ := wipeL_some h2
    rw [wipe_out g2] at h3
    rw [wipe_out g4] at h4
    exact r.inj i j t u a g1 g3 h3 h4
theorem Rp.grow {D : Addr} {o : HO} (r : Rp K S0 H0 ps σ H ev) (hD : S0 D) (h0 : H0 D = none) (ho : ∀ xs, o ≠ .tup xs := by intro xs z; cases z) : Rp K S0 H0 ps σ (upd H D o) ev := by
  have mv : Mv (Sx S0 σ ev) (Sx S0 σ ev) H (upd H D o) := fun a u e n => ⟨by rw [upd_ne (fun z => n (by rw [z]; exact .inl hD))]; exact e, n⟩
  refine ⟨fun a u e => ?_, fun a z => ?_, fun i t h => ?_, fun i t h => ?_, r.inj, fun p hp => (r.pin p hp).mv mv, r.len⟩
  · have ne : a ≠ D := fun z => by rw [z, h0] at e; cases e
    rw [upd_ne ne]; exact r.same a u e
  · by_cases e : a = D
    · rw [e]; exact Mu.new ho
    · exact (r.s0 a z).oth e
  · obtain ⟨v, h1, h2⟩ := r.frz i t h
    exact ⟨v, h1, h2.mv mv⟩
  · obtain ⟨a, h1, h2, h3, c⟩ := r.own i t h
    exact ⟨a, h1, h2, h3, c.mv mv (by rw [upd_ne (fun z => h2 (by rw [z]; exact hD))])⟩
theorem wipe_get : ∀ {vs : List Nat} {i : Nat}, i ∈ vs → i < σ.length → (wipe σ vs)[i]? = some none
  | [], _, h, _ => by simp at h
  | v :: vs, i, h, hl => by
    unfold wipe
    by_cases e : v = i
    · subst e
      rw [List.getElem?_set_self (by rw [wipe_length]; exact hl)]
    · rw [List.getElem?_set_ne e]
      exact wipe_get ((List.mem_cons.mp h).resolve_left fun z => e z.symm) hl
theorem wipe_wipe (vs : List Nat) : wipe (wipe σ vs) vs = wipe σ vs := by
  apply List.ext_getElem?
  intro i
  by_cases h : i ∈ vs
  · by_cases hl : i < σ.length
    · rw [wipe_get h (by rw [wipe_length]; exact hl), wipe_get h hl]
    · rw [List.getElem?_eq_none (by rw [wipe_length, wipe_length]; omega), List.getElem?_eq_none (by rw [wipe_length]; omega)]
  · rw [wipe_out h]
end
section
variable {X : Cx} {e a b tg iter elt : Expr} {ifs : List Expr} {scope : Scope} {S0 : Addr → Prop} {H0 : Hp} {W : WX} {de : Lo → R T} {pos spos py : Pos} {m : Md} {k i : Nat} {y : Str} {d1 : Lo → Fl} {g : T → Lo → Option Lo} {di : Lo → R (List T)} {c : Lo → R Bool} {own : List (Str × Nat)}
theorem Cn.blk (cn : Cn X W k) {s : Shared} {H : Hp} {scope : Scope} {cenv : PySem.Env} {fp : List Addr} : Cn (X.blk s H scope cenv fp) W0 k := ⟨takes0, cn.room, cn.gu, cn.calm, cn.nd, PassesOwn.never⟩
theorem ts_nil : PTs X [] (tB X.K S0 H0 W dYes) := ⟨fun pins s σ H Q I ⟨ev, ps, r, z⟩ => pts_nil.run pins s σ H Q I (z H (Same.refl _))⟩
theorem ts_one (h : PT X e (tB X.K S0 H0 W c)) : PTs X [e] (tB X.K S0 H0 W c) := pts_one h
theorem imComp {vs : List Nat} {tt : TT} {te : TE} {gg : TG} {K : PySem.W.Frag} (hk : ∀ t ev e, g t ev = some e → ∀ i, i ∉ vs → e[i]? = ev[i]?) (hg : ∀ S v σ H Q, tTg vs K S H0 g v σ H Q → gg v σ H Q) (ht : ∀ S σ H Q, tB K S H0 W0 c σ H Q → tt σ H Q) (he : ∀ S σ H Q, tG .s K S H0 W0 de σ H Q → te σ H Q) :
    ∀ σ H Q, tG .f K S0 H0 W (dComp vs di g c de) σ H Q → tLc (tI .w K S0 H0 W di) gg tt te vs σ H Q := fun σ H Q ⟨ev, ps, r, z⟩ => by
  refine ⟨ev, ps, r, R.on_mono (R.on_bind z) (fun ts q J H1 pn s1 hp it D hD => ?_) fun _ _ q => q⟩
  cases ec : compL g c de (wipeL vs ev) ts with
  | bad => rw [ec] at q; exact q.elim
  | ex _ _ => rw [ec] at q; exact q.elim
  | ok us =>
    rw [ec] at q
    have q : (if us.length ≤ sizeLine then R.ok (T.lst us) else R.bad).on _ _ := q
    by_cases hz : us.length ≤ sizeLine
    · rw [if_pos hz] at q
      have q : ∀ v H', Same H H' → Pm K .f (Sx S0 σ ev) H H' v (.lst us) → Q v H' := q
      have r1 := r.up s1
      have pD : ∀ {H2 : Hp}, Same H1 H2 → ∀ p ∈ pn, Pm K .w (Sx (Sb S0 σ ev vs D) (wipe σ vs) (wipeL vs ev)) H2 H2 p.1 p.2 := fun {H2} s2 p hq => by
        rcases hp p hq with y | ⟨a, e, c⟩
        · exact .inl (y.mv fun a u e n => ⟨s2 a u e, fun z => (sb_iff.mp z).elim n (ne_of_none e hD)⟩)
        · obtain ⟨o, e2⟩ := c.some
          exact .inr ⟨a, e, c.mv (fun a u e n => ⟨s2 a u e, fun z => (sb_iff.mp z).elim n (ne_of_none e hD)⟩) (by rw [e2]; exact s2 _ _ e2)⟩
      refine ⟨fun i n H2 => n = ts.length - i ∧ i ≤ ts.length ∧ ∃ accV accT us2, compL g c de (wipeL vs ev) (ts.drop i) = .ok us2 ∧ accT ++ us2 = us ∧ H2 D = some (.lst accV) ∧ IsTs K (Sx (Sb S0 σ ev vs D) (wipe σ vs) (wipeL vs ev)) H2 accV accT ∧
        Rp K (Sb S0 σ ev vs D) H0 ps (wipe σ vs) H2 (wipeL vs ev) ∧ Same H1 H2, ⟨ts.length, by simp, Nat.zero_le _, [], [], us, by rw [List.drop_zero]; exact ec, rfl, upd_same, .nil, r1.block hD, same_upd hD⟩, ?_⟩
      rintro i n H2 ⟨rfl, hi, accV, accT, us2, e2, ea, hH, rs, r2, s2⟩
      by_cases hlt : i < ts.length
      · refine .inr ⟨it.go _ H2 i (pD s2) hlt, fun H3 => ∃ accV accT us2, compL g c de (wipeL vs ev) (ts.drop (i + 1)) = .ok us2 ∧ accT ++ us2 = us ∧ H3 D = some (.lst accV) ∧ IsTs K (Sx (Sb S0 σ ev vs D) (wipe σ vs) (wipeL vs ev)) H3 accV accT ∧
          Rp K (Sb S0 σ ev vs D) H0 ps (wipe σ vs) H3 (wipeL vs ev) ∧ Same H1 H3, fun H3 h => ⟨ts.length - (i + 1), by omega, rfl, hlt, h⟩, fun x H3 y => ?_⟩
        obtain ⟨t, ht2, s3, pt⟩ := it.yld _ H2 i x H3 (pD s2) r2.sx hlt y
        have et : ts.drop i = t :: ts.drop (i + 1) := by
          rw [List.drop_eq_getElem_cons hlt]
          rw [List.getElem?_eq_getElem hlt] at ht2
          rw [Option.some.inj ht2]
        rw [et] at e2
        unfold compL at e2
        cases eg : g t (wipeL vs ev) with
        | none => simp only [eg] at e2; cases e2
        | some e3 =>
          simp only [eg] at e2
          refine hg (Sb S0 σ ev vs D) x _ H3 _ ⟨wipeL vs ev, ps, t, r2.up s3, pt, e3, eg, fun σ4 hw r4 => ⟨hw.trans (wipe_wipe vs), ht _ σ4 H3 _ ⟨e3, ps, r4, ?_⟩⟩⟩
          cases e5 : c e3 with
          | bad => simp only [e5] at e2; cases e2
          | ex _ _ => simp only [e5] at e2; cases e2
          | ok bo =>
            intro H4 s4
            have r24 := r2.up (s3.trans s4)
            cases bo with
            | false =>
              simp only [e5] at e2
              exact iteF ⟨accV, accT, us2, e2, ea, (s3.trans s4) _ _ hH, rs.mv (mv_same (s3.trans s4)), r24, (s2.trans s3).trans s4⟩
            | true =>
              simp only [e5] at e2
              refine iteT (he (Sb S0 σ ev vs D) σ4 H4 _ ⟨e3, ps, r4.up s4, ?_⟩)
              cases e6 : de e3 with
              | bad => simp only [e6] at e2; cases e2
              | ex _ _ => simp only [e6] at e2; cases e2
              | ok u =>
                intro v H5 s5 p5
                simp only [e6] at e2
                cases e7 : compL g c de (wipeL vs ev) (ts.drop (i + 1)) with
                | bad => simp only [e7] at e2; cases e2
                | ex _ _ => simp only [e7] at e2; cases e2
                | ok us3 =>
                  simp only [e7] at e2
                  cases e2
                  have s25 := (s3.trans s4).trans s5
                  have hD5 : H5 D = some (.lst accV) := s25 _ _ hH
                  have lacc : accV.length < sizeLine := by
                    rw [rs.len]
                    have : us.length = accT.length + (us3.length + 1) := by rw [← ea]; simp
                    omega
                  have h0D : H0 D = none := by
                    cases q0 : H0 D with
                    | none => rfl
                    | some o => have := r1.same D o q0; rw [hD] at this; cases this
                  have r5 := r2.up s25
                  have gr := r5.grow (o := .lst (accV ++ [v])) (.inr (.inl rfl)) h0D
                  have mv5 : Mv (Sx (Sb S0 σ ev vs D) (wipe σ vs) (wipeL vs ev)) (Sx (Sb S0 σ ev vs D) (wipe σ vs) (wipeL vs ev)) H5 (upd H5 D (.lst (accV ++ [v]))) := fun a w e n =>
                    ⟨by rw [upd_ne (fun z => n (sb_iff.mpr (.inr z)))]; exact e, n⟩
                  -- the element: the same tree with the names forgotten
                  have pv : IsT K (Sx (Sb S0 σ ev vs D) (wipe σ vs) (wipeL vs ev)) H5 v u := by
                    refine IsT.mv (fun a w e n => ⟨e, fun z => n ?_⟩) p5
                    rcases z with z | ⟨j, t2, g1, g2⟩
                    · exact .inl z
                    · obtain ⟨f1, f2⟩ := wipeL_some g1
                      refine .inr ⟨j, t2, by rw [hk t _ e3 eg j f2]; exact g1, ?_⟩
                      have w1 : (wipe σ4 vs)[j]? = σ4[j]? := wipe_out f2
                      rw [← w1, hw, wipe_out f2]
                      exact g2
                  refine ⟨accV, hD5, lacc, accV ++ [v], accT ++ [u], us3, rfl, by rw [← ea]; simp, upd_same, (rs.mv (fun a w e n => ?_)).app (.cons (pv.mv mv5) .nil), gr, ?_⟩
                  · exact mv5 a w (s25 a w e) n
                  · exact fun a w e => by
                      rw [upd_ne (ne_of_none e hD)]
                      exact s25 a w (s2 a w e)
      · have ei : i = ts.length := by omega
        subst ei
        rw [List.drop_length] at e2
        cases e2
        rw [List.append_nil] at ea
        subst ea
        refine .inl ⟨it.stop _ H2 _ (pD s2) (Nat.le_refl _), q _ H2 (s1.trans s2) (.inr ⟨D, rfl, s1.free hD, .lst hH (rs.mv (mv_less fun a z => ?_))⟩)⟩
        exact sb_iff.mpr z
    · rw [if_neg hz] at q; exact q.elim
theorem gk_nm {i : Nat} {vs : List Nat} (hv : i ∈ vs) : ∀ t ev e, gNm i t ev = some e → ∀ j, j ∉ vs → e[j]? = ev[j]? := fun t ev e h j hj => by
  cases h
  rw [List.getElem?_set_ne (fun z => hj (by rw [← z]; exact hv))]
theorem gk_nil {vs : List Nat} : ∀ t ev e, gNil t ev = some e → ∀ j, j ∉ vs → e[j]? = ev[j]? := fun t ev e h j hj => by
  unfold gNil at h
  split at h
  · cases h; rfl
  · cases h
theorem gk_cons {vs : List Nat} {gs : List T → Lo → Option Lo} (h1 : ∀ t ev e, g t ev = some e → ∀ j, j ∉ vs → e[j]? = ev[j]?) (h2 : ∀ t ev e, gs t ev = some e → ∀ j, j ∉ vs → e[j]? = ev[j]?) : ∀ t ev e, gCons g gs t ev = some e → ∀ j, j ∉ vs → e[j]? = ev[j]? := fun t ev e h j hj => by
  unfold gCons at h
  split at h
  · obtain ⟨e1, a, b⟩ := Option.bind_eq_some_iff.mp h
    exact (h2 _ _ _ b j hj).trans (h1 _ _ _ a j hj)
  · cases h
theorem gk_tp {vs : List Nat} {n : Nat} {gs : List T → Lo → Option Lo} (h1 : ∀ t ev e, gs t ev = some e → ∀ j, j ∉ vs → e[j]? = ev[j]?) : ∀ t ev e, gTp n gs t ev = some e → ∀ j, j ∉ vs → e[j]? = ev[j]? := fun t ev e h j hj => by
  unfold gTp at h
  split at h
  · split at h
    · exact h1 _ _ _ h j hj
    · cases h
  · split at h
    · exact h1 _ _ _ h j hj
    · cases h
  · cases h
theorem e_comp (cn : Cn X W k) (hi : PI X tg iter (tI .w X.K S0 H0 W di)) (hb : blkC X.N X.env.scope scope own = true)
    (hg : ∀ S (s : Shared) (H : Hp) (C : Addr) (cl : List (Str × Addr)) (fp : List Addr), (X.blk s H scope (compEnvC scope cl C X.env) fp).N.Nodup → (X.blk s H scope (compEnvC scope cl C X.env) fp).calm = true → PG (X.blk s H scope (compEnvC scope cl C X.env) fp) tg (tTg (own.map (·.2)) X.K S H0 g))
    (hk : ∀ t ev e, g t ev = some e → ∀ i, i ∉ own.map (·.2) → e[i]? = ev[i]?)
    (ht : ∀ S (s : Shared) (H : Hp) (C : Addr) (cl : List (Str × Addr)) (fp : List Addr), Cn (X.blk s H scope (compEnvC scope cl C X.env) fp) W0 k → PTs (X.blk s H scope (compEnvC scope cl C X.env) fp) ifs (tB X.K S H0 W0 c))
    (he : ∀ S (s : Shared) (H : Hp) (C : Addr) (cl : List (Str × Addr)) (fp : List Addr), Cn (X.blk s H scope (compEnvC scope cl C X.env) fp) W0 k → PE (X.blk s H scope (compEnvC scope cl C X.env) fp) elt (tG .s X.K S H0 W0 de))
    (hs : ∀ x, foldedSetIterable iter X.env x = pure x := by intro _; rfl) : PE X (.ListComp elt [⟨tg, iter, ifs, 0⟩] scope pos) (tG .f X.K S0 H0 W (dComp (own.map (·.2)) di g c de)) :=
  pe_imp (pe_lc (g := fun v σ H Q => ∃ S, tTg (own.map (·.2)) X.K S H0 g v σ H Q) (tt := fun σ H Q => ∃ S, tB X.K S H0 W0 c σ H Q) (te := fun σ H Q => ∃ S, tG .s X.K S H0 W0 de σ H Q) cn.calm cn.nd hi (blkOk_by hb)
    (fun s H C cl fp => ⟨fun pins s1 σ1 H1 v u Q I r ⟨S, z⟩ => (hg S s H C cl fp cn.blk.nd cn.blk.calm).run pins s1 σ1 H1 v u Q I r z⟩) (fun s H C cl fp => ⟨fun pins s1 σ1 H1 Q I ⟨S, z⟩ => (ht S s H C cl fp cn.blk).run pins s1 σ1 H1 Q I z⟩)
    (fun s H C cl fp => ⟨fun pins s1 σ1 H1 Q I ⟨S, z⟩ => (he S s H C cl fp cn.blk).run pins s1 σ1 H1 Q I z⟩) hs) (imComp hk (fun S v σ H Q z => ⟨S, z⟩) (fun S σ H Q z => ⟨S, z⟩) fun S σ H Q z => ⟨S, z⟩)
theorem s_setC (cn : Cn X W k) (i : Nat) (hi : PI X tg iter (tI .w X.K S0 H0 W di)) (hb : blkC X.N X.env.scope scope own = true)
    (hg : ∀ S (s : Shared) (H : Hp) (C : Addr) (cl : List (Str × Addr)) (fp : List Addr), (X.blk s H scope (compEnvC scope cl C X.env) fp).N.Nodup → (X.blk s H scope (compEnvC scope cl C X.env) fp).calm = true → PG (X.blk s H scope (compEnvC scope cl C X.env) fp) tg (tTg (own.map (·.2)) X.K S H0 g))
    (hk : ∀ t ev e, g t ev = some e → ∀ i, i ∉ own.map (·.2) → e[i]? = ev[i]?)
    (ht : ∀ S (s : Shared) (H : Hp) (C : Addr) (cl : List (Str × Addr)) (fp : List Addr), Cn (X.blk s H scope (compEnvC scope cl C X.env) fp) W0 k → PTs (X.blk s H scope (compEnvC scope cl C X.env) fp) ifs (tB X.K S H0 W0 c))
    (he : ∀ S (s : Shared) (H : Hp) (C : Addr) (cl : List (Str × Addr)) (fp : List Addr), Cn (X.blk s H scope (compEnvC scope cl C X.env) fp) W0 k → PE (X.blk s H scope (compEnvC scope cl C X.env) fp) elt (tG .s X.K S H0 W0 de))
    (hy : X.N[i]? = some y := by rfl) (hyl : X.env.scope.names.lookup y = some .local := by rfl) (hsw : swapsWith (.ListComp elt [⟨tg, iter, ifs, 0⟩] scope pos) (some (.Name y py)) spos.line X.env = pure true := by exact sw_true rfl rfl rfl (by decide +kernel))
    (hs : ∀ x, foldedSetIterable iter X.env x = pure x := by intro _; rfl) : PS X (.Assign [.Name y py] (.ListComp elt [⟨tg, iter, ifs, 0⟩] scope pos) spos) (tS m X.K S0 H0 W (sSetF i (dComp (own.map (·.2)) di g c de))) :=
  ps_imp (ps_setLc (i := i) (g := fun v σ H Q => ∃ S, tTg (own.map (·.2)) X.K S H0 g v σ H Q) (tt := fun σ H Q => ∃ S, tB X.K S H0 W0 c σ H Q) (te := fun σ H Q => ∃ S, tG .s X.K S H0 W0 de σ H Q) cn.calm cn.nd hy hyl hsw hi (blkOk_by hb)
    (fun s H C cl fp => ⟨fun pins s1 σ1 H1 v u Q I r ⟨S, z⟩ => (hg S s H C cl fp cn.blk.nd cn.blk.calm).run pins s1 σ1 H1 v u Q I r z⟩) (fun s H C cl fp => ⟨fun pins s1 σ1 H1 Q I ⟨S, z⟩ => (ht S s H C cl fp cn.blk).run pins s1 σ1 H1 Q I z⟩)
    (fun s H C cl fp => ⟨fun pins s1 σ1 H1 Q I ⟨S, z⟩ => (he S s H C cl fp cn.blk).run pins s1 σ1 H1 Q I z⟩) hs) fun D σ H z => imComp hk (fun S v σ H Q z => ⟨S, z⟩) (fun S σ H Q z => ⟨S, z⟩) (fun S σ H Q z => ⟨S, z⟩) σ H _ (by
      have q := imSetF (X := X) (m := m) (S0 := S0) (H0 := H0) (W := W) (i := i) D σ H z
      exact q)
end
section
variable {P : Program} {w : World} {K : PySem.W.Frag} {mg : Str → Option Value} {base : Heap} {k : Nat} {f : Addr} {x qual : Str} {params : Arguments} {body : List Stmt} {scope : Scope} {N prs : List Str} {m : Md} {d : Lo → Fl}
theorem start_get {n i : Nat} {ts : List T} {t : T} {o : Bool} (h : (start' n ts)[i]? = some (some (t, o))) : o = false ∧ ts[i]? = some t := by
  unfold start' at h
  by_cases hi : i < ts.length
  · rw [List.getElem?_append_left (by simpa using hi), List.getElem?_map] at h
    cases e : ts[i]? with
    | none => rw [e] at h; cases h
    | some a => rw [e] at h; cases h; exact ⟨rfl, rfl⟩
  · rw [List.getElem?_append_right (by simpa using hi), List.getElem?_replicate] at h
    split at h <;> cases h
theorem rp_start {H : Hp} {S : Addr → Prop} {vs : List V} {ts : List T} (hs : ∀ a, S a → Mu H a) (r : IsTs K S H vs ts) (hl : vs.length ≤ N.length) : Rp K S H [] (start N vs) H (start' N.length ts) := by
  have no : ∀ a, ¬ Own (start N vs) (start' N.length ts) a := fun a ⟨i, t, h1, _⟩ => by
    have := (start_get h1).1
    cases this
  refine ⟨Same.refl _, hs, fun i t h => ?_, fun i t h => ?_, fun i j t u a h _ _ _ => ?_, (fun p hp => by cases hp), ?_⟩
  · obtain ⟨v, h1, h2⟩ := r.get (start_get h).2
    refine ⟨v, ?_, h2.mv (mv_less fun a z => z.elim id fun y => (no a y).elim)⟩
    unfold L2.start
    have hi : i < vs.length := (List.getElem?_eq_some_iff.mp h1).1
    rw [List.getElem?_append_left (by simpa using hi), List.getElem?_map, h1]; rfl
  · have := (start_get h).1
    cases this
  · have := (start_get h).1
    cases this
  · unfold L2.start start'
    have := r.len
    simp
    omega
theorem fn_G {fd : FuncData} {dvs : List V} {kws : List (Str × V)} (F : FunD K x qual params body scope dvs kws f fd) (Sc : FnScope N prs scope) (hm : m ≠ .w)
    (hb : ∀ (cdv : Value) (A : Around) (outer : List PySem.Env) (s : Shared) (H : Hp) (E : XK) (S0 : Addr → Prop), Cn (cxOf (L2.CX P w) P w K mg base N qual scope f cdv A outer s H E) (fun cls dd _ H' => E cls dd H') k →
      PSs (cxOf (L2.CX P w) P w K mg base N qual scope f cdv A outer s H E) body (tS m K S0 H (fun cls dd _ H' => E cls dd H') d)) :
    FnG P w K mg base (k + 1) f fd prs (spD K prs.length m (dFn N.length d)) := by
  obtain ⟨c0, d0, dv0, kv0, doc0, pm0, an0, cd0, ct0, sl0, rfl, look, code, _, _⟩ := F.ex
  refine ⟨fun vs H Q E ⟨_, _, h1, _⟩ => h1, fun A outer s H args us vs Q E room gu env0 bind rv h => ?_⟩
  obtain ⟨ts, S, hl, hs, rs, z⟩ := h
  have inK : K.In s.heap := env0.mod.kin.keeps fun b o q => (env0.bs b o q).1
  have noL : s.heap.NoLimit := env0.mod.nolimit.keeps fun b o q => (env0.bs b o q).1
  have kinds : ∀ y ∈ prs.zip us, scope.names.lookup y.1 = some .local ∨ (scope.names.lookup y.1 = some .cell ∧ ((cellsFrom (s.heap.objs.size + 1) scope.names []).lookup y.1).isSome = true) := fun y hy => by
    obtain ⟨y1, y2⟩ := y
    rcases Sc.par y1 (List.of_mem_zip hy).1 with q | q
    · exact .inl q
    · exact .inr ⟨q, PySem.W.cellsFrom_some _ _ _ (.inl q)⟩
  have hN : vs.length ≤ N.length := by
    have := congrArg List.length Sc.pre
    rw [List.length_take] at this
    omega
  refine codeAny_call_function room.depth (inK _ _ look) rfl Sc.co Sc.gen rfl (PySem.W.codeRec_of inK code) (bind _ _ _ _ ?_)
  refine wpAny_newFunctionEnv_cells Sc.kind kinds fun env he s1 ic => ?_
  subst he
  refine ⟨noL.keeps ic.toInCall.keep, codeAny_func ?_⟩
  have cn : Cn (cxOf (L2.CX P w) P w K mg base N qual scope f cd0 A outer s H E) (fun cls dd _ H' => E cls dd H') k :=
    ⟨takes_of rfl rfl rfl rfl, room.deeper _, gu, rfl, Sc.nd, passes_of rfl⟩
  have I : Inv (cxOf (L2.CX P w) P w K mg base N qual scope f cd0 A outer s H E) [] (start N vs) H s1 := inv_start Sc room.hd env0 hl rv ic
  have ce : ∀ {s' : Shared} {σ' : L2.St} {H' : Hp} {v : V} {u : Value}, Inv (cxOf (L2.CX P w) P w K mg base N qual scope f cd0 A outer s H E) [] σ' H' s' → RelV v u → Q v H' → CE outer P w H s Q u s' :=
    fun J q1 q2 => ⟨_, _, J.os, J.bare, J.base, J.hok, q1, q2⟩
  refine wpAny_mono ((hb cd0 A outer s H E S cn).run [] s1 (start N vs) H { nx := fun _ H' => Q .non H', rt := Q } I ⟨_, [], rp_start hs rs hN, ?_⟩) (fun fl s' q => ?_) fun _ _ q => q
  · have z : (fin (d (start' N.length ts))).on _ _ := z
    cases e : d (start' N.length ts) with
    | nx ev => rw [e] at z; exact fun σ' H' r => z _ _ r.same (by
        cases m with
        | w => exact absurd rfl hm
        | s => exact IsT.non
        | f => exact one_non)
    | bk ev => rw [e] at z; exact z.elim
    | ct ev => rw [e] at z; exact z.elim
    | rt t => rw [e] at z; exact z
    | ex c fs ev =>
      rw [e] at z
      intro cls dd σ' H' r x
      refine z cls dd H' r.same ?_
      obtain ⟨x1, x2 | ⟨d, xs, y1, y2, y3, y4⟩⟩ := x
      · exact ⟨x1, .inl x2⟩
      · exact ⟨x1, .inr ⟨d, xs, y1, fun q => y2 (.inl q), y3, y4.mv (mv_less fun a q => .inl q)⟩⟩
    | bad => rw [e] at z; exact z.elim
  · match fl, q with
    | .ret u, ⟨_, _, _, J, q1, q2⟩ => exact ce J q1 q2
    | .next, ⟨_, _, J, q2⟩ => exact ce (v := V.non) (u := Value.none) J rfl q2
    | .brk, ⟨_, _, _, q2⟩ => exact q2.elim
    | .cont, ⟨_, _, _, q2⟩ => exact q2.elim
end
end DL
set_option maxHeartbeats 1000000
namespace DL
open PySem PySem.Spec PyProof.Rows L2
section
variable {P : Program} {w : World} {K : PySem.W.Frag} {mg mb : Str → Option Value} {k : Nat} {fa a : Addr} {fd : FuncData} {x : Str} {m : Md} {dl : List T → R T} {s1 : Shared} {vs : List Value} {ns : List Int}
theorem lawG (inK : K.In s1.heap) (gl : s1.heap.Ns mainGlobals mg) (bl : s1.heap.Ns builtinsNs mb) (bb : ∀ x : Str, x ≠ "__name__" → mb x = bootBuiltins x) (noL : s1.heap.NoLimit) (ge : s1.gens = #[])
    (at_ : s1.heap.get? a = some { cls := .type "list", data := .seq vs.toArray }) (are : IntsAre vs ns) (sz : ns.length ≤ sizeLine) (room : Room k callerA)
    (F : ∀ base : Heap, K.In base → base.Ns mainGlobals mg → FnG P w K mg base k fa fd [x] (spD K 1 m dl)) (bi : ∀ (s : Shared) (u : Value), BindsTo s fd ⟨[u], []⟩ [(x, u)]) (true_ : dl [.scr ns] = .ok (.bl true)) :
    codeAny (model P w) callerA (.call (.ref fa) ⟨[.ref a], []⟩) (fun r s' => r = .ok (.ret (.bool true)) ∧ OldK s1.heap s'.heap ∧ s'.os = s1.os ∧ AllBare s'.gens) s1 := by
  have rv := vals_ints are
  have lv := are.length
  -- the abstract heap: the script alone, where it isn't the module's own
  obtain ⟨H, h1, h2, h3, h4⟩ : ∃ H : Hp, (∀ b o, H b = some o → b = a ∧ K.lookup a = none ∧ o = .frz { cls := .type "list", data := .seq vs.toArray } (.lst (ns.map V.int))) ∧ NdL K (fun _ => False) H a (ns.map V.int) ∧ HOk P w H s1.heap ∧ (∀ b, H b = none ∨ b = a) := by
    rcases Option.eq_none_or_eq_some (K.lookup a) with e | ⟨o, e⟩
    · refine ⟨fun b => if b = a then some (.frz { cls := .type "list", data := .seq vs.toArray } (.lst (ns.map V.int))) else none, fun b o z => ?_, .inl ⟨id, .inr ⟨_, if_pos rfl⟩⟩, fun b o z => ?_, fun b => ?_⟩
      · have z : (if b = a then some (HO.frz { cls := .type "list", data := .seq vs.toArray } (.lst (ns.map V.int))) else none) = some o := z
        by_cases hb : b = a
        · rw [if_pos hb] at z; cases z; exact ⟨hb, e, rfl⟩
        · rw [if_neg hb] at z; cases z
      · have z : (if b = a then some (HO.frz { cls := .type "list", data := .seq vs.toArray } (.lst (ns.map V.int))) else none) = some o := z
        by_cases hb : b = a
        · subst hb; rw [if_pos rfl] at z; cases z
          exact ⟨at_, by rw [List.length_map]; exact sz, vs, _, rv, at_⟩
        · rw [if_neg hb] at z; cases z
      · by_cases hb : b = a
        · exact .inr hb
        · exact .inl (if_neg hb)
    · have q := inK a o e
      rw [at_] at q
      cases q
      refine ⟨fun _ => none, fun b o z => ?_, .inr ⟨_, vs.toArray, _, e, rfl, rfl, rfl, by rw [List.size_toArray, lv]; exact sz, by simpa using rv⟩, fun b o z => ?_, fun _ => .inl rfl⟩
      · cases z
      · cases z
  have free : ∀ {b : Addr} {o : Obj}, K.lookup b = some o → H b = none := fun {b o} e => by
    cases q : H b with
    | none => rfl
    | some u => obtain ⟨z1, z2, _⟩ := h1 b u q; rw [z1, z2] at e; cases e
  have dic : ∀ {b : Addr} {o : Obj} {es : Array DictEntry} {ep : Nat}, s1.heap.get? b = some o → o.data = .dict es ep → H b = none := fun {b o es ep} e q => by
    rcases h4 b with z | z
    · exact z
    · subst z; rw [at_] at e; cases e; cases q
  have nsG : ∀ {b : Addr} {mm : Str → Option Value}, s1.heap.Ns b mm → (hidT s1.heap H).Ns b mm := fun ⟨o, es, ep, e, q, z⟩ => ⟨o, es, ep, hidT_get e (dic e q), q, z⟩
  have inB : K.In (hidT s1.heap H) := fun b o e => hidT_get (inK b o e) (free e)
  have M : Mod K mg (hidT s1.heap H) := ⟨inB, nsG gl, ⟨mb, nsG bl, bb⟩, by obtain ⟨mc, q1, q2⟩ := noL; exact ⟨mc, nsG q1, q2⟩⟩
  have e0 : Env0 P w K mg (hidT s1.heap H) callerA [] s1 H := ⟨rfl, M, fun b o q => of_hidT q, Nat.le_of_eq (hidT_size _ _), True.intro, fun b q => (List.not_mem_nil q).elim, h3, .of_eq ge⟩
  refine codeAny_mono ((F _ inB (nsG gl)).go callerA [] s1 H ⟨[.ref a], []⟩ [.ref a] [.ref a] (fun v _ => v = .bl true) (fun _ _ _ => False) room rfl e0 (bi s1 (.ref a)) (.cons rfl .nil)
    ⟨[.scr ns], fun _ => False, rfl, fun b z => z.elim, .cons (.scr h2) .nil, by rw [true_]; exact fun v H' _ p => p.bl⟩) fun r s' q => ?_
  match r, q with
  | .error e, ⟨_, _, _, _, _, _, _, _, _, _, _, _, z⟩ => exact z.elim
  | .ok (.ret u), ⟨v, H', os, bare, un, ok', r', q⟩ =>
    have q : v = .bl true := q
    subst q
    have e2 : u = Value.bool true := r'
    subst e2
    refine ⟨rfl, OldK.of_keep fun b o e => ?_, os, bare⟩
    cases qb : H b with
    | none => exact un.keep b o e qb (fun z => (List.not_mem_nil z).elim) (List.not_mem_nil)
    | some u =>
      obtain ⟨z1, _, z3⟩ := h1 b u qb
      subst z3
      have y := un.frzs b _ _ qb
      obtain ⟨e1, _⟩ := h3 b _ qb
      obtain ⟨e3, _⟩ := ok' b _ y
      rw [e] at e1
      cases e1
      exact e3
end
theorem walk_G {l : PySem.W.OpenLaw} {n k : Nat} {q : Program} {loose : List Str} {XP : (Str → Option Value) → Heap → Prop} {YP : World → Heap → Prop} {d : DefRec} {x : Str} (hn : l.most = some n) (hn2 : n ≤ sizeLine) (hdf : d.params.defaults = []) (hr : Room k callerA)
    (F : ∀ (w : World) (mg : Str → Option Value) (fa : Addr) (h : Heap), YP w h → h.Ns mainGlobals mg → mg d.name = some (.ref fa) →
      ∃ (K : PySem.W.Frag) (fd : FuncData) (m : Md) (dl : List T → R T), K.In h ∧ (∀ (s : Shared) (u : Value), BindsTo s fd ⟨[u], []⟩ [(x, u)]) ∧ (∀ ns : List Int, ns.length ≤ n → dl [.scr ns] = .ok (.bl true)) ∧
        ∀ base : Heap, K.In base → base.Ns mainGlobals mg → FnG l.prog w K mg base k fa fd [x] (spD K 1 m dl)) :
    PySem.W.WalkO q loose XP YP l.row.toRowW d [] (fun f vs => PySem.call f vs) := by
  refine Att.attach_call hn hdf fun w s0 s1 mg mb fa o pm cd doc a vs ns G Y ho hd hcd hmg hobj hints hlen hg => ?_
  obtain ⟨K, fd, m, dl, inK, bi, tr, FF⟩ := F w mg fa _ Y G.T.g hmg
  exact lawG inK G.T.g G.T.b G.T.builtins G.T.nolimit hg hobj hints (Nat.le_trans hlen hn2) hr FF bi (tr ns hlen)
end DL
set_option maxHeartbeats 1000000
namespace DL
open PySem PySem.Spec PyProof.Rows L2
structure Bi (mg : Str → Option Value) : Prop where
  len : mg "len" = none
  isinstance : mg "isinstance" = none
  range : mg "range" = none
  zip : mg "zip" = none
  enumerate : mg "enumerate" = none
  int_ : mg "int" = none
  bool_ : mg "bool" = none
  str_ : mg "str" = none
  list_ : mg "list" = none
  tuple_ : mg "tuple" = none
  dict_ : mg "dict" = none
  max_ : mg "max" = none
  min_ : mg "min" = none
  all_ : mg "all" = none
  any_ : mg "any" = none
  sum_ : mg "sum" = none
  abs_ : mg "abs" = none
  repr_ : mg "repr" = none
  sorted_ : mg "sorted" = none
  set_ : mg "set" = none
section
variable {P : Program} {w : World} {K : PySem.W.Frag} {mg : Str → Option Value} {base : Heap} {k : Nat} {x qual : Str} {params : Arguments} {body : List Stmt} {scope : Scope} {N prs : List Str} {m : Md} {d : Lo → Fl}
theorem gf_of (F : ∃ fd, FunD K x qual params body scope [] [] (He.ga K x) fd) (hx : mg x = some (.ref (He.ga K x))) (Sc : FnScope N prs scope) (hm : m ≠ .w)
    (hbi : ∀ (kV doc pm : Value) (an : Option Addr) (cdv ct : Value) (us : List Value), us.length = prs.length → bindArgs (PySem.W.fnOf x qual params body scope .none kV doc pm an cdv ct) ⟨us, []⟩ = pure (prs.zip us))
    (hb : ∀ (cdv : Value) (A : Around) (outer : List PySem.Env) (s : Shared) (H : Hp) (E : XK) (S0 : Addr → Prop), Cn (cxOf (L2.CX P w) P w K mg base N qual scope (He.ga K x) cdv A outer s H E) (fun cls dd _ H' => E cls dd H') k →
      PSs (cxOf (L2.CX P w) P w K mg base N qual scope (He.ga K x) cdv A outer s H E) body (tS m K S0 H (fun cls dd _ H' => E cls dd H') d)) :
    GF P w K mg base (k + 1) x prs.length m (dFn N.length d) := by
  obtain ⟨fd, F⟩ := F
  exact ⟨_, fd, prs, rfl, hx, F.kp, F.bindsN hbi, fn_G F Sc hm hb⟩
end
section
variable {X : Cx} {e a b : Expr} {S S0 : Addr → Prop} {H0 : Hp} {W : WX} {d da db : Lo → R T} {c : Lo → R Bool} {pos : Pos} {m ma mb : Md} {k : Nat}
theorem e_one {op : BoolOp} (h : PE X a (tG m X.K S0 H0 W d)) : PE X (.BoolOp op [a] pos) (tG m X.K S0 H0 W d) := pe_one h
theorem e_dict0 : PE X (.Dict [] [] pos) (tG .f X.K S0 H0 W (dC (.dic []))) := pe_imp pe_dnewK fun σ H Q ⟨ev, ps, r, z⟩ p hp =>
  z _ _ (same_upd hp) (.inr ⟨p, rfl, hp, .dic upd_same .nil⟩)
end
end DL
set_option maxHeartbeats 1000000
namespace DL
open PySem PySem.Spec PyProof.Rows L2
section
variable {P : Program} {w : World} {K : PySem.W.Frag} {mg : Str → Option Value} {base : Heap} {k : Nat} {x qual : Str} {params : Arguments} {body : List Stmt} {scope : Scope} {prs : List Str} {m : Md}
end
end DL
set_option maxHeartbeats 1000000
namespace DL
open PySem PySem.Spec PyProof.Rows L2
def sWp (w : List Nat) (d : Lo → Fl) : Lo → Fl := fun ev => d (wipeL w ev)
def Fl.wp (w : List Nat) : Fl → Fl
  | .nx ev => .nx (wipeL w ev)
  | .bk ev => .bk (wipeL w ev)
  | .ct ev => .ct (wipeL w ev)
  | r => r
def sWe (w : List Nat) (d : Lo → Fl) : Lo → Fl := fun ev => (d ev).wp w
section
variable {X : Cx} {e a b : Expr} {stm : Stmt} {rest : List Stmt} {S S0 : Addr → Prop} {H0 : Hp} {W : WX} {d da db : Lo → R T} {c : Lo → R Bool} {d1 : Lo → Fl} {pos : Pos} {m ma mb : Md} {k : Nat}
end
section
variable {K : PySem.W.Frag} {S0 : Addr → Prop} {H0 H : Hp} {ps : List (V × T)} {σ : L2.St} {ev : Lo}
theorem Rp.forget (w : List Nat) (r : Rp K S0 H0 ps σ H ev) : Rp K S0 H0 ps σ H (wipeL w ev) := by
  have own : ∀ {a : Addr}, Own σ (wipeL w ev) a → Own σ ev a := fun {a} ⟨i, t, h1, h2⟩ => ⟨i, t, (wipeL_some h1).1, h2⟩
  have mv : Mv (Sx S0 σ ev) (Sx S0 σ (wipeL w ev)) H H := mv_less fun a z => z.elim .inl fun y => .inr (own y)
  refine ⟨r.same, r.s0, fun i t h => ?_, fun i t h => ?_, fun i j t u a h1 h2 h3 h4 => ?_, fun p hp => (r.pin p hp).mv mv, by rw [wipeL_len]; exact r.len⟩
  · obtain ⟨v, h1, h2⟩ := r.frz i t (wipeL_some h).1
    exact ⟨v, h1, h2.mv mv⟩
  · obtain ⟨a, h1, h2, h3, c⟩ := r.own i t (wipeL_some h).1
    exact ⟨a, h1, h2, h3, c.mv mv rfl⟩
  · exact r.inj i j t u a (wipeL_some h1).1 (wipeL_some h2).1 h3 h4
end
section
variable {X : Cx} {e a b : Expr} {stm : Stmt} {rest : List Stmt} {S S0 : Addr → Prop} {H0 : Hp} {W : WX} {d da db : Lo → R T} {c : Lo → R Bool} {d1 : Lo → Fl} {pos : Pos} {m ma mb : Md} {k : Nat}
theorem wp0 (w : List Nat) (h : PS X stm (tS m X.K S0 H0 W d1)) : PS X stm (tS m X.K S0 H0 W (sWp w d1)) := ps_imp h fun D σ H ⟨ev, ps, r, z⟩ => ⟨wipeL w ev, ps, r.forget w, z⟩
theorem wpe (w : List Nat) (h : PSs X rest (tS m X.K S0 H0 W d1)) : PSs X rest (tS m X.K S0 H0 W (sWe w d1)) := pss_imp h fun D σ H ⟨ev, ps, r, z⟩ => by
  refine ⟨ev, ps, r, ?_⟩
  unfold sWe at z
  cases e : d1 ev with
  | nx ev' => rw [e] at z; exact fun σ' H' r' => z σ' H' (r'.forget w)
  | bk ev' => rw [e] at z; exact fun σ' H' r' => z σ' H' (r'.forget w)
  | ct ev' => rw [e] at z; exact fun σ' H' r' => z σ' H' (r'.forget w)
  | rt t => rw [e] at z; exact z
  | ex c fs ev' => rw [e] at z; exact z
  | bad => rw [e] at z; exact z
def relI (i : Nat) (ev : Lo) : Lo := match ev[i]? with
  | some (some (t, true)) => ev.set i (some (t, false))
  | _ => ev
def sFz (i : Nat) (d : Lo → Fl) : Lo → Fl := fun ev => match d ev with
  | .nx e => .nx (relI i e)
  | r => r
theorem Rp.relI {K : PySem.W.Frag} {H : Hp} {ps : List (V × T)} {σ : L2.St} {ev : Lo} {H0 : Hp} (i : Nat) (r : Rp K S0 H0 ps σ H ev) : Rp K S0 H0 ps σ H (DL.relI i ev) := by
  unfold DL.relI
  split
  · rename_i t e; exact r.release e
  · exact r
theorem fz (i : Nat) (h : PS X stm (tS m X.K S0 H0 W d1)) : PS X stm (tS m X.K S0 H0 W (sFz i d1)) := ps_imp h fun D σ H ⟨ev, ps, r, z⟩ => by
  refine ⟨ev, ps, r, ?_⟩
  unfold sFz at z
  cases e : d1 ev with
  | nx ev' => rw [e] at z; exact fun σ' H' r' => z σ' H' (r'.relI i)
  | _ => rw [e] at z; exact z
def insI (x : Int) : List Int → List Int
  | [] => [x]
  | y :: ys => if x ≤ y then x :: y :: ys else y :: insI x ys
def sortI (xs : List Int) : List Int := xs.foldr insI []
def lexLe : List Int → List Int → Bool
  | [], _ => true
  | _ :: _, [] => false
  | x :: xs, y :: ys => if x = y then lexLe xs ys else decide (x < y)
def insL (x : List Int) : List (List Int) → List (List Int)
  | [] => [x]
  | y :: ys => if lexLe x y = true then x :: y :: ys else y :: insL x ys
def sortL (xs : List (List Int)) : List (List Int) := xs.foldr insL []
def tups : List T → Option (List (List Int))
  | [] => some []
  | .tup us :: ts => match nums us, tups ts with
    | some ks, some kss => some (ks :: kss)
    | _, _ => none
  | _ => none
def okTups (kss : List (List Int)) : Bool := match kss with
  | [] => true
  | k :: _ => decide (1 ≤ k.length) && kss.all fun ks => ks.length == k.length && ks.all fun i => decide (0 ≤ i) && decide (i < 1000000000000000000000000000000)
def sorted1L : List T → Option T
  | [.lst ts] => match nums ts with
    | some ns => some (.lst ((sortI ns).map .int))
    | none => (tups ts).bind fun kss => if kss.length ≤ 4000 ∧ okTups kss = true then some (.lst ((sortL kss).map fun ks => .tup (ks.map .int))) else none
  | _ => none
def dedI : List Int → List Int
  | [] => []
  | x :: xs => if x ∈ xs then dedI xs else x :: dedI xs
def flT : T → Bool
  | .non => true
  | .bl _ => true
  | .int _ => true
  | .str _ => true
  | _ => false
def eqF : T → T → Bool
  | .non, .non => true
  | .bl a, .bl b => a == b
  | .bl a, .int b => (if a then 1 else 0) == b
  | .int a, .bl b => a == (if b then 1 else 0)
  | .int a, .int b => a == b
  | .str a, .str b => a == b
  | _, _ => false
def inG (n : Bool → Bool) (x : T) : T → Option T
  | .lst xs => if flT x = true ∧ xs.all flT = true then some (.bl (n (xs.any fun y => eqF y x))) else none
  | .tup xs => if flT x = true ∧ xs.all flT = true then some (.bl (n (xs.any fun y => eqF y x))) else none
  | .str z => match x with
    | .str y => if y.cps.size = 1 then some (.bl (n (decide (y.cps.getD 0 0 ∈ z.cps.toList)))) else none
    | _ => none
  | _ => none
def inT : T → T → Option T := inG id
def ninT : T → T → Option T := inG not
theorem fl_v {K : PySem.W.Frag} {H : Hp} {v : V} {t : T} (p : IsT K S H v t) (h : flT t = true) : flatV v = true := by
  cases p with
  | non => rfl
  | bl b => rfl
  | int i => rfl
  | str x => rfl
  | _ => cases h
theorem fl_vs {K : PySem.W.Frag} {H : Hp} : ∀ {vs : List V} {ts : List T}, IsTs K S H vs ts → ts.all flT = true → vs.all flatV = true
  | _, _, .nil, _ => rfl
  | _, _, .cons p r, h => by
    rw [List.all_cons, Bool.and_eq_true] at h ⊢
    exact ⟨fl_v p h.1, fl_vs r h.2⟩
theorem eq_v {K : PySem.W.Frag} {H : Hp} {v w : V} {t u : T} (p : IsT K S H v t) (q : IsT K S H w u) (h : flT t = true) (g : flT u = true) : eqV v w = eqF t u := by
  cases p <;> first | (cases h; done) | (cases q <;> first | (cases g; done) | rfl)
theorem any_v {K : PySem.W.Frag} {H : Hp} {w : V} {u : T} (q : IsT K S H w u) (g : flT u = true) : ∀ {vs : List V} {ts : List T}, IsTs K S H vs ts → ts.all flT = true → (vs.any fun y => eqV y w) = ts.any fun y => eqF y u
  | _, _, .nil, _ => rfl
  | _, _, .cons p r, h => by
    rw [List.all_cons, Bool.and_eq_true] at h
    rw [List.any_cons, List.any_cons, eq_v p q h.1 g, any_v q g r h.2]
theorem Pm.flat {K : PySem.W.Frag} {H H' : Hp} {v : V} {t : T} (p : Pm K .w S H H' v t) (h : flT t = true) : IsT K S H' v t := by
  rcases p with p | ⟨a, _, c⟩
  · exact p
  · cases c <;> cases h
theorem in_imp {neg : Bool} {n : Bool → Bool} (hn : ∀ b, n b = if neg then !b else b) :
    ∀ (S : Addr → Prop) (H : Hp) (x y : V) (t u w : T) (Q : VK), (∀ a, S a → Mu H a) → Pm X.K .w S H H x t → Pm X.K .w S H H y u → inG n t u = some w → (∀ v H', Same H H' → Pm X.K .f S H H' v w → Q v H') →
      (fun x y H Q => rIn X.K neg x y H Q ∨ ∃ (c : Nat) (z : Str), x = .str ⟨#[c]⟩ ∧ y = .str z ∧ Q (.bl (if neg then !decide (c ∈ z.cps.toList) else decide (c ∈ z.cps.toList))) H : R2) x y H Q := fun S H x y t u w Q hs p q e z => by
  have key : ∀ {a : Addr} {vs : List V} {ts : List T}, y = .ref a → (SqL X.K H a vs ∨ SqT X.K H a vs) → IsTs X.K S H vs ts → (if flT t = true ∧ ts.all flT = true then some (T.bl (n (ts.any fun y => eqF y t))) else none) = some w → rIn X.K neg x y H Q := fun {a vs ts} ey hq r e => by
    obtain ⟨⟨h1, h2⟩, rfl⟩ := some_if e
    have px := p.flat h1
    refine ⟨a, vs, ey, hq, fl_v px h1, fl_vs r h2, ?_⟩
    unfold inV
    rw [any_v px h1 r h2, ← hn]
    exact z _ _ (Same.refl _) (one_bl _)
  cases u with
  | lst ts =>
    obtain ⟨a, vs, ey, h, r⟩ := q.lst
    exact .inl (key ey (.inl (SqL.of h)) r e)
  | tup ts =>
    obtain ⟨a, vs, ey, h, r⟩ := q.tup
    exact .inl (key ey (.inr h.sq) r e)
  | str g =>
    cases t with
    | str y' =>
      have e' : (if y'.cps.size = 1 then some (T.bl (n (decide (y'.cps.getD 0 0 ∈ g.cps.toList)))) else none) = some w := e
      obtain ⟨h1, rfl⟩ := some_if e'
      have hx := p.str
      have hy := q.str
      obtain ⟨cps⟩ := y'
      obtain ⟨c, rfl⟩ : ∃ c, cps = #[c] := by
        obtain ⟨l⟩ := cps
        match l, h1 with
        | [c], _ => exact ⟨c, rfl⟩
        | [], h1 => simp at h1
        | _ :: _ :: _, h1 => simp at h1
      refine .inr ⟨c, g, hx, hy, ?_⟩
      rw [← hn]
      exact z _ _ (Same.refl _) (one_bl _)
    | _ => cases e
  | _ => cases e
theorem op_inG : OpR X (compareOp .In) (fun x y H Q => rIn X.K false x y H Q ∨ ∃ (c : Nat) (z : Str), x = .str ⟨#[c]⟩ ∧ y = .str z ∧ Q (.bl (if false = true then !decide (c ∈ z.cps.toList) else decide (c ∈ z.cps.toList))) H) := op_in_seq.or op_in_sign
theorem op_ninG : OpR X (compareOp .NotIn) (fun x y H Q => rIn X.K true x y H Q ∨ ∃ (c : Nat) (z : Str), x = .str ⟨#[c]⟩ ∧ y = .str z ∧ Q (.bl (if true = true then !decide (c ∈ z.cps.toList) else decide (c ∈ z.cps.toList))) H) := op_notIn_seq.or op_notIn_sign
theorem t_in (cn : Cn X W k) (ha : PE X a (tG .w X.K S0 H0 W da)) (hb : PE X b (tG .w X.K S0 H0 W db)) (hm : behindInMarks .In b = false := by rfl) : PT X (.Compare a [.In] [b] pos) (tB X.K S0 H0 W (dTest (d2 inT da db))) := t_cmp op_inG (in_imp fun _ => rfl) ha hb hm
theorem e_nin (cn : Cn X W k) (ha : PE X a (tG .w X.K S0 H0 W da)) (hb : PE X b (tG .w X.K S0 H0 W db)) (hm : behindInMarks .NotIn b = false := by rfl) : PE X (.Compare a [.NotIn] [b] pos) (tG .f X.K S0 H0 W (d2 ninT da db)) := e_cmp op_ninG (in_imp fun _ => rfl) ha hb hm
end
def revT : T → Option T
  | .lst xs => some (.lst xs.reverse)
  | .scr ns => some (.lst (ns.reverse.map .int))
  | _ => none
def SysK (K : PySem.W.Frag) : Prop := ∃ o, K.lookup sysModules = some o ∧ o.cls = .type "dict"
def sysB (K : PySem.W.Frag) : Bool := match K.lookup sysModules with
  | some o => decide (o.cls = .type "dict")
  | none => false
theorem sysB_ok {K : PySem.W.Frag} (h : sysB K = true) : SysK K := by
  unfold sysB at h
  cases e : K.lookup sysModules with
  | none => rw [e] at h; cases h
  | some o => rw [e] at h; exact ⟨o, e, of_decide_eq_true h⟩
mutual
inductive Dq (K : PySem.W.Frag) (H : Hp) : V → PyData → Prop
  | non : Dq K H .non .none
  | bl (b : Bool) : Dq K H (.bl b) (.bool b)
  | int (i : Int) : Dq K H (.int i) (.int i)
  | str (x : Str) : Dq K H (.str x) (.str x)
  | lst {a : Addr} {vs : List V} {es : List PyData} (h : SqL K H a vs) (r : DqAll K H vs es) : Dq K H (.ref a) (.list es)
  | tup {a : Addr} {vs : List V} {es : List PyData} (h : SqT K H a vs) (r : DqAll K H vs es) : Dq K H (.ref a) (.tuple es)
  | dic {a : Addr} (h : H a = some (.dK [])) : Dq K H (.ref a) (.dict [])
  | dic1 {a : Addr} {i : Int} {v : V} {e : PyData} (h : H a = some (.dK [(.inl i, v)])) (r : Dq K H v e) : Dq K H (.ref a) (.dict [(.int i, e)])
inductive DqAll (K : PySem.W.Frag) (H : Hp) : List V → List PyData → Prop
  | nil : DqAll K H [] []
  | cons {v : V} {vs : List V} {e : PyData} {es : List PyData} (h : Dq K H v e) (r : DqAll K H vs es) : DqAll K H (v :: vs) (e :: es)
end
section
variable {X : Cx} {pins : List (Addr × Obj)} {σ : L2.St} {H : Hp} {s : Shared}
mutual
theorem Dq.reads (I : Inv X pins σ H s) (sk : SysK X.K) : ∀ (e : PyData) (v : V) (u : Value), Dq X.K H v e → RelV v u → ∃ as, Reads s.heap u e as ∧ sysModules ∉ as
  | .none, _, _, .non, r => by cases r; exact ⟨_, .none, by simp⟩
  | .bool b, _, _, .bl _, r => by cases r; exact ⟨_, .bool b, by simp⟩
  | .int i, _, _, .int _, r => by obtain ⟨t, rfl⟩ := r; exact ⟨_, .int i t, by simp⟩
  | .str x, _, _, .str _, r => by obtain ⟨t, rfl⟩ := r; exact ⟨_, .str x t, by simp⟩
  | .list es, _, _, .lst h q, r => by
    cases r
    obtain ⟨its, rv, ⟨o, n, ho, hc, _, hd⟩, _⟩ := I.list h
    obtain ⟨as, hr, ns⟩ := Dq.readsAll I sk es _ its q rv
    refine ⟨_, .list ho hc hd hr, fun z => ?_⟩
    rcases List.mem_cons.mp z with z | z
    · obtain ⟨o', h1, h2⟩ := sk
      have h3 := I.kIn _ _ h1
      rw [z, ho] at h3
      cases h3
      exact absurd (Value.type.inj (hc.symm.trans h2)) (by decide)
    · exact ns z
  | .tuple es, _, _, .tup h q, r => by
    cases r
    obtain ⟨its, rv, ⟨o, ho, hc, n, hd⟩, _⟩ := I.tuple h
    obtain ⟨as, hr, ns⟩ := Dq.readsAll I sk es _ its q rv
    exact ⟨_, .tuple ho hc hd hr, ns⟩
  | .dict [(.int i, e)], _, _, .dic1 h q, r => by
    cases r
    obtain ⟨_, nsys, vs, kv, o, es, ep, ho, hx, hd, _, hp, _⟩ := (show ObjOk X.prog X.w H s.heap _ (.dK [(.inl i, _)]) from I.hok _ _ h)
    cases kv with
    | @cons _ kq _ _ k0 kr =>
    cases kr
    obtain ⟨kk, u⟩ := kq
    obtain ⟨k1, k2⟩ := k0
    obtain ⟨as, hr, ns⟩ := Dq.reads I sk e _ _ q k2
    have e0 : ∃ d : DictEntry, es.toList = [d] ∧ (mixKind X.prog X.w).is kk d.key = true ∧ d.val = u := by
      generalize es.toList = l at hp
      cases hp with
      | @cons d _ _ _ a1 a2 a3 => cases a3; exact ⟨d, rfl, a1, a2⟩
    obtain ⟨d, e1, e2, e3⟩ := e0
    have k1 : Sum.inl i = kk := k1
    subst k1
    obtain ⟨t, e4⟩ : ∃ t, d.key = Value.int i t := by
      rcases L2.keyIs_shape (show L2.keyIs (Sum.inl i) d.key = true from e2) with ⟨j, t, a1, a2⟩ | ⟨x, t, a1, a2⟩
      · cases a1; exact ⟨t, a2⟩
      · cases a1
    refine ⟨_, .dict (as := []) (bs := as) ho hx.1 hd ?_ ?_, fun z => ?_⟩
    · rw [e1]
      show ReadsAll s.heap [d.key] [.int i] ([] ++ [])
      rw [e4]; exact .cons (.int i t) .nil
    · rw [e1]
      show ReadsAll s.heap [d.val] [e] as
      rw [e3, ← List.append_nil as]; exact .cons hr .nil
    · rcases List.mem_cons.mp z with z | z
      · rw [z] at nsys
        simp at nsys
      · exact ns z
  | .dict [], _, _, .dic h, r => by
    cases r
    obtain ⟨_, nsys, vs, kv, o, es, ep, ho, hx, hd, _, hp, _⟩ := (show ObjOk X.prog X.w H s.heap _ (.dK []) from I.hok _ _ h)
    cases kv
    have e0 : es.toList = [] := by
      generalize es.toList = l at hp
      cases hp
      rfl
    refine ⟨_, .dict (as := []) (bs := []) ho hx.1 hd ?_ ?_, fun z => ?_⟩
    · rw [e0]; exact .nil
    · rw [e0]; exact .nil
    · rw [List.append_nil, List.mem_singleton] at z
      rw [z] at nsys
      simp at nsys
theorem Dq.readsAll (I : Inv X pins σ H s) (sk : SysK X.K) : ∀ (es : List PyData) (vs : List V) (us : List Value), DqAll X.K H vs es → Vals vs us → ∃ as, ReadsAll s.heap us es as ∧ sysModules ∉ as
  | [], _, _, .nil, r => by cases r; exact ⟨_, .nil, by simp⟩
  | e :: es, _, _, .cons h q, r => by
    cases r with
    | cons r1 r2 =>
      obtain ⟨as, a1, n1⟩ := Dq.reads I sk e _ _ h r1
      obtain ⟨bs, a2, n2⟩ := Dq.readsAll I sk es _ _ q r2
      exact ⟨_, .cons a1 a2, fun z => (List.mem_append.mp z).elim n1 n2⟩
end
end
mutual
def plR : T → Bool
  | .non => true
  | .bl _ => true
  | .int _ => true
  | .str _ => true
  | .lst xs => plRs xs
  | .tup xs => plRs xs
  | .scr _ => true
  | .dic [] => true
  | .dic [(.inl _, t)] => plR t
  | _ => false
def plRs : List T → Bool
  | [] => true
  | t :: ts => plR t && plRs ts
end
section
variable {K : PySem.W.Frag} {S : Addr → Prop} {H H' : Hp}
theorem dqInts : ∀ ns : List Int, DqAll K H (ns.map V.int) (ns.map PyData.int)
  | [] => .nil
  | n :: ns => .cons (.int n) (dqInts ns)
mutual
theorem IsT.dq : ∀ {v : V} {t : T}, IsT K S H v t → plR t = true → Dq K H v (py t)
  | _, _, .non, _ => by unfold py; exact .non
  | _, _, .bl b, _ => by unfold py; exact .bl b
  | _, _, .int i, _ => by unfold py; exact .int i
  | _, _, .str x, _ => by unfold py; exact .str x
  | _, _, .lst n h r, p => by unfold py; unfold plR at p; exact .lst (SqL.of h) (IsTs.dq r p)
  | _, _, .tup h r, p => by unfold py; unfold plR at p; exact .tup h.sq (IsTs.dq r p)
  | _, _, .dic _ h r, p => IsKs.dq r p h
  | _, _, .dit _ _ _, p => by simp [plR] at p
  | _, _, .exc0 _ _, p => by simp [plR] at p
  | _, _, .exc _ _ _ _ _, p => by simp [plR] at p
  | _, _, .scr h, _ => by unfold py; exact .lst h.sq (dqInts _)
  | _, _, .ins _ _ _, p => by simp [plR] at p
theorem IsKs.dq {a : Addr} : ∀ {vs : List (Key × V)} {ts : List (Key × T)}, IsKs K S H vs ts → plR (.dic ts) = true → H a = some (.dK vs) → Dq K H (.ref a) (py (.dic ts))
  | _, _, .nil, _, h => by unfold py; exact .dic h
  | _, _, .cons (k := k) (t := t) q r, p, h => by
    cases r with
    | nil =>
      cases k with
      | inl i =>
        unfold plR at p
        unfold py
        exact .dic1 h (IsT.dq q p)
      | inr x => simp [plR] at p
    | cons _ _ => simp [plR] at p
theorem IsTs.dq : ∀ {vs : List V} {ts : List T}, IsTs K S H vs ts → plRs ts = true → DqAll K H vs (pys ts)
  | _, _, .nil, _ => by unfold pys; exact .nil
  | _, _, .cons h r, p => by
    unfold plRs at p
    unfold pys
    have q := Bool.and_eq_true_iff.mp p
    exact .cons (IsT.dq h q.1) (IsTs.dq r q.2)
end
theorem Pm.dq {v : V} {t : T} (p : Pm K .w S H H' v t) (h : plR t = true) : Dq K H' v (py t) := by
  rcases p with p | ⟨a, rfl, c⟩
  · exact p.dq h
  · cases c with
    | lst g r => unfold py; unfold plR at h; exact .lst (SqL.of g) (r.dq h)
    | dic g r =>
      cases r with
      | nil => unfold py; exact .dic g
      | @cons k _ t _ _ q r =>
        cases r with
        | nil =>
          cases k with
          | inl i =>
            unfold plR at h
            unfold py
            exact .dic1 g (q.dq h)
          | inr x => simp [plR] at h
        | cons _ _ => simp [plR] at h
    | dit g r => simp [plR] at h
end
section
variable {X : Cx} {e a b : Expr} {S S0 : Addr → Prop} {H0 : Hp} {W : WX} {d da db : Lo → R T} {pos : Pos} {m ma mb : Md} {k : Nat}
theorem IsTs.rev {K : PySem.W.Frag} {H : Hp} : ∀ {vs : List V} {ts : List T}, IsTs K S H vs ts → IsTs K S H vs.reverse ts.reverse
  | _, _, .nil => .nil
  | _, _, .cons h r => by rw [List.reverse_cons, List.reverse_cons]; exact (IsTs.rev r).app (.cons h .nil)
theorem e_rev {j : Nat} {p1 p2 p3 : Pos} (ha : PE X e (tG .w X.K S0 H0 W d)) : PE X (.Subscript e (.Slice none none (some (.UnaryOp .USub (.Constant (.int 1) j p1) p2)) p3) pos) (tG .f X.K S0 H0 W (d1 revT d)) :=
  pe_imp (pe_revL ha) fun σ H Q h => im1 (r := fun x H1 Q => ∃ a xs, x = .ref a ∧ SqL X.K H1 a xs ∧ ∀ p, H1 p = none → Q (.ref p) (upd H1 p (.lst xs.reverse))) (fun S H x t w Q hs p e z => by
    cases t with
    | lst ts =>
      cases e
      obtain ⟨a, xs, rfl, h, r⟩ := p.lst
      exact ⟨a, xs, rfl, SqL.of h, fun n hn => z _ _ (same_upd hn) (new_lst hn r.rev)⟩
    | scr ns =>
      cases e
      obtain ⟨a, rfl, h⟩ := p.scr
      exact ⟨a, _, rfl, h.sq, fun n hn => z _ _ (same_upd hn) (by rw [← List.map_reverse]; exact new_lst hn (scr_ts _))⟩
    | _ => cases e) σ H Q h
def rRepr (K : PySem.W.Frag) : List V → Hp → VK → Prop := fun xs H Q => ∃ v d, xs = [v] ∧ Dq K H v d ∧ d.showable = true ∧ d.depth ≤ 60 ∧ d.shown.length ≤ sizeLine ∧ Q (.str d.shown) H
theorem cr_repr (sk : SysK X.K) (hg : X.A.guards = some []) (hu : X.A.units + 64 < cLine) : CallR X (.builtin "repr") (rRepr X.K) := by
  intro pins s σ H xs us Q I r h
  obtain ⟨v, d, rfl, hd, hs, hdp, hz, q⟩ := h
  obtain ⟨u, rfl, ru⟩ := vals1 r
  obtain ⟨as, rd, ns⟩ := hd.reads I sk d v u ru
  cases hd with
  | non => cases ru; exact PySem.P.repr_of_none ⟨.str _, H, I.tok _, ⟨_, rfl⟩, q⟩
  | bl b => cases ru; exact PySem.P.repr_of_bool ⟨.str _, H, I.tok _, ⟨_, rfl⟩, q⟩
  | int i =>
    obtain ⟨t, rfl⟩ := ru
    exact PySem.P.repr_of_int (of_decide_eq_true hs) ⟨.str _, H, I.tok _, ⟨_, rfl⟩, q⟩
  | str x =>
    obtain ⟨t, rfl⟩ := ru
    exact PySem.P.repr_of_str ⟨.str _, H, I.tok _, ⟨_, rfl⟩, q⟩ hz
  | lst g1 g2 =>
    cases ru
    exact repr_of_reads' rd hs (fun _ => ns) hg (by omega) (fun _ _ e => e) (fun h' u tk hk => ⟨.str _, H, I.kept hk, ⟨_, rfl⟩, q⟩) hz
  | tup g1 g2 =>
    cases ru
    exact repr_of_reads' rd hs (fun _ => ns) hg (by omega) (fun _ _ e => e) (fun h' u tk hk => ⟨.str _, H, I.kept hk, ⟨_, rfl⟩, q⟩) hz
  | dic1 g1 g2 =>
    cases ru
    exact repr_of_reads' rd hs (fun _ => ns) hg (by omega) (fun _ _ e => e) (fun h' u tk hk => ⟨.str _, H, I.kept hk, ⟨_, rfl⟩, q⟩) hz
  | dic g1 =>
    cases ru
    exact repr_of_reads' rd hs (fun _ => ns) hg (by omega) (fun _ _ e => e) (fun h' u tk hk => ⟨.str _, H, I.kept hk, ⟨_, rfl⟩, q⟩) hz
def okR (t : T) : Bool := plR t && ((py t).showable && (decide ((py t).depth ≤ 60) && decide ((py t).shown.length ≤ sizeLine)))
def reprL : List T → Option T
  | [t] => if okR t = true then some (.str (py t).shown) else none
  | _ => none
theorem b_repr : BOk X.K .f (rRepr X.K) reprL := fun S H vs ts w Q hs p e z => by
  unfold reprL at e
  split at e
  · rename_i t
    obtain ⟨hc, rfl⟩ := some_if e
    obtain ⟨v, rfl, q⟩ := one_w p
    unfold okR at hc
    simp only [Bool.and_eq_true, decide_eq_true_eq] at hc
    obtain ⟨h1, h2, h4, h5⟩ := hc
    exact ⟨v, _, rfl, q.dq h1, h2, h4, h5, z _ _ (Same.refl _) (one_str _)⟩
  · cases e
theorem e_repr {p : Pos} (cn : Cn X W k) (sk : SysK X.K) (hm : X.mg "repr" = none) (ha : PE X e (tG .w X.K S0 H0 W d)) (hg : Gl X "repr" := by rfl) (hs : starEach [e] X.env = (false, eval e X.env) :: starEach [] X.env := by rfl) :
    PE X (.Call (.Name "repr" p) [e] [] pos) (tG .f X.K S0 H0 W (dBlt reprL (dCons d dNil))) := e_blt (cr_repr sk cn.gu cn.room.units) b_repr hm (by decide +kernel) (w_cons ha w_nil hs) hg (he := hs)
def strL : List T → Option T
  | [.int i] => if i.natAbs.log2 < 1920 then some (.str (toString i)) else none
  | _ => none
theorem b_strI : BOk X.K .f (fun xs H Q => ∃ i, xs = [.int i] ∧ i.natAbs.log2 < 1920 ∧ Q (.str (toString i)) H) strL := fun S H vs ts w Q hs p e z => by
  unfold strL at e
  split at e
  · obtain ⟨hc, rfl⟩ := some_if e
    obtain ⟨v, rfl, q⟩ := one_w p
    rw [q.int]
    exact ⟨_, rfl, hc, z _ _ (Same.refl _) (one_str _)⟩
  · cases e
theorem e_str1 {p : Pos} (cn : Cn X W k) (hm : X.mg "str" = none) (ha : PE X e (tG .w X.K S0 H0 W d)) (hg : Gl X "str" := by rfl) (hs : starEach [e] X.env = (false, eval e X.env) :: starEach [] X.env := by rfl) :
    PE X (.Call (.Name "str" p) [e] [] pos) (tG .f X.K S0 H0 W (dBlt strL (dCons d dNil))) := e_bty call_str_int b_strI hm (by decide +kernel) (w_cons ha w_nil hs) hg (he := hs)
end
end DL
set_option maxHeartbeats 4000000
namespace DL
open PySem PySem.Spec PyProof.Rows L2
section
variable {P : Program} {w : World} {A : Around} {E : Value → Shared → Prop} {s : Shared}
end
end DL
set_option maxHeartbeats 2000000
namespace TS
open PySem PyProof.Rows
theorem tupItems_ints : ∀ {xs : List Value} {ns : List Int} (i : Nat), IntsAre xs ns → tupItems (fun _ => false) i xs = some (ns.map Sum.inl)
  | _, _, _, .nil => rfl
  | _, _, i, .cons n t r => by
    unfold tupItems
    rw [if_neg Bool.false_ne_true, tupItems_ints (i + 1) r]
    rfl
theorem lex_code {B : Int} : ∀ {ns ms : List Int}, ns.length = ms.length → Bd B ns → Bd B ms → lexLt itemOrd (ms.map Sum.inl) (ns.map Sum.inl) = false → code B ns ≤ code B ms
  | [], [], _, _, _, _ => Int.le_refl _
  | [], _ :: _, h, _, _, _ => by simp at h
  | _ :: _, [], h, _, _, _ => by simp at h
  | d :: r, e :: q, hl, b1, b2, h => by
    have hl2 : r.length = q.length := by simpa using hl
    have h : (decide (e < d) || (!decide (d < e) && lexLt itemOrd (q.map Sum.inl) (r.map Sum.inl))) = false := h
    simp only [Bool.or_eq_false_iff, Bool.and_eq_false_iff, decide_eq_false_iff_not, Bool.not_eq_false', decide_eq_true_eq] at h
    obtain ⟨h1, h2⟩ := h
    by_cases hd : d < e
    · exact Int.le_of_lt (code_lt hl2 b1.tail b2.tail hd)
    · have : d = e := by omega
      subst this
      have := lex_code (ns := r) (ms := q) hl2 b1.tail b2.tail (h2.resolve_left hd)
      show d * B ^ r.length + code B r ≤ d * B ^ q.length + code B q
      rw [hl2]; omega
theorem tups_of {h : Heap} {d : Nat} {B : Int} (hd : 1 ≤ d) : ∀ {vs : List Value}, TupsOk h d B vs → ∃ fs, TupsOf h (fun _ => false) vs fs
  | [], _ => ⟨[], .nil⟩
  | v :: vs, x => by
    obtain ⟨fs, r⟩ := tups_of hd (vs := vs) fun u hu => x u (List.mem_cons_of_mem _ hu)
    obtain ⟨ns, ⟨a, xs, rfl, ⟨o, ho, hc, n, ht⟩, hi⟩, hl, _⟩ := x v List.mem_cons_self
    obtain ⟨xs⟩ := xs
    cases hi with
    | nil => simp at hl; omega
    | cons k t _ => exact ⟨_, .cons ⟨a, o, _, n, rfl, ho, hc, ht, rfl, fun _ => ⟨k, t, rfl⟩, fun z => by cases z⟩ r⟩
theorem key_ints {h : Heap} {v : Value} {ns : List Int} (t : TupInts h v ns) : G.tupKeyC h (fun _ => false) v = some (ns.map Sum.inl) := by
  obtain ⟨a, xs, rfl, ⟨o, ho, hc, n, ht⟩, hi⟩ := t
  have e : G.isTupObj h (.ref a) = true := by
    unfold G.isTupObj
    simp only [ho, hc]
    rfl
  unfold G.tupKeyC
  rw [if_pos e]
  unfold tupKey
  simp only [ho, ht]
  exact tupItems_ints 0 hi
section
variable {prog : Program} {w : World} {A : Around} {E : Value → Shared → Prop} {s : Shared}
theorem out_ok {d : Nat} {B : Int} {vs : List Value} (x : TupsOk s.heap d B vs) {st' : SortSt} (p : (arrOf st').Perm (pairsOf vs)) (so : SortedToK (G.tupKindC s.heap (fun _ => false)) (arrOf st') (pairsOf vs).size) :
    ((arrOf st').map (·.2)).toList.Perm vs ∧ ((arrOf st').map (·.2)).toList.Pairwise (fun u v => code B (intsOf s.heap u) ≤ code B (intsOf s.heap v)) := by
  constructor
  · have p2 := p.toList.map Prod.snd
    rw [pairsOf_toList, List.map_snd_zip (Nat.le_refl _)] at p2
    rw [Array.toList_map]
    exact p2
  · have mem : ∀ q ∈ (arrOf st').toList, q.1 = q.2 ∧ q.2 ∈ vs := fun q hq => by
      have := p.toList.mem_iff.mp hq
      rw [pairsOf_toList] at this
      have z := mem_zip_self this
      exact ⟨z.1, by rw [← z.1]; exact z.2⟩
    rw [Array.toList_map, List.pairwise_map, List.pairwise_iff_getElem]
    intro i j hi hj hij
    have sz : (arrOf st').size = (pairsOf vs).size := by
      have := p.toList.length_eq
      simpa using this
    have k := so i j (Nat.le_of_lt hij) (by rw [← sz]; simpa using hj)
    obtain ⟨i1, i2⟩ := mem _ (List.getElem_mem hi)
    obtain ⟨j1, j2⟩ := mem _ (List.getElem_mem hj)
    obtain ⟨ns, t1, l1, b1⟩ := x _ i2
    obtain ⟨ms, t2, l2, b2⟩ := x _ j2
    rw [t1.ints, t2.ints]
    have ki : KK (G.tupKindC s.heap (fun _ => false)) (arrOf st') i = ns.map Sum.inl := by
      unfold KK
      rw [← Array.getElem?_toList, List.getElem?_eq_getElem hi]
      show ((G.tupKeyC s.heap (fun _ => false) _).getD _) = _
      rw [i1, key_ints t1]; rfl
    have kj : KK (G.tupKindC s.heap (fun _ => false)) (arrOf st') j = ms.map Sum.inl := by
      unfold KK
      rw [← Array.getElem?_toList, List.getElem?_eq_getElem hj]
      show ((G.tupKeyC s.heap (fun _ => false) _).getD _) = _
      rw [j1, key_ints t2]; rfl
    rw [ki, kj] at k
    exact lex_code (by omega) b1 b2 k
theorem call_sort_tupsAny {a : Addr} {vs : List Value} {n d : Nat} {B : Int} {Q : Value → Shared → Prop} (ho : s.heap.get? a = some (seqObj "list" vs.toArray n)) (hL : vs.length ≤ sizeLine) (hd : 1 ≤ d) (x : TupsOk s.heap d B vs)
    (h : ∀ out : Array Value, out.toList.Perm vs → out.toList.Pairwise (fun u v => code B (intsOf s.heap u) ≤ code B (intsOf s.heap v)) → Q .none { s with heap := sortedHeap s.heap a vs out }) :
    wpAny (model prog w) A (call (.builtin "list.sort") [.ref a]) Q E s := by
  obtain ⟨fs, ht⟩ := tups_of hd x
  refine wpAny_call_entry slot_list_sort ⟨_, ho, rfl⟩ entry_list_sort (G.list_sort_tups ho ht (fun v hv => ?_) hL fun st' p so _ => ⟨_, rfl, h _ (out_ok x p so).1 (out_ok x p so).2⟩) (args_list_sort _)
  obtain ⟨ns, t, _⟩ := x v hv
  exact ⟨_, key_ints t⟩
end
end TS
namespace L2
open PySem PySem.Spec PyProof.Rows
section
variable {X : Cx}
end
end L2
set_option maxHeartbeats 2000000
namespace DL
open PySem PySem.Spec PyProof.Rows L2
def bigB : Int := 1000000000000000000000000000000
theorem insL_perm (x : List Int) : ∀ xs : List (List Int), (insL x xs).Perm (x :: xs)
  | [] => List.Perm.refl _
  | y :: ys => by
    show (if lexLe x y = true then x :: y :: ys else y :: insL x ys).Perm _
    split
    · exact List.Perm.refl _
    · exact ((insL_perm x ys).cons y).trans (List.Perm.swap x y ys)
theorem sortL_perm : ∀ xs : List (List Int), (sortL xs).Perm xs
  | [] => List.Perm.refl _
  | x :: xs => (insL_perm x (sortL xs)).trans ((sortL_perm xs).cons x)
theorem lex_code {d : Nat} : ∀ {x y : List Int}, x.length = d → y.length = d → TS.Bd bigB x → TS.Bd bigB y → (lexLe x y = true ↔ TS.code bigB x ≤ TS.code bigB y) := by
  induction d with
  | zero =>
    intro x y h1 h2 _ _
    have e1 := List.length_eq_zero_iff.mp h1
    have e2 := List.length_eq_zero_iff.mp h2
    subst e1 e2
    exact ⟨fun _ => Int.le_refl _, fun _ => rfl⟩
  | succ d ih =>
    intro x y h1 h2 b1 b2
    match x, y, h1, h2 with
    | a :: r, b :: q, h1, h2 =>
      have l1 : r.length = d := by simpa using h1
      have l2 : q.length = d := by simpa using h2
      have c1 : TS.Bd bigB r := fun m hm => b1 m (by simp [hm])
      have c2 : TS.Bd bigB q := fun m hm => b2 m (by simp [hm])
      show (if a = b then lexLe r q else decide (a < b)) = true ↔ _
      by_cases e : a = b
      · subst e
        rw [if_pos rfl, ih l1 l2 c1 c2]
        have := TS.code_same (B := bigB) (d := a) (r := q) (q := r) (by omega)
        constructor
        · intro h; exact Int.not_lt.mp fun z => absurd (this.mp z) (by omega)
        · intro h; exact Int.not_lt.mp fun z => absurd (this.mpr z) (by omega)
      · rw [if_neg e, decide_eq_true_iff]
        constructor
        · intro h; exact Int.le_of_lt (TS.code_lt (by omega) c1 c2 h)
        · intro h
          rcases Int.lt_trichotomy a b with c | c | c
          · exact c
          · exact absurd c e
          · have := TS.code_lt (B := bigB) (show q.length = r.length by omega) c2 c1 c
            omega
theorem code_eq {d : Nat} {x y : List Int} (h1 : x.length = d) (h2 : y.length = d) (b1 : TS.Bd bigB x) (b2 : TS.Bd bigB y) (h : TS.code bigB x = TS.code bigB y) : x = y := by
  induction d generalizing x y with
  | zero => rw [List.length_eq_zero_iff.mp h1, List.length_eq_zero_iff.mp h2]
  | succ d ih =>
    match x, y, h1, h2 with
    | a :: r, b :: q, h1, h2 =>
      have l1 : r.length = d := by simpa using h1
      have l2 : q.length = d := by simpa using h2
      have c1 : TS.Bd bigB r := fun m hm => b1 m (by simp [hm])
      have c2 : TS.Bd bigB q := fun m hm => b2 m (by simp [hm])
      rcases Int.lt_trichotomy a b with c | c | c
      · have := TS.code_lt (B := bigB) (show r.length = q.length by omega) c1 c2 c; omega
      · subst c
        have s1 := TS.code_same (B := bigB) (d := a) (r := r) (q := q) (by omega)
        have s2 := TS.code_same (B := bigB) (d := a) (r := q) (q := r) (by omega)
        have : TS.code bigB r = TS.code bigB q := by
          rcases Int.lt_trichotomy (TS.code bigB r) (TS.code bigB q) with k | k | k
          · have := s1.mpr k; omega
          · exact k
          · have := s2.mpr k; omega
        rw [ih l1 l2 c1 c2 this]
      · have := TS.code_lt (B := bigB) (show q.length = r.length by omega) c2 c1 c; omega
def FitL (d : Nat) (kss : List (List Int)) : Prop := ∀ ks ∈ kss, ks.length = d ∧ TS.Bd bigB ks
theorem insL_code {d : Nat} {x : List Int} (hx : x.length = d ∧ TS.Bd bigB x) : ∀ {xs : List (List Int)}, FitL d xs → xs.Pairwise (fun a b => TS.code bigB a ≤ TS.code bigB b) → (insL x xs).Pairwise fun a b => TS.code bigB a ≤ TS.code bigB b
  | [], _, _ => by simp [insL]
  | y :: ys, f, h => by
    obtain ⟨h1, h2⟩ := List.pairwise_cons.mp h
    have fy := f y (by simp)
    have lc := lex_code hx.1 fy.1 hx.2 fy.2
    show (if lexLe x y = true then x :: y :: ys else y :: insL x ys).Pairwise _
    split
    · rename_i hl
      refine List.pairwise_cons.mpr ⟨fun z hz => ?_, h⟩
      rcases List.mem_cons.mp hz with e | e
      · rw [e]; exact lc.mp hl
      · exact Int.le_trans (lc.mp hl) (h1 z e)
    · rename_i hl
      refine List.pairwise_cons.mpr ⟨fun z hz => ?_, insL_code hx (fun k hk => f k (by simp [hk])) h2⟩
      rcases List.mem_cons.mp ((insL_perm x ys).mem_iff.mp hz) with e | e
      · rw [e]
        exact Int.not_lt.mp fun z => hl (lc.mpr (Int.le_of_lt z))
      · exact h1 z e
theorem sortL_code {d : Nat} : ∀ {xs : List (List Int)}, FitL d xs → (sortL xs).Pairwise fun a b => TS.code bigB a ≤ TS.code bigB b
  | [], _ => List.Pairwise.nil
  | x :: xs, f => insL_code (f x (by simp)) (fun k hk => f k (by simp [(sortL_perm xs).mem_iff.mp hk])) (sortL_code fun k hk => f k (by simp [hk]))
theorem sortL_is {d : Nat} {xs ys : List (List Int)} (f : FitL d xs) (p : ys.Perm xs) (h : ys.Pairwise fun a b => TS.code bigB a ≤ TS.code bigB b) : ys = sortL xs :=
  List.Perm.eq_of_pairwise (le := fun a b => TS.code bigB a ≤ TS.code bigB b) (fun a b ha hb h1 h2 => by
    have fa := f a (p.mem_iff.mp ha)
    have fb := f b ((sortL_perm xs).mem_iff.mp hb)
    exact code_eq fa.1 fb.1 fa.2 fb.2 (Int.le_antisymm h1 h2)) h (sortL_code f) (p.trans (sortL_perm xs).symm)
theorem nums_cons' {i : Int} {ts : List T} : nums (.int i :: ts) = (nums ts).map (i :: ·) := Eq.trans rfl rfl
theorem nums_of : ∀ ks : List Int, nums (ks.map T.int) = some ks
  | [] => rfl
  | k :: ks => by rw [List.map_cons, nums_cons', nums_of ks]; rfl
def encTup (ks : List Int) : T := .tup (ks.map .int)
theorem tups_is : ∀ {ts : List T} {kss : List (List Int)}, tups ts = some kss → ts = kss.map encTup
  | [], kss, h => by unfold tups at h; cases h; rfl
  | .tup us :: ts, kss, h => by
    unfold tups at h
    cases e1 : nums us with
    | none => rw [e1] at h; cases h
    | some ks =>
      cases e2 : tups ts with
      | none => rw [e1, e2] at h; cases h
      | some k2 =>
        rw [e1, e2] at h
        cases h
        rw [List.map_cons, tups_is e2]
        have : us = ks.map .int := by
          clear e2
          induction us generalizing ks with
          | nil => unfold nums at e1; cases e1; rfl
          | cons u us ih =>
            cases u with
            | int i =>
              rw [nums_cons'] at e1
              cases e3 : nums us with
              | none => rw [e3] at e1; cases e1
              | some z => rw [e3] at e1; cases e1; rw [List.map_cons, ih _ e3]
            | _ => unfold nums at e1; cases e1
        rw [this]; rfl
  | .non :: _, _, h => by unfold tups at h; cases h
  | .bl _ :: _, _, h => by unfold tups at h; cases h
  | .int _ :: _, _, h => by unfold tups at h; cases h
  | .str _ :: _, _, h => by unfold tups at h; cases h
  | .lst _ :: _, _, h => by unfold tups at h; cases h
  | .dic _ :: _, _, h => by unfold tups at h; cases h
  | .dit _ :: _, _, h => by unfold tups at h; cases h
  | .exc _ _ :: _, _, h => by unfold tups at h; cases h
  | .scr _ :: _, _, h => by unfold tups at h; cases h
  | .ins _ _ :: _, _, h => by unfold tups at h; cases h
  | .ob _ :: _, _, h => by unfold tups at h; cases h
section
variable {K : PySem.W.Frag} {S : Addr → Prop} {H : Hp}
theorem perm_ts {xs ys : List V} (p : ys.Perm xs) : ∀ {kss : List (List Int)}, IsTs K S H xs (kss.map encTup) → ∃ kss' : List (List Int), kss'.Perm kss ∧ IsTs K S H ys (kss'.map encTup) := by
  induction p with
  | nil => exact fun {kss} h => ⟨kss, List.Perm.refl _, h⟩
  | cons x p ih =>
    intro kss h
    match kss, h with
    | k :: ks, .cons h r =>
      obtain ⟨k', p', r'⟩ := ih r
      exact ⟨k :: k', p'.cons k, .cons h r'⟩
  | swap x y l =>
    intro kss h
    match kss, h with
    | k :: k2 :: ks, .cons h (.cons h2 r) => exact ⟨k2 :: k :: ks, List.Perm.swap k k2 ks, .cons h2 (.cons h r)⟩
  | trans p q ih1 ih2 =>
    intro kss h
    obtain ⟨k1, p1, r1⟩ := ih2 h
    obtain ⟨k2, p2, r2⟩ := ih1 r1
    exact ⟨k2, p2.trans p1, r2⟩
theorem tup_of {x : V} {ks : List Int} (h : IsT K S H x (encTup ks)) : TupI K H x ks := by
  unfold encTup at h
  cases h with
  | @tup a xs ts n r =>
    have : xs = ks.map V.int := nums_v r (nums_of ks)
    subst this
    exact ⟨a, rfl, n.sq⟩
theorem pw_of {R : List Int → List Int → Prop} : ∀ {ys : List V} {kss : List (List Int)}, IsTs K S H ys (kss.map encTup) → ys.Pairwise (fun x y => ∀ n m, TupI K H x n → TupI K H y m → R n m) → kss.Pairwise R
  | _, [], _, _ => List.Pairwise.nil
  | _, k :: ks, .cons h r, pw => by
    obtain ⟨h1, h2⟩ := List.pairwise_cons.mp pw
    refine List.pairwise_cons.mpr ⟨fun q hq => ?_, pw_of r h2⟩
    obtain ⟨i, hi⟩ := List.getElem?_of_mem (List.mem_map.mpr ⟨q, hq, rfl⟩ : encTup q ∈ ks.map encTup)
    obtain ⟨v, e, t⟩ := r.get hi
    exact h1 v (List.mem_of_getElem? e) k q (tup_of h) (tup_of t)
end
section
variable {X : Cx} {e : Expr} {S0 : Addr → Prop} {H0 : Hp} {W : WX} {d : Lo → R T} {pos : Pos} {k : Nat}
def rSetL (K : PySem.W.Frag) (w : World) : List V → Hp → VK → Prop := fun xs H Q => ∃ (l : Addr) (ns : List Int), xs = [.ref l] ∧ SqL K H l (ns.map V.int) ∧ ns.length ≤ 4000 ∧
  ∀ a c, c = (dedI ns).length → H a = none → Q (.ref a) (upd H a (SetO w a (fun j => decide (j ∈ ns)) c))
end
end DL
set_option maxHeartbeats 2000000
namespace DL
open PySem PySem.Spec PyProof.Rows L2
section
variable {X : Cx} {a b e : Expr} {es : List Expr} {S0 : Addr → Prop} {H0 : Hp} {W : WX} {d da db : Lo → R T} {ds : Lo → R (List T)} {pos : Pos} {k : Nat} {m : Md}
section
variable {lo hi : Expr} {dl dh : Lo → R T}
end
end
end DL
namespace DL
open PySem PySem.Spec PyProof.Rows L2
section
variable {X : Cx} {S0 : Addr → Prop} {H0 : Hp} {W : WX} {pos : Pos} {m : Md}
end
end DL
set_option maxHeartbeats 2000000
namespace DL
open PySem PySem.Spec PyProof.Rows L2
def geX : T → T → Option T
  | .int i, .int j => some (.bl (decide (j ≤ i)))
  | .tup ts, .tup us => match nums ts, nums us with
    | some a, some b => some (.bl (lexLe b a))
    | _, _ => none
  | _, _ => none
theorem lexAt_is (ns ms : List Int) : ∀ k i, i + k = min ns.length ms.length →
    Ob.lexAt (fun j => decide (ns.getD j 0 = ms.getD j 0)) (fun j => decide (ms.getD j 0 ≤ ns.getD j 0)) (decide (ms.length ≤ ns.length)) i k = lexLe (ms.drop i) (ns.drop i)
  | 0, i, h => by
    rw [Ob.lexAt_zero]
    by_cases c : ms.length ≤ ns.length
    · have : ms.drop i = [] := List.drop_of_length_le (by omega)
      rw [this, decide_eq_true c]; rfl
    · have e1 : ns.drop i = [] := List.drop_of_length_le (by omega)
      have e2 : ms.drop i = ms[i]'(by omega) :: ms.drop (i + 1) := List.drop_eq_getElem_cons (by omega)
      rw [e1, e2, decide_eq_false c]; rfl
  | k + 1, i, h => by
    have h1 : i < ns.length := by omega
    have h2 : i < ms.length := by omega
    have g1 : ns.getD i 0 = ns[i] := by rw [List.getD_eq_getElem?_getD, List.getElem?_eq_getElem h1]; rfl
    have g2 : ms.getD i 0 = ms[i] := by rw [List.getD_eq_getElem?_getD, List.getElem?_eq_getElem h2]; rfl
    rw [Ob.lexAt_succ, lexAt_is ns ms k (i + 1) (by omega), List.drop_eq_getElem_cons h1, List.drop_eq_getElem_cons h2, g1, g2]
    show _ = if ms[i] = ns[i] then lexLe _ _ else decide (ms[i] < ns[i])
    by_cases e : ns[i] = ms[i]
    · rw [if_pos (decide_eq_true e), if_pos e.symm]
    · have : ¬ ms[i] = ns[i] := fun z => e z.symm
      rw [if_neg (by simp [e]), if_neg this]
      by_cases c : ms[i] < ns[i]
      · rw [decide_eq_true c, decide_eq_true (by omega)]
      · rw [decide_eq_false c, decide_eq_false (by omega)]
def rGeT (K : PySem.W.Frag) : R2 := fun x y H Q => ∃ (a b : Addr) (ns ms : List Int), x = .ref a ∧ y = .ref b ∧ SqT K H a (ns.map V.int) ∧ SqT K H b (ms.map V.int) ∧ Q (.bl (lexLe ms ns)) H
theorem op_geTup {X : Cx} (hu : X.A.units < cLine) : OpR X (compareOp .GtE) (rGeT X.K) := by
  intro pins s σ H x y v u Q I rx ry ⟨a, b, ns, ms, ex, ey, ha, hb, q⟩
  subst ex ey
  cases rx
  cases ry
  obtain ⟨va, ra, pa, _⟩ := I.tuple ha
  obtain ⟨vb, rb, pb, _⟩ := I.tuple hb
  have ia : IntsAre va ns := Vals.ints ra
  have ib : IntsAre vb ms := Vals.ints rb
  have sa : va.toArray.size = ns.length := List.size_toArray.trans ia.length
  have sb : vb.toArray.size = ms.length := List.size_toArray.trans ib.length
  have ta : ∀ j (h : j < va.toArray.size), ∃ t, va.toArray[j] = .int (ns.getD j 0) t := fun j h => IntsAre.int_at ia _ _ (by simp at h; simp [h])
  have tb : ∀ j (h : j < vb.toArray.size), ∃ t, vb.toArray[j] = .int (ms.getD j 0) t := fun j h => IntsAre.int_at ib _ _ (by simp at h; simp [h])
  have R := Ob.RcOp.tuples_ge (A := X.A) (s := s) (e := fun j => decide (ns.getD j 0 = ms.getD j 0)) (r := fun j => decide (ms.getD j 0 ≤ ns.getD j 0)) pa pb hu (fun j h1 h2 => by
      obtain ⟨t, e1⟩ := ta j h1
      obtain ⟨t', e2⟩ := tb j h2
      have eb : (ns.getD j 0 == ms.getD j 0) = decide (ns.getD j 0 = ms.getD j 0) := by
        rw [Bool.eq_iff_iff, beq_iff_eq, decide_eq_true_iff]
      rw [e1, e2, ← eb]
      exact SeqAt.EqAt.int_int _ _ _ _)
    (fun j h1 h2 _ => by
      obtain ⟨t, e1⟩ := ta j h1
      obtain ⟨t', e2⟩ := tb j h2
      rw [e1, e2]
      exact Ob.RcOp.ge_int _ _ _ _)
  rw [sa, sb] at R
  refine R X.prog X.w X.xe (EP X pins σ Q) ⟨.bl _, H, I, rfl, ?_⟩
  have := lexAt_is ns ms (min ns.length ms.length) 0 (by omega)
  rw [List.drop_zero, List.drop_zero] at this
  rw [this]
  exact q
section
variable {X : Cx} {a b : Expr} {S0 : Addr → Prop} {H0 : Hp} {W : WX} {da db : Lo → R T} {pos : Pos} {k : Nat}
def rGeX (K : PySem.W.Frag) : R2 := fun x y H Q => (∃ i j, x = .int i ∧ y = .int j ∧ Q (.bl (decide (j ≤ i))) H) ∨ rGeT K x y H Q
theorem op_geX (hu : X.A.units < cLine) : OpR X (compareOp .GtE) (rGeX X.K) := fun pins s σ H x y v u Q I rx ry h => by
  rcases h with h | h
  · exact op_ge pins s σ H x y v u Q I rx ry h
  · exact op_geTup hu pins s σ H x y v u Q I rx ry h
theorem geX_ok : ∀ (S : Addr → Prop) (H : Hp) (x y : V) (t u w : T) (Q : VK), (∀ a, S a → Mu H a) → Pm X.K .w S H H x t → Pm X.K .w S H H y u → geX t u = some w → (∀ v H', Same H H' → Pm X.K .f S H H' v w → Q v H') → rGeX X.K x y H Q := fun S H x y t u w Q hs p q e z => by
  unfold geX at e
  split at e
  · cases e
    exact .inl ⟨_, _, p.int, q.int, z _ _ (Same.refl _) (one_bl _)⟩
  · rename_i ts us
    obtain ⟨a, xs, rfl, na, ra⟩ := p.tup
    obtain ⟨b, ys, rfl, nb, rb⟩ := q.tup
    split at e
    · rename_i i j e1 e2
      cases e
      have := nums_v ra e1
      have := nums_v rb e2
      subst xs ys
      exact .inr ⟨a, b, i, j, rfl, rfl, na.sq, nb.sq, z _ _ (Same.refl _) (one_bl _)⟩
    · cases e
  · cases e
theorem t_geX (cn : Cn X W k) (ha : PE X a (tG .w X.K S0 H0 W da)) (hb : PE X b (tG .w X.K S0 H0 W db)) : PT X (.Compare a [.GtE] [b] pos) (tB X.K S0 H0 W (dTest (d2 geX da db))) := t_cmp (op_geX cn.room.units0) geX_ok ha hb (nomark _)
theorem e_geX (cn : Cn X W k) (ha : PE X a (tG .w X.K S0 H0 W da)) (hb : PE X b (tG .w X.K S0 H0 W db)) : PE X (.Compare a [.GtE] [b] pos) (tG .f X.K S0 H0 W (d2 geX da db)) := e_cmp (op_geX cn.room.units0) geX_ok ha hb (nomark _)
end
end DL
set_option maxHeartbeats 1000000
namespace DL
open PySem PySem.Spec PyProof.Rows L2
def frE (n : Nat) (g : Addr → Option Obj) : PySem.W.Frag := He.frG g (cStatics :: sysModules :: He.asD g n)
def obsE (n : Nat) (fa : List He.Fa) (fn : List He.DefD) (ex : PySem.W.Frag → Bool) (g : Addr → Option Obj) : He.AlD × Bool := (He.obsD fa fn (frE n g), ex (frE n g))
def hookE (n : Nat) (fa : List He.Fa) (fn : List He.DefD) (ex : PySem.W.Frag → Bool) : PySem.W.Hook where
  α := He.AlD × Bool
  obs := fun s => obsE n fa fn ex s.heap.get?
  val := fun _ => (He.valD fn, true)
  says := fun _ h => ∃ K : PySem.W.Frag, K.In h ∧ He.SaysD fa fn K ∧ ex K = true
  of := fun _ _ e => ⟨_, He.frG_in, congrArg (fun z : He.AlD × Bool => z.1) e, congrArg (fun z : He.AlD × Bool => z.2) e⟩
  keeps := fun _ _ _ ⟨K, hK, c⟩ k => ⟨K, PySem.W.Frag.In.keeps hK k, c⟩
theorem obsE_eq {n : Nat} {fa : List He.Fa} {fn : List He.DefD} {ex : PySem.W.Frag → Bool} {g : Addr → Option Obj} {s : Shared} (h : ∀ a, g a = s.heap.get? a) : obsE n fa fn ex g = (hookE n fa fn ex).obs s := by
  have e : g = s.heap.get? := funext h
  rw [e] <;> rfl
def xsub (c C : Str) : Bool := c == C || C == ("BakeError" : Str) || C == ("ValueError" : Str)
def clV (K : PySem.W.Frag) (C : Str) : Value := if C = ("ValueError" : Str) then .type "ValueError" else .ref (He.ga K C)
structure Cl (K : PySem.W.Frag) (c : Str) : Prop where
  keep : PySem.W.keepIn K (.ref (He.ga K c)) = true
  sub : PySem.W.subIn K (.ref (He.ga K c)) (.type "BaseException") = some true
  ty : PySem.W.typeIn K (.ref (He.ga K c)) = some (.type "type")
  cl : (PySem.W.clsIn K (He.ga K c)).isSome = true
  ga : PySem.W.findIn K (.ref (He.ga K c)) "__getattribute__" = some (some (.builtin "BaseException.__getattribute__"))
  gg : PySem.W.findIn K (.ref (He.ga K c)) "__getattr__" = some none
  gc : PySem.W.findIn K (.ref (He.ga K c)) "__class__" = some (some (.builtin "object.__class__"))
  hd : PySem.W.hasDictIn K (He.ga K c) = true
  mo : PySem.W.mroIn K (He.ga K c) (.type "object") = some true
  oc : PySem.W.specialIn K (.builtin "object.__class__") "__get__" = some (some (.builtin "getset_descriptor.__get__"))
  ot : PySem.W.takesIn K (.builtin "object.__class__") = some true
def clB (K : PySem.W.Frag) (c : Str) : Bool :=
  PySem.W.keepIn K (.ref (He.ga K c)) && (decide (PySem.W.subIn K (.ref (He.ga K c)) (.type "BaseException") = some true) && (decide (PySem.W.typeIn K (.ref (He.ga K c)) = some (.type "type")) && ((PySem.W.clsIn K (He.ga K c)).isSome &&
  (He.eqO (PySem.W.findIn K (.ref (He.ga K c)) "__getattribute__") (some (some (.builtin "BaseException.__getattribute__"))) && (He.eqO (PySem.W.findIn K (.ref (He.ga K c)) "__getattr__") (some none) &&
  (He.eqO (PySem.W.findIn K (.ref (He.ga K c)) "__class__") (some (some (.builtin "object.__class__"))) && (PySem.W.hasDictIn K (He.ga K c) && (decide (PySem.W.mroIn K (He.ga K c) (.type "object") = some true) &&
  (He.eqO (PySem.W.specialIn K (.builtin "object.__class__") "__get__") (some (some (.builtin "getset_descriptor.__get__"))) && decide (PySem.W.takesIn K (.builtin "object.__class__") = some true))))))))))
theorem clB_ok {K : PySem.W.Frag} {c : Str} (h : clB K c = true) : Cl K c := by
  unfold clB at h
  simp only [Bool.and_eq_true, decide_eq_true_eq] at h
  obtain ⟨a1, a2, a3, a4, a5, a6, a7, a8, a9, a10, a11⟩ := h
  exact ⟨a1, a2, a3, a4, He.eqO_ok a5, He.eqO_ok a6, He.eqO_ok a7, a8, a9, He.eqO_ok a10, a11⟩
structure Pr (K : PySem.W.Frag) (c C : Str) : Prop where
  exm : PySem.W.exmOne K (.ref (He.ga K c)) (clV K C) = some (xsub c C)
  isi : PySem.W.kitOne K (.ref (He.ga K c)) (clV K C) = some (xsub c C)
def prB (K : PySem.W.Frag) (c C : Str) : Bool := decide (PySem.W.exmOne K (.ref (He.ga K c)) (clV K C) = some (xsub c C)) && decide (PySem.W.kitOne K (.ref (He.ga K c)) (clV K C) = some (xsub c C))
theorem prB_ok {K : PySem.W.Frag} {c C : Str} (h : prB K c C = true) : Pr K c C := by
  unfold prB at h
  simp only [Bool.and_eq_true, decide_eq_true_eq] at h
  exact ⟨h.1, h.2⟩
def noB (K : PySem.W.Frag) (c : Str) : Bool := PySem.W.excIn K (He.ga K c) He.veBase "ValueError.__new__"
def oexB (K : PySem.W.Frag) (C : Addr) : Bool := (match K.lookup C with
  | some ⟨.type t, _, .cls cd, sl⟩ => t == "type" && (match cd.mro, sl.toList with
    | .ref C' :: bm, [_, _, _, _, some (.builtin n), _] => C' == C && (n == "ValueError.__new__" && (!cd.hasDel && (PySem.HandSPX.refsVE bm && cd.hasDict)))
    | _, _ => false)
  | _ => false) && (He.eqO (PySem.W.findIn K (.ref C) "__setattr__") (some (some (.builtin "object.__setattr__"))) && (decide (PySem.W.subIn K (.ref C) (.type "BaseException") = some true) && (decide (PySem.W.typeIn K (.ref C) = some (.type "type")) && PySem.W.keepIn K (.ref C))))
theorem oexB_ok {K : PySem.W.Frag} {C : Addr} (h : oexB K C = true) : OexC K C := by
  unfold oexB at h
  obtain ⟨h1, h⟩ := Bool.and_eq_true_iff.mp h
  obtain ⟨h2, h⟩ := Bool.and_eq_true_iff.mp h
  obtain ⟨h3, h⟩ := Bool.and_eq_true_iff.mp h
  obtain ⟨h4, h5⟩ := Bool.and_eq_true_iff.mp h
  refine ⟨?_, He.eqO_ok h2, of_decide_eq_true h3, of_decide_eq_true h4, h5⟩
  split at h1
  · rename_i t dd cd sl ho
    obtain ⟨ht, h1⟩ := Bool.and_eq_true_iff.mp h1
    split at h1
    · rename_i C' bm k0 k1 k2 k3 n k5 hm hs
      simp only [Bool.and_eq_true, beq_iff_eq, Bool.not_eq_true'] at h1 ht
      obtain ⟨rfl, rfl, hdel, hr, hdi⟩ := h1
      subst ht
      obtain ⟨nm, bs, mro, ns, qn, hd, sn, sub, ab, col, del⟩ := cd
      dsimp only at hm hdel hdi
      subst hm hdel hdi
      have hsl : sl = #[k0, k1, k2, k3, some (.builtin "ValueError.__new__"), k5] := by
        obtain ⟨l⟩ := sl
        simp only at hs
        rw [hs]
      subst hsl
      exact ⟨nm, qn, ns, bs, bm, sn, sub, ab, col, dd, k0, k1, k2, k3, k5, ho, hr⟩
    · cases h1
  · cases h1
structure Be (K : PySem.W.Frag) : Prop where
  g : PySem.W.specialIn K (.ref (He.ga K "BakeError")) "__getattribute__" = some (some (.builtin "type.__getattribute__"))
  r : PySem.W.readsIn K (He.ga K "BakeError") (.type "type") = true
  f : PySem.W.findCls K (.ref (He.ga K "BakeError")) (.type "type") "__init__" = some (.val (.builtin "ValueError.__init__"))
def cfB (o : Option PySem.W.CFound) : Bool := match o with
  | some (.val v) => decide (v = .builtin "ValueError.__init__")
  | _ => false
def beB (K : PySem.W.Frag) : Bool := He.eqO (PySem.W.specialIn K (.ref (He.ga K "BakeError")) "__getattribute__") (some (some (.builtin "type.__getattribute__"))) && (PySem.W.readsIn K (He.ga K "BakeError") (.type "type") && cfB (PySem.W.findCls K (.ref (He.ga K "BakeError")) (.type "type") "__init__"))
theorem beB_ok {K : PySem.W.Frag} (h : beB K = true) : Be K := by
  unfold beB at h
  simp only [Bool.and_eq_true] at h
  refine ⟨He.eqO_ok h.1, h.2.1, ?_⟩
  have z := h.2.2
  unfold cfB at z
  split at z
  · rename_i v e
    rw [e, of_decide_eq_true z]
  · cases z
structure In (K : PySem.W.Frag) (c : Str) (fs : List Str) : Prop where
  oex : OexC K (He.ga K c)
  ini : PySem.W.findIn K (.ref (He.ga K c)) "__init__" = some (some (.ref (He.fAd K (c, some "__init__"))))
  ty : PySem.W.typeIn K (.ref (He.fAd K (c, some "__init__"))) = some (.type "function")
  no : ∀ f ∈ fs, PySem.W.findIn K (.ref (He.ga K c)) f = some none
def inB (K : PySem.W.Frag) (c : Str) (fs : List Str) : Bool := oexB K (He.ga K c) && (He.eqO (PySem.W.findIn K (.ref (He.ga K c)) "__init__") (some (some (.ref (He.fAd K (c, some "__init__"))))) && (decide (PySem.W.typeIn K (.ref (He.fAd K (c, some "__init__"))) = some (.type "function")) && fs.all fun f => He.eqO (PySem.W.findIn K (.ref (He.ga K c)) f) (some none)))
theorem inB_ok {K : PySem.W.Frag} {c : Str} {fs : List Str} (h : inB K c fs = true) : In K c fs := by
  unfold inB at h
  simp only [Bool.and_eq_true, decide_eq_true_eq, List.all_eq_true] at h
  exact ⟨oexB_ok h.1, He.eqO_ok h.2.1, h.2.2.1, fun f hf => He.eqO_ok (h.2.2.2 f hf)⟩
section
variable {X : Cx} {o e : Expr} {es : List Expr} {ta : TA} {p1 p2 pos : Pos}
def BeC (env : PySem.Env) (p1 p2 pos : Pos) (e : Expr) (es : List Expr) : Prop := ∃ pl : Sem Bool, eval (.Call (.Attribute (.Name "BakeError" p1) "__init__" p2) (e :: es) [] pos) env = (do
      let ov ← eval (.Name "BakeError" p1) env
      standAt p2.atName
      let (f, first) ← holding [ov] (getMethod ov "__init__" pl)
      callWith pos f first (backTo pos (starEach (e :: es) env)) (backToKw pos (keywordEach [] env)))
theorem pe_beinit (B : Be X.K) (hg : Gl X "BakeError") (hm : X.mg "BakeError" = some (.ref (He.ga X.K "BakeError"))) (ha : PA X (e :: es) ta)
    (hc : BeC X.env p1 p2 pos e es)
    (he : starEach (e :: es) X.env = (false, eval e X.env) :: starEach es X.env := by rfl) (hpl : (backTo pos (starEach es X.env)).any (·.1) = false := by rfl) :
    PE X (.Call (.Attribute (.Name "BakeError" p1) "__init__" p2) (e :: es) [] pos) (tVeI X.K ta) := by
  obtain ⟨pl, hc⟩ := hc
  refine ⟨fun pins s σ H Q I h => ?_⟩
  refine PySem.W.methodCall_KW (ld_glob I hg hm ?_ (by decide)) hc
  refine PySem.W.method_cls I.kIn B.g (PySem.W.cls_value I.kIn B.r B.f (by decide +kernel) ?_)
  show wpAny _ _ (callWith pos (Value.builtin "ValueError.__init__") [] (backTo pos (starEach (e :: es) X.env)) []) _ _ _
  refine PyProof.Rows.callWith_method1 (thn (ha.run pos pins _ σ H _ (I.tok _) h) fun us s1 ⟨vs, H1, I1, r1, a, C, ws, ev, hl, T, ea, q⟩ => ?_) he hpl
  subst ev
  cases r1 with
  | @cons _ u0 _ ur ra rw' =>
    obtain rfl : u0 = Value.ref a := ra
    have hlen : ur.length ≤ sizeLine := by
      rw [← Paired.length rw', sizeLine_eq]
      omega
    exact oinit_ok T I1 ea hlen fun s' J => ⟨.non, H1, J, rfl, q⟩
end
def spI (C : Addr) (fs : List Str) : Sp := fun vs H Q _ => ∃ (a : Addr) (xs : List V), vs = .ref a :: xs ∧ xs.length = fs.length ∧ H a = some (exo a C none) ∧
  ∀ (d : Addr) (H2 : Hp), H d = none → d ≠ a → H2 a = some (exo a C (some d)) → H2 d = some (exd d (fs.zip xs).reverse) → (∀ b, b ≠ a → b ≠ d → H2 b = H b) → Q .non H2
section
variable {P : Program} {w : World} {K : PySem.W.Frag} {mg : Str → Option Value} {base : Heap} {c qual m f1 f2 : Str} {params : Arguments} {scope : Scope} {fI : Addr} {fd : FuncData} {j : Nat} {p1 p2 p3 p4 p5 p6 q1 q2 q3 q4 r1 r2 r3 r4 : Pos}
theorem init2 (I : In K c [f1, f2]) (B : Be K) (hm : mg "BakeError" = some (.ref (He.ga K "BakeError")))
    (F : FunD K "__init__" qual params [.Expr (.Call (.Attribute (.Name "BakeError" p1) "__init__" p2) [.Name "self" p3, .Constant (.str m) j p4] [] p5) p6, .Assign [.Attribute (.Name "self" q1) f1 q2] (.Name f1 q3) q4, .Assign [.Attribute (.Name "self" r1) f2 r2] (.Name f2 r3) r4] scope [] [] fI fd)
    (S : FnScope ["self", f1, f2] ["self", f1, f2] scope) (hg : scope.names.lookup ("BakeError" : Str) = some .globalImplicit) (h0 : scope.names.lookup ("self" : Str) = some .local) (h1 : scope.names.lookup f1 = some .local) (h2 : scope.names.lookup f2 = some .local)
    (d1 : (f1 == ("__debug__" : Str)) = false) (d2 : (f2 == ("__debug__" : Str)) = false) (e1 : (f1 == ("__classdict__" : Str)) = false) (e2 : (f2 == ("__classdict__" : Str)) = false)
    (hc : ∀ (cdv : Value) (A : Around) (outer : List PySem.Env) (s : Shared) (H : Hp) (E : XK), BeC (cxOf (L2.CX P w) P w K mg base ["self", f1, f2] qual scope fI cdv A outer s H E).env p1 p2 p5 (.Name "self" p3) [.Constant (.str m) j p4]) :
    FnOk P w K mg base (L2.CX P w) 1 fI fd ["self", f1, f2] (spI (He.ga K c) [f1, f2]) := by
  refine F.ok S (fun vs H Q E ⟨a, xs, e, l, _⟩ => by rw [e]; simp [l]) fun cdv A outer s H vs Q E hr hsp => ?_
  obtain ⟨a, xs, rfl, l, ea, hQ⟩ := hsp
  match xs, l with
  | [x, y], _ =>
    have T := I.oex
    refine ⟨_, pss_cons (ps_expr (pe_beinit B hg hm (pa_cons (pe_var (i := 0) rfl (.inl h0)) (pa_cons pe_str pa_nil)) (hc _ _ _ _ _ _))) (pss_cons (ps_ost (pe_var (i := 0) rfl (.inl h0)) (pe_var (i := 1) rfl (.inl h1) d1 e1)) (pss_one (ps_ost (pe_var (i := 0) rfl (.inl h0)) (pe_var (i := 2) rfl (.inl h2) d2 e2)))), ?_⟩
    show ∃ v0 : V, some (some (V.ref a)) = some (some v0) ∧ ∃ (a' C' : Addr) (ws : List V), [v0, V.str m] = .ref a' :: ws ∧ ws.length ≤ 1000 ∧ OexC K C' ∧ H a' = some (exo a' C' none) ∧ _
    refine ⟨_, rfl, a, _, _, rfl, by simp, T, ea, ?_⟩
    refine ⟨x, rfl, .ref a, rfl, a, _, rfl, T, I.no f1 (by simp), .inl ⟨ea, fun d hd ne => ?_⟩⟩
    refine ⟨y, rfl, .ref a, rfl, a, _, rfl, T, I.no f2 (by simp), .inr ⟨d, [(f1, x)], upd_same, ?_, by simp, ?_⟩⟩
    · rw [upd_ne ne]; exact upd_same
    · refine hQ d _ hd ne ?_ upd_same fun b h1 h2 => ?_
      · rw [upd_ne (Ne.symm ne)]; exact upd_same
      · rw [upd_ne h2, upd_ne h1, upd_ne h2]
theorem init1 (I : In K c [f1]) (B : Be K) (hm : mg "BakeError" = some (.ref (He.ga K "BakeError")))
    (F : FunD K "__init__" qual params [.Expr (.Call (.Attribute (.Name "BakeError" p1) "__init__" p2) [.Name "self" p3, .Constant (.str m) j p4] [] p5) p6, .Assign [.Attribute (.Name "self" q1) f1 q2] (.Name f1 q3) q4] scope [] [] fI fd)
    (S : FnScope ["self", f1] ["self", f1] scope) (hg : scope.names.lookup ("BakeError" : Str) = some .globalImplicit) (h0 : scope.names.lookup ("self" : Str) = some .local) (h1 : scope.names.lookup f1 = some .local)
    (d1 : (f1 == ("__debug__" : Str)) = false) (e1 : (f1 == ("__classdict__" : Str)) = false)
    (hc : ∀ (cdv : Value) (A : Around) (outer : List PySem.Env) (s : Shared) (H : Hp) (E : XK), BeC (cxOf (L2.CX P w) P w K mg base ["self", f1] qual scope fI cdv A outer s H E).env p1 p2 p5 (.Name "self" p3) [.Constant (.str m) j p4]) :
    FnOk P w K mg base (L2.CX P w) 1 fI fd ["self", f1] (spI (He.ga K c) [f1]) := by
  refine F.ok S (fun vs H Q E ⟨a, xs, e, l, _⟩ => by rw [e]; simp [l]) fun cdv A outer s H vs Q E hr hsp => ?_
  obtain ⟨a, xs, rfl, l, ea, hQ⟩ := hsp
  match xs, l with
  | [x], _ =>
    have T := I.oex
    refine ⟨_, pss_cons (ps_expr (pe_beinit B hg hm (pa_cons (pe_var (i := 0) rfl (.inl h0)) (pa_cons pe_str pa_nil)) (hc _ _ _ _ _ _))) (pss_one (ps_ost (pe_var (i := 0) rfl (.inl h0)) (pe_var (i := 1) rfl (.inl h1) d1 e1))), ?_⟩
    show ∃ v0 : V, some (some (V.ref a)) = some (some v0) ∧ ∃ (a' C' : Addr) (ws : List V), [v0, V.str m] = .ref a' :: ws ∧ ws.length ≤ 1000 ∧ OexC K C' ∧ H a' = some (exo a' C' none) ∧ _
    refine ⟨_, rfl, a, _, _, rfl, by simp, T, ea, ?_⟩
    refine ⟨x, rfl, .ref a, rfl, a, _, rfl, T, I.no f1 (by simp), .inl ⟨ea, fun d hd ne => ?_⟩⟩
    refine hQ d _ hd ne upd_same ?_ fun b h1 h2 => ?_
    · rw [upd_ne ne]; exact upd_same
    · rw [upd_ne h1, upd_ne h2]
end
structure RX0 (K : PySem.W.Frag) (mg : Str → Option Value) (c : Str) : Prop where
  g : mg c = some (.ref (He.ga K c))
  ex : PySem.W.excIn K (He.ga K c) He.veBase "ValueError.__new__" = true
  cl : Cl K c
structure RXF (P : Program) (w : World) (K : PySem.W.Frag) (mg : Str → Option Value) (base : Heap) (c : Str) (fs : List Str) : Prop where
  g : mg c = some (.ref (He.ga K c))
  inn : In K c fs
  fn : ∃ fd ps, Binds K fd ps [] ∧ FnOk P w K mg base (L2.CX P w) 1 (He.fAd K (c, some "__init__")) fd ps (spI (He.ga K c) fs)
def sRaise0 (c : Str) : Lo → Fl := fun ev => .ex c [] ev
def sRaiseF (c : Str) (fs : List Str) (ds : Lo → R (List T)) : Lo → Fl := fun ev => (ds ev).fl ev fun ts => if ts.length = fs.length then .ex c (fs.zip ts).reverse ev else .bad
section
variable {K : PySem.W.Frag} {S : Addr → Prop} {H : Hp}
theorem IsFs.app : ∀ {a c : List (Str × V)} {b d : List (Str × T)}, IsFs K S H a b → IsFs K S H c d → IsFs K S H (a ++ c) (b ++ d)
  | _, _, _, _, .nil, s => s
  | _, _, _, _, .cons h r, s => .cons h (IsFs.app r s)
theorem IsFs.rev : ∀ {a : List (Str × V)} {b : List (Str × T)}, IsFs K S H a b → IsFs K S H a.reverse b.reverse
  | _, _, .nil => .nil
  | _, _, .cons h r => by rw [List.reverse_cons, List.reverse_cons]; exact (IsFs.rev r).app (.cons h .nil)
theorem IsFs.zip : ∀ (fs : List Str) {vs : List V} {ts : List T}, IsTs K S H vs ts → IsFs K S H (fs.zip vs) (fs.zip ts)
  | [], _, _, _ => .nil
  | _ :: _, _, _, .nil => .nil
  | f :: fs, _, _, .cons h r => .cons h (IsFs.zip fs r)
end
section
variable {X : Cx} {e : Expr} {es : List Expr} {S S0 : Addr → Prop} {H0 : Hp} {W : WX} {ds : Lo → R (List T)} {p p2 pos pos' : Pos} {md : Md} {k j : Nat} {x m : Str}
theorem s_raise0 (cn : Cn X W k) (C : RX0 X.K X.mg x) (hg : Gl X x := by rfl) (hdb : (x == ("__debug__" : Str)) = false := by decide) :
    PS X (.Raise (some (.Call (.Name x p) [.Constant (.str m) j p2] [] pos)) none pos') (tS md X.K S0 H0 W (sRaise0 x)) :=
  ps_imp (ps_raise cn.calm cn.tk (pmk_own PySem.F.excBase_ValueError C.ex C.g C.cl.keep (raises_own C.cl.sub C.cl.ty) hg hdb)) fun D σ H ⟨ev, ps, r, z⟩ => by
    have z : ∀ cls dd σ' H', Rp X.K S0 H0 ps σ' H' ev → IsX X.K (Sx S0 σ' ev) H' cls dd x [] → W cls dd σ' H' := z
    exact z _ none σ H r ⟨rfl, .inl ⟨rfl, rfl⟩⟩
theorem s_raiseF (cn : Cn X W k) {fs : List Str} (C : RXF X.prog X.w X.K X.mg X.base x fs) (ha : PA X (e :: es) (tA X.K S0 H0 W ds)) (hk : 2 ≤ k := by decide) (hg : Gl X x := by rfl) (hdb : (x == ("__debug__" : Str)) = false := by decide) (he : starEach (e :: es) X.env = (false, eval e X.env) :: starEach es X.env := by rfl) (hpl : (backTo pos (starEach es X.env)).any (·.1) = false := by rfl) (hf : fs.length ≤ 1000 := by decide) :
    PS X (.Raise (some (.Call (.Name x p) (e :: es) [] pos)) none pos') (tS md X.K S0 H0 W (sRaiseF x fs ds)) := by
  obtain ⟨fd, prs, hb, F⟩ := C.fn
  refine ps_imp (ps_raise cn.calm cn.tk (pmk_oex C.inn.oex C.inn.ini C.inn.ty F (cn.room.mono hk) hb .nil passL hg C.g ha hdb he hpl)) fun D σ H ⟨ev, ps, r, z⟩ => ?_
  refine ⟨ev, ps, r, R.on_mono (R.fl_on z) (fun ts q vs H1 s1 p1 => ?_) fun c fs q cls dd H' s x => q cls dd σ H' (r.up s) x⟩
  by_cases hl : ts.length = fs.length
  · rw [if_pos hl] at q
    have q : ∀ cls dd σ' H', Rp X.K S0 H0 ps σ' H' ev → IsX X.K (Sx S0 σ' ev) H' cls dd x (fs.zip ts).reverse → W cls dd σ' H' := q
    have ln := p1.len
    refine ⟨by omega, fun a ha => ⟨a, vs ++ [], rfl, by rw [List.append_nil]; omega, upd_same, fun d H2 hd ne h1 h2 hb => ⟨rfl, d, _, h1, h2, ?_, ?_⟩⟩⟩
    · rw [upd_ne ne] at hd; exact hd
    · rw [upd_ne ne] at hd
      have s3 : Same H1 (upd (del H2 a) d (.xd (fs.zip (vs ++ [])).reverse)) := fun b o eb => by
        have n1 : b ≠ a := ne_of_none eb ha
        have n2 : b ≠ d := ne_of_none eb hd
        rw [upd_ne n2, del_ne n1, hb b n1 n2, upd_ne n1]
        exact eb
      refine q _ _ σ _ (r.up (s1.trans s3)) ⟨rfl, .inr ⟨d, _, rfl, fun y => ((r.up s1).sx d y).ne hd, upd_same, ?_⟩⟩
      rw [List.append_nil]
      exact (IsFs.zip fs (p1.mv (mv_same (by rw [List.append_nil] at s3; exact s3)))).rev
  · rw [if_neg hl] at q
    exact q.elim
end
end DL
set_option maxHeartbeats 2000000
namespace DL
open PySem PySem.Spec PyProof.Rows L2
section
variable {X : Cx} {pins : List (Addr × Obj)} {σ : L2.St} {H : Hp} {s : Shared}
end
section
variable {X : Cx} {x n : Str} {c : Value} {i : Nat} {body suite : List Stmt} {b₀ : Stmt} {np pos pos' : Pos} {tb : WX → TS} {ts : Addr → Value → Option Addr → TS} {Wout : WX}
end
def Fl.drop (i : Nat) : Fl → Fl
  | .nx e => .nx (wipeL [i] e)
  | .bk e => .bk (wipeL [i] e)
  | .ct e => .ct (wipeL [i] e)
  | .rt t => .rt t
  | _ => .bad
section
variable {K : PySem.W.Frag} {S0 : Addr → Prop} {H0 H : Hp} {ps : List (V × T)} {σ : L2.St} {ev : Lo}
end
section
variable {X : Cx} {C n : Str} {body suite : List Stmt} {b₀ : Stmt} {np pos pos' : Pos} {S0 : Addr → Prop} {H0 : Hp} {W : WX} {d1 d2 : Lo → Fl} {md : Md} {k i : Nat} {cs : List Str} {cv : Value}
theorem Cn.tr (cn : Cn X W k) {W' : WX} {pn : List (Addr × Obj)} {xe : Value → Shared → Prop} (tk : Takes (X.tr pn xe) W') (po : PassesOwn (model X.prog X.w) X.A X.env xe) : Cn (X.tr pn xe) W' k := ⟨tk, cn.room, cn.gu, cn.calm, cn.nd, po⟩
end
end DL
set_option maxHeartbeats 2000000
namespace DL
open PySem PySem.Spec PyProof.Rows L2
structure XF (K : PySem.W.Frag) (mg : Str → Option Value) (cs : List Str) : Prop where
  g : ∀ c ∈ cs, mg c = some (.ref (He.ga K c))
  ve : mg "ValueError" = none
  cl : ∀ c ∈ cs, Cl K c
  pr : ∀ c ∈ cs, ∀ C ∈ ("ValueError" : Str) :: cs, Pr K c C
def xfK (K : PySem.W.Frag) (cs : List Str) : Bool := (He.Fa.free "ValueError").ok K && ((cs.all fun c => (He.Fa.glo c).ok K) && ((cs.all fun c => clB K c) && cs.all fun c => (("ValueError" : Str) :: cs).all fun C => prB K c C))
theorem xfK_ok {K : PySem.W.Frag} {h : Heap} {mg : Str → Option Value} {cs : List Str} (X : K.In h) (G : h.Ns mainGlobals mg) (e : xfK K cs = true) : XF K mg cs := by
  unfold xfK at e
  simp only [Bool.and_eq_true, List.all_eq_true] at e
  obtain ⟨e0, e1, e2, e3⟩ := e
  exact ⟨fun c hc => He.glo_ok X G (e1 c hc), He.free_ok X G e0, fun c hc => clB_ok (e2 c hc), fun c hc C hC => prB_ok (e3 c hc C hC)⟩
section
variable {K : PySem.W.Frag} {mg : Str → Option Value} {cs : List Str}
theorem XF.exm (x : XF K mg cs) {C : Str} (hC : C ∈ cs) (hv : C ≠ "ValueError") : ∀ c ∈ cs, PySem.W.exmOne K (.ref (He.ga K c)) (.ref (He.ga K C)) = some (xsub c C) := fun c hc => by
  have := (x.pr c hc C (List.mem_cons_of_mem _ hC)).exm
  unfold clV at this
  rw [if_neg hv] at this
  exact this
end
section
variable {X : Cx} {pins : List (Addr × Obj)} {σ : L2.St} {H : Hp} {s : Shared}
end
section
variable {K : PySem.W.Frag} {S : Addr → Prop} {H : Hp} {v : V} {c : Str} {fs : List (Str × T)}
end
section
variable {X : Cx} {e : Expr} {S S0 : Addr → Prop} {H0 : Hp} {W : WX} {d : Lo → R T} {p p2 pos : Pos} {cs : List Str} {C : Str}
end
section
variable {X : Cx} {cs : List Str}
variable {e : Expr} {es : List Expr} {S S0 : Addr → Prop} {H0 : Hp} {W : WX} {d : Lo → R T} {p tp pos : Pos} {kk : Nat} {Cs : List Str}
end
section
variable {X : Cx} {e : Expr} {S S0 : Addr → Prop} {H0 : Hp} {W : WX} {d : Lo → R T} {pos : Pos} {cs : List Str} {f : Str} {te : TE}
end
section
variable {X : Cx} {o e : Expr} {S S0 : Addr → Prop} {H0 : Hp} {W : WX} {da db : Lo → R T} {pos apos : Pos} {m : Md}
end
end DL
namespace DL
open PySem
def clsAt (s : Stmt) (j : Nat) : Stmt := match s with
  | .ClassDef _ _ _ b _ _ _ _ _ _ _ => b.getD j (.Pass ⟨0, 0, 0, 0⟩)
  | _ => .Pass ⟨0, 0, 0, 0⟩
end DL
set_option maxHeartbeats 1000000
namespace DL
open PySem PySem.Spec PyProof.Rows L2
section
variable {prog : Program} {w : World} {A : Around} {E : Value → Shared → Prop} {s : Shared}
end
section
variable {X : Cx} {e : Expr} {S S0 : Addr → Prop} {H0 : Hp} {W : WX} {d : Lo → R T} {pos : Pos}
end
end DL
set_option maxHeartbeats 2000000
namespace DL
open PySem PySem.Spec PyProof.Rows L2
def keyT : T → Option Key
  | .int i => some (.inl i)
  | .str x => some (.inr x)
  | _ => none
def putT (kvs : List (Key × T)) (k : Key) (t : T) : List (Key × T) :=
  if (kvs.any fun kv => decide (kv.1 = k)) = true then kvs.map (fun kv => if kv.1 = k then (kv.1, t) else kv) else kvs ++ [(k, t)]
def valT (kvs : List (Key × T)) (k : Key) : Option T := (kvs.find? fun kv => decide (kv.1 = k)).map (·.2)
section
variable {K : PySem.W.Frag} {S : Addr → Prop} {H : Hp}
theorem IsKs.len : ∀ {xs : List (Key × V)} {ts : List (Key × T)}, IsKs K S H xs ts → xs.length = ts.length
  | _, _, .nil => rfl
  | _, _, .cons _ r => by rw [List.length_cons, List.length_cons, IsKs.len r]
theorem IsKs.any {k : Key} : ∀ {xs : List (Key × V)} {ts : List (Key × T)}, IsKs K S H xs ts → (xs.any fun kv => decide (kv.1 = k)) = ts.any fun kv => decide (kv.1 = k)
  | _, _, .nil => rfl
  | _, _, .cons _ r => by rw [List.any_cons, List.any_cons, IsKs.any r]
theorem IsKs.app {k : Key} {v : V} {t : T} (p : IsT K S H v t) : ∀ {xs : List (Key × V)} {ts : List (Key × T)}, IsKs K S H xs ts → IsKs K S H (xs ++ [(k, v)]) (ts ++ [(k, t)])
  | _, _, .nil => .cons p .nil
  | _, _, .cons h r => .cons h (IsKs.app p r)
theorem IsKs.rep {k : Key} {v : V} {t : T} (p : IsT K S H v t) : ∀ {xs : List (Key × V)} {ts : List (Key × T)}, IsKs K S H xs ts → IsKs K S H (xs.map fun kv => if kv.1 = k then (kv.1, v) else kv) (ts.map fun kv => if kv.1 = k then (kv.1, t) else kv)
  | _, _, .nil => .nil
  | (k', v') :: _, (_, t') :: _, .cons h r => by
    rw [List.map_cons, List.map_cons]
    by_cases c : k' = k
    · rw [if_pos c, if_pos c]; exact .cons p (IsKs.rep p r)
    · rw [if_neg c, if_neg c]; exact .cons h (IsKs.rep p r)
theorem IsKs.put {k : Key} {v : V} {t : T} (p : IsT K S H v t) {xs : List (Key × V)} {ts : List (Key × T)} (r : IsKs K S H xs ts) : IsKs K S H (putK xs k v) (putT ts k t) := by
  unfold putK putT
  rw [r.any]
  split
  · exact r.rep p
  · exact r.app p
theorem IsKs.val {k : Key} : ∀ {xs : List (Key × V)} {ts : List (Key × T)}, IsKs K S H xs ts → (valV xs k = none ∧ valT ts k = none) ∨ ∃ v t, valV xs k = some v ∧ valT ts k = some t ∧ IsT K S H v t
  | _, _, .nil => .inl ⟨rfl, rfl⟩
  | (k', v') :: xs, (_, t') :: ts, .cons h r => by
    by_cases c : k' = k
    · exact .inr ⟨v', t', valV_pos c, by unfold valT; simp [List.find?_cons, c], h⟩
    · have e1 : valV ((k', v') :: xs) k = valV xs k := valV_neg c
      have e2 : valT ((k', t') :: ts) k = valT ts k := by unfold valT; simp [List.find?_cons, c]
      rw [e1, e2]
      exact IsKs.val r
theorem IsKs.keys : ∀ {xs : List (Key × V)} {ts : List (Key × T)}, IsKs K S H xs ts → xs.map (·.1) = ts.map (·.1)
  | _, _, .nil => rfl
  | _, _, .cons _ r => by rw [List.map_cons, List.map_cons, IsKs.keys r]
theorem key_v {v : V} {t : T} {k : Key} (h : IsT K S H v t) (e : keyT t = some k) : v = kV k := by
  cases h <;> first | (cases e; rfl) | cases e
end
section
variable {X : Cx} {e : Expr} {S0 : Addr → Prop} {H0 : Hp} {W : WX} {d dk : Lo → R T} {pos : Pos} {m : Md} {k : Nat}
end
end DL
set_option maxHeartbeats 2000000
namespace DL
open PySem PySem.Spec PyProof.Rows L2
def keysT : List T → Option (List Key)
  | [] => some []
  | t :: ts => match keyT t, keysT ts with
    | some k, some ks => some (k :: ks)
    | _, _ => none
def putL (kvs : List (List Key × T)) (k : List Key) (t : T) : List (List Key × T) :=
  if (kvs.any fun kv => decide (kv.1 = k)) = true then kvs.map (fun kv => if kv.1 = k then (kv.1, t) else kv) else kvs ++ [(k, t)]
def valL (kvs : List (List Key × T)) (k : List Key) : Option T := (kvs.find? fun kv => decide (kv.1 = k)).map (·.2)
def dfind : T → T → Option (Option T)
  | .dic kvs, t => (keyT t).map (valT kvs)
  | .dit kvs, .tup ts => (keysT ts).map (valL kvs)
  | _, _ => none
section
variable {K : PySem.W.Frag} {S : Addr → Prop} {H : Hp}
theorem IsLs.len : ∀ {xs : List (List Key × V)} {ts : List (List Key × T)}, IsLs K S H xs ts → xs.length = ts.length
  | _, _, .nil => rfl
  | _, _, .cons _ r => by rw [List.length_cons, List.length_cons, IsLs.len r]
theorem IsLs.any {k : List Key} : ∀ {xs : List (List Key × V)} {ts : List (List Key × T)}, IsLs K S H xs ts → (xs.any fun kv => decide (kv.1 = k)) = ts.any fun kv => decide (kv.1 = k)
  | _, _, .nil => rfl
  | _, _, .cons _ r => by rw [List.any_cons, List.any_cons, IsLs.any r]
theorem IsLs.app {k : List Key} {v : V} {t : T} (p : IsT K S H v t) : ∀ {xs : List (List Key × V)} {ts : List (List Key × T)}, IsLs K S H xs ts → IsLs K S H (xs ++ [(k, v)]) (ts ++ [(k, t)])
  | _, _, .nil => .cons p .nil
  | _, _, .cons h r => .cons h (IsLs.app p r)
theorem IsLs.rep {k : List Key} {v : V} {t : T} (p : IsT K S H v t) : ∀ {xs : List (List Key × V)} {ts : List (List Key × T)}, IsLs K S H xs ts → IsLs K S H (xs.map fun kv => if kv.1 = k then (kv.1, v) else kv) (ts.map fun kv => if kv.1 = k then (kv.1, t) else kv)
  | _, _, .nil => .nil
  | (k', v') :: _, (_, t') :: _, .cons h r => by
    rw [List.map_cons, List.map_cons]
    by_cases c : k' = k
    · rw [if_pos c, if_pos c]; exact .cons p (IsLs.rep p r)
    · rw [if_neg c, if_neg c]; exact .cons h (IsLs.rep p r)
theorem IsLs.put {k : List Key} {v : V} {t : T} (p : IsT K S H v t) {xs : List (List Key × V)} {ts : List (List Key × T)} (r : IsLs K S H xs ts) : IsLs K S H (putK xs k v) (putL ts k t) := by
  unfold putK putL
  rw [r.any]
  split
  · exact r.rep p
  · exact r.app p
theorem IsLs.val {k : List Key} : ∀ {xs : List (List Key × V)} {ts : List (List Key × T)}, IsLs K S H xs ts → (valV xs k = none ∧ valL ts k = none) ∨ ∃ v t, valV xs k = some v ∧ valL ts k = some t ∧ IsT K S H v t
  | _, _, .nil => .inl ⟨rfl, rfl⟩
  | (k', v') :: xs, (_, t') :: ts, .cons h r => by
    by_cases c : k' = k
    · exact .inr ⟨v', t', valV_pos c, by unfold valL; simp [List.find?_cons, c], h⟩
    · have e1 : valV ((k', v') :: xs) k = valV xs k := valV_neg c
      have e2 : valL ((k', t') :: ts) k = valL ts k := by unfold valL; simp [List.find?_cons, c]
      rw [e1, e2]
      exact IsLs.val r
theorem IsLs.keys : ∀ {xs : List (List Key × V)} {ts : List (List Key × T)}, IsLs K S H xs ts → xs.map (·.1) = ts.map (·.1)
  | _, _, .nil => rfl
  | _, _, .cons _ r => by rw [List.map_cons, List.map_cons, IsLs.keys r]
theorem keys_v : ∀ {vs : List V} {ts : List T} {ks : List Key}, IsTs K S H vs ts → keysT ts = some ks → vs = ks.map kV
  | _, _, ks, .nil, e => by cases e; rfl
  | _, _, ks, .cons h r, e => by
    rename_i v t vs ts
    unfold keysT at e
    cases e1 : keyT t with
    | none => rw [e1] at e; cases e
    | some k =>
      cases e2 : keysT ts with
      | none => rw [e1, e2] at e; cases e
      | some k2 =>
        rw [e1, e2] at e
        cases e
        rw [List.map_cons, ← key_v h e1, keys_v r e2]
theorem dic_at {x : V} {kvs : List (Key × T)} (p : Pm K .w S H H x (.dic kvs)) : ∃ a xs, x = .ref a ∧ H a = some (.dK xs) ∧ IsKs K S H xs kvs := by
  rcases p with p | ⟨a, rfl, p⟩
  · cases p with | dic n h r => exact ⟨_, _, rfl, h, r⟩
  · cases p with | dic h r => exact ⟨_, _, rfl, h, r⟩
theorem dit_at {x : V} {kvs : List (List Key × T)} (p : Pm K .w S H H x (.dit kvs)) : ∃ a xs, x = .ref a ∧ H a = some (.dT xs) ∧ IsLs K S H xs kvs := by
  rcases p with p | ⟨a, rfl, p⟩
  · cases p with | dit n h r => exact ⟨_, _, rfl, h, r⟩
  · cases p with | dit h r => exact ⟨_, _, rfl, h, r⟩
theorem key_at {y : V} {t : T} {k : Key} (p : Pm K .w S H H y t) (e : keyT t = some k) : y = kV k := by
  cases t <;> first | (cases e; done) | skip
  · cases e; rw [p.int]; rfl
  · cases e; rw [p.str]; rfl
theorem dfind_ok {x y : V} {t u : T} {o : Option T} (p : Pm K .w S H H x t) (q : Pm K .w S H H y u) (e : dfind t u = some o) : ∃ a ov, x = .ref a ∧ DGet H a y ov ∧ IsD H a ∧ ((ov = none ∧ o = none) ∨ ∃ v w, ov = some v ∧ o = some w ∧ IsT K S H v w) := by
  unfold dfind at e
  split at e
  · obtain ⟨k, hk, rfl⟩ := Option.map_eq_some_iff.mp e
    obtain ⟨a, xs, rfl, h, r⟩ := dic_at p
    have ek := key_at q hk
    subst ek
    exact ⟨a, _, rfl, DGet.k h, .inl ⟨xs, .inl h⟩, r.val⟩
  · obtain ⟨ks, hk, rfl⟩ := Option.map_eq_some_iff.mp e
    obtain ⟨a, xs, rfl, h, r⟩ := dit_at p
    obtain ⟨b, ys, rfl, hb, rb⟩ := q.tup
    have ek := keys_v rb hk
    subst ek
    exact ⟨a, _, rfl, DGet.t h hb.2, .inr ⟨xs, .inl h⟩, r.val⟩
  · cases e
end
def dgetT (t u : T) : Option T := (dfind t u).bind id
section
variable {X : Cx} {a b c e : Expr} {S0 : Addr → Prop} {H0 : Hp} {W : WX} {d dk da db dc : Lo → R T} {pos : Pos} {m : Md} {k : Nat}
theorem e_dget (cn : Cn X W k) (ha : PE X a (tG .w X.K S0 H0 W da)) (hb : PE X b (tG .w X.K S0 H0 W db)) (hs : NoSl b := by exact fun _ _ => rfl) : PE X (.Subscript a b pos) (tG .s X.K S0 H0 W (d2 dgetT da db)) :=
  pe_imp (pe_dget (by have := cn.room.units; omega) ha hb hs) (im2 (r := fun x y H Q => ∃ a v, x = .ref a ∧ DGet H a y (some v) ∧ Q v H) fun S H x y t u w Q hs p q e z => by
    unfold dgetT at e
    cases ef : dfind t u with
    | none => rw [ef] at e; cases e
    | some o =>
      rw [ef] at e
      have e : o = some w := e
      obtain ⟨a, ov, h1, h2, _, h3⟩ := dfind_ok p q ef
      rcases h3 with ⟨_, h3⟩ | ⟨v, w', h3, h4, h5⟩
      · rw [h3] at e; cases e
      · rw [h4] at e
        cases e
        rw [h3] at h2
        exact ⟨a, v, h1, h2, z _ _ (Same.refl _) h5⟩)
def isDic : T → Bool
  | .dic _ => true
  | .dit _ => true
  | _ => false
def dGet2 (da db dc : Lo → R T) : Lo → R T := fun ev => (da ev).bind fun t => if isDic t = true then (db ev).bind fun u => (dc ev).bind fun w => ofO ((dfind t u).map (·.getD w)) else .bad
theorem isD_of {K : PySem.W.Frag} {S : Addr → Prop} {H : Hp} {x : V} {t : T} (p : Pm K .w S H H x t) (h : isDic t = true) : ∃ a, x = .ref a ∧ IsD H a := by
  cases t <;> first | (cases h; done) | skip
  · obtain ⟨a, xs, rfl, e, _⟩ := dic_at p; exact ⟨a, rfl, .inl ⟨xs, .inl e⟩⟩
  · obtain ⟨a, xs, rfl, e, _⟩ := dit_at p; exact ⟨a, rfl, .inr ⟨xs, .inl e⟩⟩
theorem e_dget2 {p1 : Pos} (cn : Cn X W k) (ha : PE X a (tG .w X.K S0 H0 W da)) (hb : PE X b (tG .w X.K S0 H0 W db)) (hc : PE X c (tG .s X.K S0 H0 W dc)) (m : M2 X a "get" p1 b c pos := by exact ⟨rfl, rfl, rfl, rfl⟩) :
    PE X (.Call (.Attribute a "get" p1) [b, c] [] pos) (tG .s X.K S0 H0 W (dGet2 da db dc)) := pe_imp (pe_dget2 (by have := cn.room.units; omega) ha hb hc m) fun σ H Q ⟨ev, ps, r0, z⟩ => by
  refine ⟨ev, ps, r0, R.on_mono (R.on_bind z) (fun t q v H1 s1 p1 => ?_) fun _ _ q => q⟩
  by_cases hd : isDic t = true
  · rw [if_pos hd] at q
    have p1' : Pm X.K .w (Sx S0 σ ev) H1 H1 v t := p1
    obtain ⟨ad, rfl, hI⟩ := isD_of p1' hd
    refine ⟨ad, rfl, hI, ev, ps, r0.up s1, R.on_mono (R.on_bind q) (fun u q2 y H2 s2 p2 => ?_) fun c fs q2 cls dd H2 s2 x => q2 cls dd H2 (s1.trans s2) x⟩
    refine ⟨ev, ps, r0.up (s1.trans s2), R.on_mono (R.on_bind q2) (fun w q3 zv H3 s3 p3 => ?_) fun c fs q2 cls dd H2 s3 x => q2 cls dd H2 ((s1.trans s2).trans s3) x⟩
    cases ef : dfind t u with
    | none => rw [ef] at q3; exact q3.elim
    | some o =>
      rw [ef] at q3
      have q3 : ∀ v H', Same H H' → Pm X.K .s (Sx S0 σ ev) H H' v (o.getD w) → Q v H' := q3
      have a1 : Pm X.K .w (Sx S0 σ ev) H3 H3 (.ref ad) t := Pm.up (m := .w) (s2.trans s3) p1'
      have a2 : Pm X.K .w (Sx S0 σ ev) H3 H3 y u := Pm.up (m := .w) s3 (show Pm X.K .w (Sx S0 σ ev) H2 H2 y u from p2)
      obtain ⟨a', ov, h1, h2, _, h3⟩ := dfind_ok a1 a2 ef
      cases h1
      refine ⟨ov, h2, q3 _ _ ((s1.trans s2).trans s3) ?_⟩
      rcases h3 with ⟨h3, h4⟩ | ⟨v, w', h3, h4, h5⟩
      · rw [h3, h4]; exact p3
      · rw [h3, h4]; exact h5
  · rw [if_neg hd] at q
    exact q.elim
theorem e_dict0T : PE X (.Dict [] [] pos) (tG .f X.K S0 H0 W (dC (.dit []))) := pe_imp pe_dnewT fun σ H Q ⟨ev, ps, r, z⟩ p hp =>
  z _ _ (same_upd hp) (.inr ⟨p, rfl, hp, .dit upd_same .nil⟩)
def sDPutT (i : Nat) (dk d : Lo → R T) : Lo → Fl := fun ev => (d ev).fl ev fun u => match ev[i]? with
  | some (some (.dit kvs, true)) => (dk ev).fl ev fun kt => match kt with
    | .tup ts => match keysT ts with
      | some k => if kvs.length < sizeLine then .nx (ev.set i (some (.dit (putL kvs k u), true))) else .bad
      | none => .bad
    | _ => .bad
  | _ => .bad
theorem s_dputT (cn : Cn X W k) (i : Nat) {x : Str} {ke : Expr} {p1 p2 : Pos} (he : PE X e (tG .s X.K S0 H0 W d)) (hk : PE X ke (tG .s X.K S0 H0 W dk)) (hN : X.N[i]? = some x := by rfl) (hv : Vis X.env.scope x := by first | exact Or.inl rfl | exact Or.inr (Or.inl rfl) | exact Or.inr (Or.inr rfl)) (hd : (x == ("__debug__" : Str)) = false := by decide)
    (hcd : (x == ("__classdict__" : Str)) = false := by decide)
    (hs : swapsWith e (some (.Subscript (.Name x p1) ke p2)) pos.line X.env = pure false := by rfl) :
    PS X (.Assign [.Subscript (.Name x p1) ke p2] e pos) (tS m X.K S0 H0 W (sDPutT i dk d)) := ps_imp (ps_dput (by have := cn.room.units; omega) (pe_var hN hv hd hcd) hk he hs) fun D σ H ⟨ev, ps, r, z⟩ => by
  refine ⟨ev, ps, r, R.on_mono (R.fl_on z) (fun u q v H1 s1 p1 => ?_) fun c fs q cls dd H' s x => q cls dd σ H' (r.up s) x⟩
  split at q
  · rename_i ts e0
    obtain ⟨a, g1, _, _, _⟩ := r.own i _ e0
    refine ⟨.ref a, g1, ev, ps, r.up s1, R.on_mono (R.fl_on q) (fun kt q2 kv H2 s2 p2 => ?_) fun c fs q cls dd H' s x => q cls dd σ H' (r.up (s1.trans s)) x⟩
    have r2 := r.up (s1.trans s2)
    obtain ⟨a', g1', _, _, c1⟩ := r2.own i _ e0
    rw [g1] at g1'
    cases g1'
    split at q2
    · rename_i kts
      have p2 : IsT X.K (Sx S0 σ ev) H2 kv (.tup kts) := p2
      split at q2
      · rename_i ky ek
        obtain ⟨b, ys, rfl, hb, rb⟩ := Pm.tup (m := .s) (K := X.K) (S := Sx S0 σ ev) (H := H2) p2
        have ekv := keys_v rb ek
        subst ekv
        by_cases hl : ts.length < sizeLine
        · rw [if_pos hl] at q2
          cases c1 with
          | @dit xs _ h rs =>
            refine ⟨a, _, rfl, DPut.t h hb.2 (by rw [rs.len]; exact hl), q2 _ _ (r2.write e0 g1 ?_)⟩
            have nn : Sx S0 σ ev a := .inr ⟨i, _, e0, g1⟩
            have mv : Mv (Sx S0 σ ev) (Sx S0 σ ev) H2 (upd H2 a (.dT (putK xs ky v))) := fun b w g nb => ⟨by rw [upd_ne (fun y => nb (by rw [y]; exact nn))]; exact g, nb⟩
            exact .dit upd_same (IsLs.put (IsT.mv mv (IsT.mv (mv_same s2) p1)) (rs.mv mv))
        · rw [if_neg hl] at q2
          exact q2.elim
      · exact q2.elim
    · exact q2.elim
  · exact q.elim
end
end DL
set_option maxHeartbeats 2000000
namespace L2
open PySem PySem.Spec PyProof.Rows DL
theorem keys_pair {H : Hp} : ∀ {kvs : List (List Key × V)} {bs : List Addr} {nss : List (List Int)}, IsKeys H kvs bs → kvs.map (·.1) = nss.map (fun ns => ns.map Sum.inl) → Paired (fun ns b => H b = some (.tup (ns.map V.int))) nss bs
  | [], _, nss, h, e => by
    cases h
    cases nss with
    | nil => exact .nil
    | cons n r => cases e
  | kv :: kvs, _, nss, h, e => by
    cases h with
    | cons h t =>
      cases nss with
      | nil => cases e
      | cons n r =>
        rw [List.map_cons, List.map_cons] at e
        obtain ⟨e1, e2⟩ := List.cons.inj e
        refine .cons ?_ (keys_pair t e2)
        have h : _ = some (HO.tup (kv.1.map kV)) := h
        have e1 : kv.1 = n.map Sum.inl := e1
        rw [h, e1, List.map_map]
        rfl
theorem pair_get {α β : Type} {R : α → β → Prop} : ∀ {xs : List α} {ys : List β}, Paired R xs ys → ∀ y ∈ ys, ∃ x ∈ xs, R x y
  | _, _, .nil, y, h => by cases h
  | _, _, .cons h t, y, hy => by
    rcases List.mem_cons.mp hy with e | e
    · rw [e]; exact ⟨_, List.mem_cons_self, h⟩
    · obtain ⟨x, hx, r⟩ := pair_get t y e
      exact ⟨x, List.mem_cons_of_mem _ hx, r⟩
theorem pair_map {α β : Type} {R : α → β → Prop} {f : β → α} (hf : ∀ x y, R x y → f y = x) : ∀ {xs : List α} {ys : List β}, Paired R xs ys → ys.map f = xs
  | _, _, .nil => rfl
  | _, _, .cons h t => by rw [List.map_cons, hf _ _ h, pair_map hf t]
section
variable {X : Cx}
theorem call_sortedDT {d : Nat} {B : Int} (hd1 : 1 ≤ d) (hc : X.calm = true) : CallR X (.builtin "sorted") (fun xs H Q => ∃ (a : Addr) (kvs : List (List Key × V)) (nss : List (List Int)), xs = [.ref a] ∧ Rd H a (.dT kvs) ∧ kvs.map (·.1) = nss.map (fun ns => ns.map Sum.inl) ∧ nss.length ≤ 4000 ∧ (∀ ns ∈ nss, ns.length = d ∧ TS.Bd B ns) ∧
    ∀ (out : List (Addr × List Int)) (p : Addr), (out.map Prod.snd).Perm nss → (out.map Prod.snd).Pairwise (fun n m => TS.code B n ≤ TS.code B m) → (∀ q ∈ out, H q.1 = some (.tup (q.2.map V.int))) → H p = none → Q (.ref p) (upd H p (.lst (out.map fun q => V.ref q.1)))) := by
  intro pins s σ H xs us Q I r q
  obtain ⟨a, kvs, nss, ex, hd, hks, h64, hfit, q⟩ := q
  subst ex
  obtain ⟨u, eu, rx⟩ := vals1 r
  subst eu
  cases rx
  obtain ⟨z, hs, ks, pr, o, es, ep, ho, hx, hdt, he, hn⟩ := (show ObjOk X.prog X.w H s.heap a (.dT kvs) from hd.ok I.hok)
  have l1 : es.size = ks.length := size_of_entries he
  have l2 : kvs.length = ks.length := Paired.length pr
  have l3 : kvs.length = nss.length := by
    have e := congrArg List.length hks
    rw [List.length_map, List.length_map] at e
    exact e
  have kp := keys_pair (isKeys_of pr) hks
  refine Calls.call_function_entry PyProof.Rows.kind_sorted PyProof.Rows.plain_sorted PyProof.Rows.entry_sorted (PyProof.Rows.args_sorted1 _) ?_
  unfold Builtin.«sorted»
  refine wpAny_bind (m := checkCount "sorted" 1 1 _) (wpAny_pure ?_)
  refine wpAny_bind (PySem.W.kdu_collect (A := X.A.in1) (kdl_raw hs hx hdt) (I.ok.hd hc) ho (by omega) fun h' tk acc hk it => ?_)
  have ea : acc.toList = (ks.map fun x => x.2.1).map Value.ref := by
    rw [List.map_map]
    have hl : acc.toList.length = ks.length := by rw [Array.length_toList, it.1]; exact l1
    apply List.ext_getElem?
    intro j
    rw [List.getElem?_map]
    cases hj : acc.toList[j]? with
    | none =>
      have h1 := List.getElem?_eq_none_iff.mp hj
      rw [List.getElem?_eq_none (by omega)]
      all_goals rfl
    | some v =>
      obtain ⟨en, hen, hv⟩ := it.2 j v (by rw [← Array.getElem?_toList]; exact hj)
      have qe := entry_at he j
      rw [hen] at qe
      cases hb : ks[j]? with
      | none =>
        rw [hb] at qe
        exact nomatch (show some en = none from qe)
      | some b =>
        rw [hb] at qe
        have e2 : en = entryOfKey (tupleKind (mixKind X.prog X.w)) b := Option.some.inj qe
        rw [hv, e2]
        all_goals rfl
  generalize hbs : (ks.map fun x => x.2.1) = bs at *
  have bl : bs.length = nss.length := by rw [← hbs, List.length_map]; omega
  have hal : acc.toList.length = nss.length := by rw [ea, List.length_map]; exact bl
  have I1 : Inv X pins σ H { s with heap := h', toks := tk } := I.kept hk
  refine wpAny_bind (wpAny_newList ?_ (by rw [hal, sizeLine_eq]; omega))
  have hoL : (h'.push (seqObj "list" acc.toList.toArray 0)).get? h'.objs.size = some (seqObj "list" acc.toList.toArray 0) := Heap.get?_push_size _ rfl
  show wpAny _ _ _ _ _ { s with heap := h'.push (seqObj "list" acc.toList.toArray 0), toks := tk }
  have keepP : ∀ b o, h'.get? b = some o → o.cls = .type "tuple" → (h'.push (seqObj "list" acc.toList.toArray 0)).get? b = some o := fun b o e _ => Heap.get?_push_of_some _ e
  have tupB : ∀ ns b, H b = some (.tup (ns.map V.int)) → TS.TupInts (h'.push (seqObj "list" acc.toList.toArray 0)) (.ref b) ns := fun ns b hb => (tupI_raw I1 (.inl (.inl hb))).keeps keepP
  have tok : TS.TupsOk (h'.push (seqObj "list" acc.toList.toArray 0)) d B acc.toList := fun v hv => by
    rw [ea] at hv
    obtain ⟨b, hb, rfl⟩ := List.mem_map.mp hv
    obtain ⟨ns, hns, hh⟩ := pair_get kp b hb
    exact ⟨ns, tupB ns b hh, hfit ns hns⟩
  refine wpAny_bind (wpAny_holding (TS.call_sort_tupsAny (s := { s with heap := h'.push (seqObj "list" acc.toList.toArray 0), toks := tk }) hoL (by rw [hal, sizeLine_eq]; omega) hd1 tok fun out g1 g2 => ?_))
  obtain ⟨e', he'⟩ := PyProof.Rows.sortedHeap_at (vs := acc.toList) (out := out) hoL
  -- what comes out, as addresses with their numbers
  have outE : ∀ v ∈ out.toList, ∃ b ns, v = .ref b ∧ H b = some (.tup (ns.map V.int)) ∧ TS.intsOf (h'.push (seqObj "list" acc.toList.toArray 0)) v = ns := fun v hv => by
    have hv' := g1.mem_iff.mp hv
    rw [ea] at hv'
    obtain ⟨b, hb, rfl⟩ := List.mem_map.mp hv'
    obtain ⟨ns, hns, hh⟩ := pair_get kp b hb
    exact ⟨b, ns, rfl, hh, (tupB ns b hh).ints⟩
  have mk : ∀ vs : List Value, (∀ v ∈ vs, ∃ b ns, v = .ref b ∧ H b = some (.tup (ns.map V.int)) ∧ TS.intsOf (h'.push (seqObj "list" acc.toList.toArray 0)) v = ns) →
      ∃ o2 : List (Addr × List Int), vs = o2.map (fun q => Value.ref q.1) ∧ (∀ q ∈ o2, H q.1 = some (.tup (q.2.map V.int))) ∧ o2.map Prod.snd = vs.map (TS.intsOf (h'.push (seqObj "list" acc.toList.toArray 0))) := fun vs => by
    induction vs with
    | nil => intro _; exact ⟨[], rfl, (fun q h => by cases h), rfl⟩
    | cons v vs ih =>
      intro h
      obtain ⟨b, ns, rfl, h1, h2⟩ := h v (by simp)
      obtain ⟨o2, e1, e2, e3⟩ := ih fun w hw => h w (List.mem_cons_of_mem _ hw)
      refine ⟨(b, ns) :: o2, by rw [e1]; rfl, fun q hq => ?_, by rw [List.map_cons, List.map_cons, h2, e3]⟩
      rcases List.mem_cons.mp hq with e | e
      · rw [e]; exact h1
      · exact e2 q e
  obtain ⟨o2, e1, e2, e3⟩ := mk out.toList outE
  have nssE : acc.toList.map (TS.intsOf (h'.push (seqObj "list" acc.toList.toArray 0))) = nss := by
    refine (congrArg (List.map (TS.intsOf (h'.push (seqObj "list" acc.toList.toArray 0)))) ea).trans ?_
    rw [List.map_map]
    exact pair_map (fun ns b hb => (tupB ns b hb).ints) kp
  have perm : (o2.map Prod.snd).Perm nss := by
    rw [e3, ← nssE]
    exact g1.map _
  have pw : (o2.map Prod.snd).Pairwise (fun n m => TS.code B n ≤ TS.code B m) := by
    rw [e3, List.pairwise_map]
    exact g2
  have hlen : (o2.map fun q => V.ref q.1).length ≤ sizeLine := by
    have hp := perm.length_eq
    rw [List.length_map] at hp
    rw [List.length_map, hp, sizeLine_eq]; omega
  have rv : Vals (o2.map fun q => V.ref q.1) out.toList := by
    rw [e1]
    have := vals_refs (o2.map Prod.fst)
    rw [List.map_map, List.map_map] at this
    exact this
  refine wpAny_pure ⟨_, rfl, .ref h'.objs.size, upd H h'.objs.size (.lst (o2.map fun q => V.ref q.1)), I1.laid (t' := tk) (fun b u e => ?_) (Nat.le_refl _)
    (show ObjOk X.prog X.w _ _ _ (.lst (o2.map fun q => V.ref q.1)) from ⟨hlen, out.toList, e', rv, by rw [Array.toArray_toList]; exact he'⟩), rfl, q o2 _ perm pw e2 (I1.hok.fresh (Nat.le_refl _))⟩
  have hb : b < h'.objs.size := Heap.lt_size e
  rw [PyProof.Rows.sortedHeap_old (Nat.ne_of_lt hb) (by rw [size_push']; exact Nat.lt_succ_of_lt hb)]
  exact Heap.get?_push_of_some _ e
end
end L2
namespace DL
open PySem PySem.Spec PyProof.Rows L2
def intK : List Key → Option (List Int)
  | [] => some []
  | .inl i :: r => (intK r).map (i :: ·)
  | .inr _ :: _ => none
def intLs : List (List Key × T) → Option (List (List Int))
  | [] => some []
  | (k, _) :: r => match intK k, intLs r with
    | some n, some ns => some (n :: ns)
    | _, _ => none
theorem intK_is : ∀ {ks : List Key} {ns : List Int}, intK ks = some ns → ks = ns.map Sum.inl
  | [], _, h => by cases h; rfl
  | .inl i :: r, ns, h => by
    obtain ⟨n2, e, rfl⟩ := Option.map_eq_some_iff.mp (show (intK r).map (i :: ·) = some ns from h)
    rw [List.map_cons, ← intK_is e]
  | .inr _ :: _, ns, h => by cases h
theorem intLs_is : ∀ {kvs : List (List Key × T)} {nss : List (List Int)}, intLs kvs = some nss → kvs.map (·.1) = nss.map (fun ns => ns.map Sum.inl)
  | [], _, h => by cases h; rfl
  | (k, t) :: r, nss, h => by
    unfold intLs at h
    cases e1 : intK k with
    | none => rw [e1] at h; cases h
    | some n =>
      cases e2 : intLs r with
      | none => rw [e1, e2] at h; cases h
      | some n2 =>
        rw [e1, e2] at h
        cases h
        rw [List.map_cons, List.map_cons, intLs_is e2, intK_is e1]
def sortedDT1L : List T → Option T
  | [.dit kvs] => match intLs kvs with
    | some nss => if nss.length ≤ 4000 ∧ okTups nss = true then some (.lst ((sortL nss).map fun ks => .tup (ks.map .int))) else none
    | none => none
  | _ => none
theorem ints_ts {K : PySem.W.Frag} {S : Addr → Prop} {H : Hp} : ∀ ns : List Int, IsTs K S H (ns.map V.int) (ns.map T.int)
  | [] => .nil
  | n :: ns => .cons (.int n) (ints_ts ns)
section
variable {X : Cx} {e : Expr} {S0 : Addr → Prop} {H0 : Hp} {W : WX} {d : Lo → R T} {pos : Pos} {k : Nat}
theorem b_sortedDT (hc : X.calm = true) : ∃ r : List V → Hp → VK → Prop, CallR X (.builtin "sorted") r ∧ BOk X.K .f r sortedDT1L := by
  refine ⟨fun vs H Q => ∃ d : Nat, 1 ≤ d ∧ (∃ (a : Addr) (kvs : List (List Key × V)) (nss : List (List Int)), vs = [.ref a] ∧ Rd H a (.dT kvs) ∧ kvs.map (·.1) = nss.map (fun ns => ns.map Sum.inl) ∧ nss.length ≤ 4000 ∧ (∀ ns ∈ nss, ns.length = d ∧ TS.Bd bigB ns) ∧
    ∀ (out : List (Addr × List Int)) (p : Addr), (out.map Prod.snd).Perm nss → (out.map Prod.snd).Pairwise (fun n m => TS.code bigB n ≤ TS.code bigB m) → (∀ q ∈ out, H q.1 = some (.tup (q.2.map V.int))) → H p = none → Q (.ref p) (upd H p (.lst (out.map fun q => V.ref q.1)))),
    fun pins s σ H xs us Q I r ⟨d, hd, h⟩ => call_sortedDT hd hc pins s σ H xs us Q I r h, fun S H vs ts w Q hs p e z => ?_⟩
  unfold sortedDT1L at e
  split at e
  · rename_i kvs
    obtain ⟨v, rfl, q⟩ := one_w p
    cases ek : intLs kvs with
    | none => rw [ek] at e; cases e
    | some nss =>
      rw [ek] at e
      obtain ⟨⟨hl, ho⟩, rfl⟩ := some_if (show (if nss.length ≤ 4000 ∧ okTups nss = true then some (T.lst ((sortL nss).map fun ks => .tup (ks.map .int))) else none) = some w from e)
      obtain ⟨a, xs, rfl, h, r⟩ := dit_at q
      have fit : ∃ d, 1 ≤ d ∧ FitL d nss := by
        cases nss with
        | nil => exact ⟨1, Nat.le_refl _, fun ks h => by cases h⟩
        | cons k0 kr =>
          unfold okTups at ho
          simp only [Bool.and_eq_true, decide_eq_true_eq, List.all_eq_true, beq_iff_eq] at ho
          exact ⟨k0.length, ho.1, fun ks hk => ⟨(ho.2 ks hk).1, fun m hm => (ho.2 ks hk).2 m hm⟩⟩
      obtain ⟨d, hd, fit⟩ := fit
      refine ⟨d, hd, a, xs, nss, rfl, .inl h, by rw [r.keys, intLs_is ek], hl, fit, fun out p' pm pw ht hn => ?_⟩
      have es := sortL_is fit pm pw
      rw [← es] at z
      refine z _ _ (same_upd hn) (new_lst hn ?_)
      have go : ∀ o2 : List (Addr × List Int), (∀ q ∈ o2, H q.1 = some (.tup (q.2.map V.int))) → IsTs X.K S H (o2.map fun q => V.ref q.1) ((o2.map Prod.snd).map fun ks => T.tup (ks.map .int)) := fun o2 => by
        induction o2 with
        | nil => intro _; exact .nil
        | cons q o2 ih =>
          intro hq
          have h1 := hq q (by simp)
          refine .cons (.tup ⟨fun y => ?_, h1⟩ (ints_ts _)) (ih fun q' h' => hq q' (List.mem_cons_of_mem _ h'))
          obtain ⟨o, e1, e2⟩ := hs _ y
          rw [h1] at e1
          cases e1
          exact e2 _ rfl
      exact go out ht
  · cases e
theorem e_sortedDT {p : Pos} (cn : Cn X W k) (hm : X.mg "sorted" = none) (ha : PE X e (tG .w X.K S0 H0 W d)) (hg : Gl X "sorted" := by rfl) (hs : starEach [e] X.env = (false, eval e X.env) :: starEach [] X.env := by rfl) :
    PE X (.Call (.Name "sorted" p) [e] [] pos) (tG .f X.K S0 H0 W (dBlt sortedDT1L (dCons d dNil))) := by
  obtain ⟨r, h1, h2⟩ := b_sortedDT (X := X) cn.calm
  exact e_blt h1 h2 hm (by decide +kernel) (w_cons ha w_nil hs) hg (he := hs)
end
end DL
set_option maxHeartbeats 2000000
namespace DL
open PySem PySem.Spec PyProof.Rows L2
section
variable {X : Cx} {e a b c k : Expr} {S0 : Addr → Prop} {H0 : Hp} {W : WX} {d : Lo → R T} {ds : Lo → R (List T)} {pos : Pos} {n : Nat}
def dDisp1 (i : Int) (d : Lo → R T) : Lo → R T := fun ev => match d ev with
  | .ok t => .ok (.dic [(.inl i, t)])
  | _ => .bad
theorem e_disp1 {i : Int} (hk : ∀ S, PE X k (tG .s X.K S H0 W (dC (.int i)))) (he : ∀ S, PE X e (tG .s X.K S H0 W d)) : PE X (.Dict [some k] [e] pos) (tG .f X.K S0 H0 W (dDisp1 i d)) :=
  pe_imp (pe_disp (trs := [(fun σ H Q => ∃ S, tG .s X.K S H0 W (dC (.int i)) σ H Q, fun σ H Q => ∃ S, tG .s X.K S H0 W d σ H Q)])
    (pps_cons ⟨fun pins s σ H Q I ⟨S, z⟩ => (hk S).run pins s σ H Q I z⟩ ⟨fun pins s σ H Q I ⟨S, z⟩ => (he S).run pins s σ H Q I z⟩ pps_nil) rfl rfl (by simp) (by simp)) fun σ H Q ⟨ev, ps, r, z⟩ p hp => by
  have r1 : Rp X.K (Sb S0 σ ev [] p) H0 ps σ (upd H p (.dK [])) ev := r.block (vs := []) hp
  refine ⟨Sb S0 σ ev [] p, ev, ps, r1, fun x H1 s1 px => ?_⟩
  have px := px.int
  subst px
  refine ⟨Sb S0 σ ev [] p, ev, ps, r1.up s1, ?_⟩
  unfold dDisp1 at z
  cases ed : d ev with
  | bad => rw [ed] at z; exact z.elim
  | ex _ _ => rw [ed] at z; exact z.elim
  | ok t =>
    rw [ed] at z
    intro y H2 s2 py'
    have h2 : H2 p = some (.dK []) := (s1.trans s2) _ _ upd_same
    refine ⟨h2, [(.inl i, y)], rfl, by simp, z _ _ (fun a u e => ?_) (.inr ⟨p, rfl, hp, .dic upd_same (.cons ?_ .nil)⟩)⟩
    · have ne : a ≠ p := ne_of_none e hp
      rw [upd_ne ne]
      exact (s1.trans s2) _ _ (same_upd hp _ _ e)
    · refine IsT.mv (fun a u e n => ?_) (show IsT X.K (Sx (Sb S0 σ ev [] p) σ ev) H2 y t from py')
      have n2 : ¬ (Sx S0 σ ev a ∨ a = p) := fun q => n (sb_iff.mpr q)
      exact ⟨by rw [upd_ne fun q => n2 (.inr q)]; exact e, n2⟩
def max3L : List T → Option T
  | [.int a, .int b, .int c] => some (.int (if (if b > a then b else a) < c then c else (if b > a then b else a)))
  | _ => none
def min3L : List T → Option T
  | [.int a, .int b, .int c] => some (.int (if c < (if b < a then b else a) then c else (if b < a then b else a)))
  | _ => none
theorem b_max3 : BOk X.K .f (rNuC3 nuMax3) max3L := fun S H vs ts w Q hs p e z => by
  unfold max3L at e
  split at e
  · rename_i a b c
    cases e
    obtain ⟨v, v', v2, rfl, q, q', q2⟩ := three_w p
    rw [q.int, q'.int, q2.int]
    refine ⟨_, _, _, .int (if (if b > a then b else a) < c then c else (if b > a then b else a)), rfl, ?_, z _ _ (Same.refl _) (one_int _)⟩
    by_cases h : a < b
    · by_cases h2 : b < c <;> simp [nuMax3, nuMax2, nuLt, nuCB, h, h2]
    · by_cases h2 : a < c <;> simp [nuMax3, nuMax2, nuLt, nuCB, h, h2]
  · cases e
theorem b_min3 : BOk X.K .f (rNuC3 nuMin3) min3L := fun S H vs ts w Q hs p e z => by
  unfold min3L at e
  split at e
  · rename_i a b c
    cases e
    obtain ⟨v, v', v2, rfl, q, q', q2⟩ := three_w p
    rw [q.int, q'.int, q2.int]
    refine ⟨_, _, _, .int (if c < (if b < a then b else a) then c else (if b < a then b else a)), rfl, ?_, z _ _ (Same.refl _) (one_int _)⟩
    by_cases h : b < a
    · by_cases h2 : c < b <;> simp [nuMin3, nuMin2, nuLt, nuCB, h, h2]
    · by_cases h2 : c < a <;> simp [nuMin3, nuMin2, nuLt, nuCB, h, h2]
  · cases e
theorem e_max3 {p : Pos} (cn : Cn X W n) (hm : X.mg "max" = none) (ha : PA X [a, b, c] (tAw X.K S0 H0 W ds)) (hg : Gl X "max" := by rfl) (hs : starEach [a, b, c] X.env = (false, eval a X.env) :: starEach [b, c] X.env := by rfl) (hpl : (backTo pos (starEach [b, c] X.env)).any (·.1) = false := by rfl) :
    PE X (.Call (.Name "max" p) [a, b, c] [] pos) (tG .f X.K S0 H0 W (dBlt max3L ds)) := e_blt (call_max3Nu cn.calm) b_max3 hm (by decide +kernel) ha hg (he := hs) (hpl := hpl)
theorem e_min3 {p : Pos} (cn : Cn X W n) (hm : X.mg "min" = none) (ha : PA X [a, b, c] (tAw X.K S0 H0 W ds)) (hg : Gl X "min" := by rfl) (hs : starEach [a, b, c] X.env = (false, eval a X.env) :: starEach [b, c] X.env := by rfl) (hpl : (backTo pos (starEach [b, c] X.env)).any (·.1) = false := by rfl) :
    PE X (.Call (.Name "min" p) [a, b, c] [] pos) (tG .f X.K S0 H0 W (dBlt min3L ds)) := e_blt (call_min3Nu cn.calm) b_min3 hm (by decide +kernel) ha hg (he := hs) (hpl := hpl)
end
end DL
set_option maxHeartbeats 1000000
namespace DL
open PySem PySem.Spec PyProof.Rows L2
def vr : Option (Option (T × Bool)) → R T
  | some (some (t, false)) => .ok t
  | _ => .bad
def vw : Option (Option (T × Bool)) → R T
  | some (some (t, _)) => .ok t
  | _ => .bad
def ap1 (f : T → Option T) : R T → R T
  | .ok t => ofO (f t)
  | .ex c fs => .ex c fs
  | .bad => .bad
def ap2 (f : T → T → Option T) : R T → R T → R T
  | .ok t, .ok u => ofO (f t u)
  | .ok _, .ex c fs => .ex c fs
  | .ok _, .bad => .bad
  | .ex c fs, _ => .ex c fs
  | .bad, _ => .bad
def apT : R T → R Bool
  | .ok (.bl b) => .ok b
  | .ok _ => .bad
  | .ex c fs => .ex c fs
  | .bad => .bad
def apN : R Bool → R Bool
  | .ok b => .ok (!b)
  | .ex c fs => .ex c fs
  | .bad => .bad
def apAnd (r : R Bool) (b : Lo → R Bool) (ev : Lo) : R Bool := match r with
  | .ok true => b ev
  | .ok false => .ok false
  | .ex c fs => .ex c fs
  | .bad => .bad
def apOr (r : R Bool) (b : Lo → R Bool) (ev : Lo) : R Bool := match r with
  | .ok false => b ev
  | .ok true => .ok true
  | .ex c fs => .ex c fs
  | .bad => .bad
def apIf (r : R Bool) (a b : Lo → R T) (ev : Lo) : R T := match r with
  | .ok true => a ev
  | .ok false => b ev
  | .ex c fs => .ex c fs
  | .bad => .bad
def apAndV (r : R T) (b : Lo → R T) (ev : Lo) : R T := match r with
  | .ok (.bl true) => b ev
  | .ok (.bl false) => .ok (.bl false)
  | .ok _ => .bad
  | .ex c fs => .ex c fs
  | .bad => .bad
def apOrV (r : R T) (b : Lo → R T) (ev : Lo) : R T := match r with
  | .ok (.bl true) => .ok (.bl true)
  | .ok (.bl false) => b ev
  | .ok _ => .bad
  | .ex c fs => .ex c fs
  | .bad => .bad
def notT : T → Option T
  | .bl b => some (.bl (!b))
  | _ => none
def apC : R T → R (List T) → R (List T)
  | .ok t, .ok ts => .ok (t :: ts)
  | .ok _, .ex c fs => .ex c fs
  | .ok _, .bad => .bad
  | .ex c fs, _ => .ex c fs
  | .bad, _ => .bad
def apL (k : List T → T) : R (List T) → R T
  | .ok ts => if ts.length ≤ sizeLine then .ok (k ts) else .bad
  | .ex c fs => .ex c fs
  | .bad => .bad
def apB (f : List T → Option T) : R (List T) → R T
  | .ok ts => ofO (f ts)
  | .ex c fs => .ex c fs
  | .bad => .bad
def apCall (d : List T → R T) : R (List T) → R T
  | .ok ts => d ts
  | .ex c fs => .ex c fs
  | .bad => .bad
def apP : R T → R (Option Int)
  | .ok (.int i) => .ok (some i)
  | .ok _ => .bad
  | .ex c fs => .ex c fs
  | .bad => .bad
def apS : R T → R (Option Int) → R (Option Int) → R T
  | .ok t, .ok l, .ok h => ofO (sliceT t l h)
  | .ok _, .ok _, .ex c fs => .ex c fs
  | .ok _, .ok _, .bad => .bad
  | .ok _, .ex c fs, _ => .ex c fs
  | .ok _, .bad, _ => .bad
  | .ex c fs, _, _ => .ex c fs
  | .bad, _, _ => .bad
def apCh2 (g : T → T → Option T) (u : T) : Option T → (Lo → R T) → Lo → R T
  | some (.bl true), dc, ev => ap2 g (.ok u) (dc ev)
  | some (.bl false), _, _ => .ok (.bl false)
  | _, _, _ => .bad
def apCh (f g : T → T → Option T) : R T → R T → (Lo → R T) → Lo → R T
  | .ok t, .ok u, dc, ev => apCh2 g u (f t u) dc ev
  | .ok _, .ex c fs, _, _ => .ex c fs
  | .ok _, .bad, _, _ => .bad
  | .ex c fs, _, _, _ => .ex c fs
  | .bad, _, _, _ => .bad
def rngT (n : Nat) : List T := (List.range n).map fun (i : Nat) => T.int (i : Int)
def rngF (a : Int) (n : Nat) : List T := (List.range n).map fun (i : Nat) => T.int (a + (i : Int))
def rng1 : T → Option (List T)
  | .int n => if -(2 ^ 62) ≤ n ∧ n < 2 ^ 62 then some (rngT n.toNat) else none
  | _ => none
def rng2 : List T → Option (List T)
  | [.int a, .int b] => if -(2 ^ 62) ≤ a ∧ a < 2 ^ 62 ∧ -(2 ^ 62) ≤ b ∧ b < 2 ^ 62 then some (rngF a (b - a).toNat) else none
  | _ => none
def enumT : T → Option (List T)
  | .lst xs => some (enumL xs)
  | .scr ns => some (enumL (ns.map T.int))
  | _ => none
def apI {α : Type} (f : α → Option (List T)) : R α → R (List T)
  | .ok t => ofO (f t)
  | .ex c fs => .ex c fs
  | .bad => .bad
def flSeq : Fl → (Lo → Fl) → Fl
  | .nx e, b => b e
  | r, _ => r
def flIf : R Bool → (Lo → Fl) → (Lo → Fl) → Lo → Fl
  | .ok true, a, _, ev => a ev
  | .ok false, _, b, ev => b ev
  | .ex c fs, _, _, ev => .ex c fs ev
  | .bad, _, _, _ => .bad
def flV (k : T → Lo → Fl) : R T → Lo → Fl
  | .ok t, ev => k t ev
  | .ex c fs, ev => .ex c fs ev
  | .bad, _ => .bad
def kEx : T → Lo → Fl := fun _ ev => .nx ev
def kSet (i : Nat) : T → Lo → Fl := fun t ev => .nx (ev.set i (some (t, false)))
def kSetF (i : Nat) : T → Lo → Fl := fun t ev => .nx (ev.set i (some (t, isMut t)))
def kRet : T → Lo → Fl := fun t _ => .rt t
def kAsg (g : T → Lo → Option Lo) : T → Lo → Fl := fun t ev => match g t ev with
  | some e => .nx e
  | none => .bad
def flRetO (f : Bool) : Option (Option (T × Bool)) → Fl
  | some (some (t, true)) => .rt t
  | some (some (t, false)) => if f && isMut t then .bad else .rt t
  | _ => .bad
def flRel (i : Nat) (a : Lo → Fl) : Option (Option (T × Bool)) → Lo → Fl
  | some (some (t, true)), ev => a (ev.set i (some (t, false)))
  | _, ev => a ev
def flApp (i : Nat) : Option (Option (T × Bool)) → R T → Lo → Fl
  | some (some (.lst ts, true)), .ok u, ev => if ts.length < sizeLine then .nx (ev.set i (some (.lst (ts ++ [u]), true))) else .bad
  | some (some (.lst _, true)), .ex c fs, ev => .ex c fs ev
  | _, _, _ => .bad
def flSetIx (i : Nat) : R T → Option (Option (T × Bool)) → R T → Lo → Fl
  | .ok u, some (some (.lst ts, true)), .ok (.int j), ev => (match ixN ts.length j with
      | some n => .nx (ev.set i (some (.lst (ts.set n u), true)))
      | none => .bad)
  | .ok _, some (some (.lst _, true)), .ex c fs, ev => .ex c fs ev
  | .ex c fs, _, _, ev => .ex c fs ev
  | _, _, _, _ => .bad
def flFor (g : T → Lo → Option Lo) (body : Lo → Fl) : R (List T) → Lo → Fl
  | .ok ts, ev => forL g body ts ev
  | .ex c fs, ev => .ex c fs ev
  | .bad, _ => .bad
section
variable {i j n : Nat} {f g : T → T → Option T} {h : T → Option T} {a b c : Lo → R T} {p q : Lo → R Bool} {ev e : Lo} {t u w : T} {ts us : List T} {fs : List (Str × T)} {x : Str} {ds : Lo → R (List T)} {lo hi : Lo → R (Option Int)} {s s' : Lo → Fl} {o : Bool}
@[simp] theorem ap_dVar : dVar i ev = vr ev[i]? := by
  unfold dVar vr; first | rfl | (split <;> split <;> simp_all)
@[simp] theorem ap_dVarW : dVarW i ev = vw ev[i]? := by
  unfold dVarW vw; first | rfl | (split <;> split <;> simp_all)
@[simp] theorem vr_ok : vr (some (some (t, false))) = .ok t := Eq.trans rfl rfl
@[simp] theorem vw_ok : vw (some (some (t, o))) = .ok t := Eq.trans rfl rfl
@[simp] theorem ap_dC : dC t ev = .ok t := Eq.trans rfl rfl
@[simp] theorem ap_d1 : d1 h a ev = ap1 h (a ev) := by unfold d1; cases a ev <;> rfl
@[simp] theorem ap1_ok : ap1 h (.ok t) = ofO (h t) := Eq.trans rfl rfl
@[simp] theorem ap1_ex : ap1 h (.ex x fs) = .ex x fs := Eq.trans rfl rfl
@[simp] theorem ap_d2 : d2 f a b ev = ap2 f (a ev) (b ev) := by unfold d2; cases a ev <;> cases b ev <;> rfl
@[simp] theorem ap2_ok : ap2 f (.ok t) (.ok u) = ofO (f t u) := Eq.trans rfl rfl
@[simp] theorem ap2_ex1 {r : R T} : ap2 f (.ex x fs) r = .ex x fs := Eq.trans rfl rfl
@[simp] theorem ap2_ex2 : ap2 f (.ok t) (.ex x fs) = .ex x fs := Eq.trans rfl rfl
@[simp] theorem ap_dTest : dTest a ev = apT (a ev) := by
  unfold dTest
  cases a ev with
  | ok t => cases t <;> rfl
  | _ => rfl
@[simp] theorem apT_ok : apT (.ok (.bl o)) = .ok o := Eq.trans rfl rfl
@[simp] theorem apT_ex : apT (.ex x fs) = .ex x fs := Eq.trans rfl rfl
@[simp] theorem ap_dNot : dNot p ev = apN (p ev) := by unfold dNot; cases p ev <;> rfl
@[simp] theorem apN_ok : apN (.ok o) = .ok (!o) := Eq.trans rfl rfl
@[simp] theorem apN_ex : apN (.ex x fs) = .ex x fs := Eq.trans rfl rfl
@[simp] theorem ap_dAnd : dAnd p q ev = apAnd (p ev) q ev := by
  unfold dAnd
  cases p ev with
  | ok t => cases t <;> rfl
  | _ => rfl
@[simp] theorem apAnd_t : apAnd (.ok true) q ev = q ev := Eq.trans rfl rfl
@[simp] theorem apAnd_f : apAnd (.ok false) q ev = .ok false := Eq.trans rfl rfl
@[simp] theorem apAnd_ex : apAnd (.ex x fs) q ev = .ex x fs := Eq.trans rfl rfl
@[simp] theorem ap_dOr : dOr p q ev = apOr (p ev) q ev := by
  unfold dOr
  cases p ev with
  | ok t => cases t <;> rfl
  | _ => rfl
@[simp] theorem apOr_t : apOr (.ok true) q ev = .ok true := Eq.trans rfl rfl
@[simp] theorem apOr_f : apOr (.ok false) q ev = q ev := Eq.trans rfl rfl
@[simp] theorem apOr_ex : apOr (.ex x fs) q ev = .ex x fs := Eq.trans rfl rfl
@[simp] theorem ap_dIf : dIf p a b ev = apIf (p ev) a b ev := by
  unfold dIf
  cases p ev with
  | ok t => cases t <;> rfl
  | _ => rfl
@[simp] theorem apIf_t : apIf (.ok true) a b ev = a ev := Eq.trans rfl rfl
@[simp] theorem apIf_f : apIf (.ok false) a b ev = b ev := Eq.trans rfl rfl
@[simp] theorem apIf_ex : apIf (.ex x fs) a b ev = .ex x fs := Eq.trans rfl rfl
@[simp] theorem ap_dAndV : dAndV a b ev = apAndV (a ev) b ev := by
  unfold dAndV
  cases a ev with
  | ok t =>
    cases t with
    | bl o => cases o <;> rfl
    | _ => rfl
  | _ => rfl
@[simp] theorem apAndV_t : apAndV (.ok (.bl true)) b ev = b ev := Eq.trans rfl rfl
@[simp] theorem apAndV_f : apAndV (.ok (.bl false)) b ev = .ok (.bl false) := Eq.trans rfl rfl
@[simp] theorem apAndV_ex : apAndV (.ex x fs) b ev = .ex x fs := Eq.trans rfl rfl
@[simp] theorem ap_dOrV : dOrV a b ev = apOrV (a ev) b ev := by
  unfold dOrV
  cases a ev with
  | ok t =>
    cases t with
    | bl o => cases o <;> rfl
    | _ => rfl
  | _ => rfl
@[simp] theorem apOrV_t : apOrV (.ok (.bl true)) b ev = .ok (.bl true) := Eq.trans rfl rfl
@[simp] theorem apOrV_f : apOrV (.ok (.bl false)) b ev = b ev := Eq.trans rfl rfl
@[simp] theorem apOrV_ex : apOrV (.ex x fs) b ev = .ex x fs := Eq.trans rfl rfl
@[simp] theorem ap_dNotV : dNotV a ev = ap1 notT (a ev) := by
  unfold dNotV d1
  cases a ev with
  | ok t => cases t <;> rfl
  | _ => rfl
@[simp] theorem notT_bl : notT (.bl o) = some (.bl (!o)) := Eq.trans rfl rfl
@[simp] theorem ap_dNil : dNil ev = .ok [] := Eq.trans rfl rfl
@[simp] theorem ap_dCons : dCons a ds ev = apC (a ev) (ds ev) := by unfold dCons; cases a ev <;> cases ds ev <;> rfl
@[simp] theorem apC_ok : apC (.ok t) (.ok ts) = .ok (t :: ts) := Eq.trans rfl rfl
@[simp] theorem apC_ex1 {r : R (List T)} : apC (.ex x fs) r = .ex x fs := Eq.trans rfl rfl
@[simp] theorem apC_ex2 : apC (.ok t) (.ex x fs) = .ex x fs := Eq.trans rfl rfl
@[simp] theorem ap_dList : dList ds ev = apL .lst (ds ev) := by unfold dList; cases ds ev <;> rfl
@[simp] theorem ap_dTup : dTup ds ev = apL .tup (ds ev) := by unfold dTup; cases ds ev <;> rfl
@[simp] theorem apL_ok {k : List T → T} : apL k (.ok ts) = if ts.length ≤ sizeLine then .ok (k ts) else .bad := Eq.trans rfl rfl
@[simp] theorem apL_ex {k : List T → T} : apL k (.ex x fs) = .ex x fs := Eq.trans rfl rfl
@[simp] theorem ap_dBlt {f : List T → Option T} : dBlt f ds ev = apB f (ds ev) := by unfold dBlt; cases ds ev <;> rfl
@[simp] theorem apB_ok {f : List T → Option T} : apB f (.ok ts) = ofO (f ts) := Eq.trans rfl rfl
@[simp] theorem apB_ex {f : List T → Option T} : apB f (.ex x fs) = .ex x fs := Eq.trans rfl rfl
@[simp] theorem ap_dCall {d : List T → R T} : dCall d ds ev = apCall d (ds ev) := by unfold dCall; cases ds ev <;> rfl
@[simp] theorem apCall_ok {d : List T → R T} : apCall d (.ok ts) = d ts := Eq.trans rfl rfl
@[simp] theorem apCall_ex {d : List T → R T} : apCall d (.ex x fs) = .ex x fs := Eq.trans rfl rfl
@[simp] theorem ap_dPn : dPn ev = .ok none := Eq.trans rfl rfl
@[simp] theorem ap_dPs : dPs a ev = apP (a ev) := by
  unfold dPs
  cases a ev with
  | ok t => cases t <;> rfl
  | _ => rfl
@[simp] theorem apP_ok {i : Int} : apP (.ok (.int i)) = .ok (some i) := Eq.trans rfl rfl
@[simp] theorem ap_dSlice : dSlice a lo hi ev = apS (a ev) (lo ev) (hi ev) := by unfold dSlice; cases a ev <;> cases lo ev <;> cases hi ev <;> rfl
@[simp] theorem apS_ok {l h : Option Int} : apS (.ok t) (.ok l) (.ok h) = ofO (sliceT t l h) := Eq.trans rfl rfl
@[simp] theorem ap_dChain : dChain f g a b c ev = apCh f g (a ev) (b ev) c ev := by
  unfold dChain
  cases a ev with
  | ok t =>
    cases b ev with
    | ok u =>
      show ((ofO (f t u)).bind _) = apCh2 g u (f t u) c ev
      cases f t u with
      | none => rfl
      | some z =>
        cases z with
        | bl o =>
          cases o with
          | false => rfl
          | true => show (c ev).bind _ = ap2 g (.ok u) (c ev); cases c ev <;> rfl
        | _ => rfl
    | _ => rfl
  | _ => rfl
@[simp] theorem apCh_ok : apCh f g (.ok t) (.ok u) c ev = apCh2 g u (f t u) c ev := Eq.trans rfl rfl
@[simp] theorem apCh2_t : apCh2 g u (some (.bl true)) c ev = ap2 g (.ok u) (c ev) := Eq.trans rfl rfl
@[simp] theorem apCh2_f : apCh2 g u (some (.bl false)) c ev = .ok (.bl false) := Eq.trans rfl rfl
@[simp] theorem ap_dIter : dIter a ev = apI itemsT (a ev) := by unfold dIter; cases a ev <;> rfl
@[simp] theorem ap_dRng1 : dRng1 a ev = apI rng1 (a ev) := by
  unfold dRng1
  cases a ev with
  | ok t =>
    cases t with
    | int n => unfold apI rng1 rngT; simp only [R.bind]; split <;> rfl
    | _ => rfl
  | _ => rfl
theorem ap_rng2 : ∀ ts : List T, (match ts with
  | [.int a, .int b] => if -(2 ^ 62) ≤ a ∧ a < 2 ^ 62 ∧ -(2 ^ 62) ≤ b ∧ b < 2 ^ 62 then R.ok ((List.range (b - a).toNat).map fun (i : Nat) => T.int (a + (i : Int))) else .bad
  | _ => .bad) = ofO (rng2 ts) := fun ts => by
  unfold rng2 rngF
  split
  · split <;> rfl
  · rfl
@[simp] theorem ap_dRng2 : dRng2 ds ev = apI rng2 (ds ev) := by
  unfold dRng2
  cases ds ev with
  | ok t => exact ap_rng2 t
  | _ => rfl
@[simp] theorem ap_dEnum : dEnum a ev = apI enumT (a ev) := by
  unfold dEnum
  cases a ev with
  | ok t => cases t <;> rfl
  | _ => rfl
@[simp] theorem apI_ok {α : Type} {f : α → Option (List T)} {t : α} : apI f (.ok t) = ofO (f t) := Eq.trans rfl rfl
@[simp] theorem apI_ex {α : Type} {f : α → Option (List T)} : apI f (.ex x fs) = .ex x fs := Eq.trans rfl rfl
@[simp] theorem ap_sNx : sNx ev = .nx ev := Eq.trans rfl rfl
@[simp] theorem ap_sSeq : sSeq s s' ev = flSeq (s ev) s' := by unfold sSeq flSeq; cases s ev <;> rfl
@[simp] theorem flSeq_nx : flSeq (.nx e) s = s e := Eq.trans rfl rfl
@[simp] theorem flSeq_bk : flSeq (.bk e) s = .bk e := Eq.trans rfl rfl
@[simp] theorem flSeq_ct : flSeq (.ct e) s = .ct e := Eq.trans rfl rfl
@[simp] theorem flSeq_rt : flSeq (.rt t) s = .rt t := Eq.trans rfl rfl
@[simp] theorem flSeq_ex : flSeq (.ex x fs e) s = .ex x fs e := Eq.trans rfl rfl
@[simp] theorem ap_sIf : sIf p s s' ev = flIf (p ev) s s' ev := by
  unfold sIf
  cases p ev with
  | ok t => cases t <;> rfl
  | _ => rfl
@[simp] theorem flIf_t : flIf (.ok true) s s' ev = s ev := Eq.trans rfl rfl
@[simp] theorem flIf_f : flIf (.ok false) s s' ev = s' ev := Eq.trans rfl rfl
@[simp] theorem flIf_ex : flIf (.ex x fs) s s' ev = .ex x fs ev := Eq.trans rfl rfl
@[simp] theorem flV_ok {k : T → Lo → Fl} : flV k (.ok t) ev = k t ev := Eq.trans rfl rfl
@[simp] theorem flV_ex {k : T → Lo → Fl} : flV k (.ex x fs) ev = .ex x fs ev := Eq.trans rfl rfl
@[simp] theorem ap_sEx : sEx a ev = flV kEx (a ev) ev := by unfold sEx; cases a ev <;> rfl
@[simp] theorem ap_sSet : sSet i a ev = flV (kSet i) (a ev) ev := by unfold sSet; cases a ev <;> rfl
@[simp] theorem ap_sSetF : sSetF i a ev = flV (kSetF i) (a ev) ev := by unfold sSetF; cases a ev <;> rfl
@[simp] theorem ap_sRet : sRet a ev = flV kRet (a ev) ev := by unfold sRet; cases a ev <;> rfl
@[simp] theorem ap_sAsg {g : T → Lo → Option Lo} : sAsg g a ev = flV (kAsg g) (a ev) ev := by unfold sAsg; cases a ev <;> rfl
@[simp] theorem kEx_ap : kEx t ev = .nx ev := Eq.trans rfl rfl
@[simp] theorem kSet_ap : kSet i t ev = .nx (ev.set i (some (t, false))) := Eq.trans rfl rfl
@[simp] theorem kSetF_ap : kSetF i t ev = .nx (ev.set i (some (t, isMut t))) := Eq.trans rfl rfl
@[simp] theorem kRet_ap : kRet t ev = .rt t := Eq.trans rfl rfl
@[simp] theorem ap_sRetO : sRetO o i ev = flRetO o ev[i]? := by unfold sRetO flRetO; rfl
@[simp] theorem flRetO_own : flRetO o (some (some (t, true))) = .rt t := Eq.trans rfl rfl
@[simp] theorem flRetO_fr : flRetO o (some (some (t, false))) = if o && isMut t then .bad else .rt t := Eq.trans rfl rfl
@[simp] theorem ap_sRel : sRel i s ev = flRel i s ev[i]? ev := by
  unfold sRel
  generalize ev[i]? = z
  rcases z with _ | _ | ⟨t, _ | _⟩ <;> rfl
@[simp] theorem flRel_own : flRel i s (some (some (t, true))) ev = s (ev.set i (some (t, false))) := Eq.trans rfl rfl
@[simp] theorem flRel_fr : flRel i s (some (some (t, false))) ev = s ev := Eq.trans rfl rfl
@[simp] theorem ap_sApp : sApp i a ev = flApp i ev[i]? (a ev) ev := by
  unfold sApp
  generalize ev[i]? = z
  rcases z with _ | _ | ⟨t, _ | _⟩ <;> first | rfl | (cases a ev <;> rfl) | (cases t <;> cases a ev <;> rfl)
@[simp] theorem flApp_ok : flApp i (some (some (.lst ts, true))) (.ok u) ev = if ts.length < sizeLine then .nx (ev.set i (some (.lst (ts ++ [u]), true))) else .bad := Eq.trans rfl rfl
@[simp] theorem flApp_ex : flApp i (some (some (.lst ts, true))) (.ex x fs) ev = .ex x fs ev := Eq.trans rfl rfl
@[simp] theorem ap_sSetIx : sSetIx i b a ev = flSetIx i (a ev) ev[i]? (b ev) ev := by
  unfold sSetIx
  generalize ev[i]? = z
  cases a ev with
  | ok u =>
    show (match z with
      | some (some (.lst ts, true)) => (b ev).fl ev fun k => match k with
        | .int j => match ixN ts.length j with
          | some n => Fl.nx (ev.set i (some (.lst (ts.set n u), true)))
          | none => .bad
        | _ => .bad
      | _ => .bad) = _
    match z, b ev with
    | none, _ => rfl
    | some none, _ => rfl
    | some (some (t, false)), r => cases t <;> cases r <;> rfl
    | some (some (.lst ts, true)), .ok k => cases k <;> rfl
    | some (some (.lst ts, true)), .ex c fs => rfl
    | some (some (.lst ts, true)), .bad => rfl
    | some (some (.non, true)), r => cases r <;> rfl
    | some (some (.bl _, true)), r => cases r <;> rfl
    | some (some (.int _, true)), r => cases r <;> rfl
    | some (some (.str _, true)), r => cases r <;> rfl
    | some (some (.tup _, true)), r => cases r <;> rfl
    | some (some (.dic _, true)), r => cases r <;> rfl
    | some (some (.dit _, true)), r => cases r <;> rfl
    | some (some (.exc _ _, true)), r => cases r <;> rfl
    | some (some (.scr _, true)), r => cases r <;> rfl
    | some (some (.ins _ _, true)), r => cases r <;> rfl
    | some (some (.ob _, true)), r => cases r <;> rfl
  | ex c fs => rfl
  | bad => rfl
@[simp] theorem ap_sFor {g : T → Lo → Option Lo} {di : Lo → R (List T)} : sFor di g s ev = flFor g s (di ev) ev := by unfold sFor; cases di ev <;> rfl
@[simp] theorem flFor_ok {g : T → Lo → Option Lo} : flFor g s (.ok ts) ev = forL g s ts ev := Eq.trans rfl rfl
@[simp] theorem flFor_ex {g : T → Lo → Option Lo} : flFor g s (.ex x fs) ev = .ex x fs ev := Eq.trans rfl rfl
@[simp] theorem gNm_ap : gNm i t ev = some (ev.set i (some (t, false))) := Eq.trans rfl rfl
@[simp] theorem gTp_ap {gs : List T → Lo → Option Lo} : gTp n gs (.tup ts) ev = if ts.length = n then gs ts ev else none := Eq.trans rfl rfl
@[simp] theorem gTp_ap2 {gs : List T → Lo → Option Lo} : gTp n gs (.lst ts) ev = if ts.length = n then gs ts ev else none := Eq.trans rfl rfl
@[simp] theorem gCons_ap {g : T → Lo → Option Lo} {gs : List T → Lo → Option Lo} : gCons g gs (t :: ts) ev = (g t ev).bind (gs ts) := Eq.trans rfl rfl
@[simp] theorem gNil_ap : gNil [] ev = some ev := Eq.trans rfl rfl
@[simp] theorem fin_nx : fin (.nx ev) = .ok .non := Eq.trans rfl rfl
@[simp] theorem fin_rt : fin (.rt t) = .ok t := Eq.trans rfl rfl
@[simp] theorem fin_ex : fin (.ex x fs ev) = .ex x fs := Eq.trans rfl rfl
end
section
variable {α : Type} {l : List α} {y a0 a1 a2 a3 a4 a5 a6 a7 a8 a9 a10 a11 a12 a13 a14 a15 a16 a17 a18 a19 a20 a21 a22 a23 a24 a25 a26 a27 a28 a29 a30 a31 a32 a33 a34 a35 a36 a37 a38 a39 : α}
@[simp high] theorem ix0 : (a0 :: l)[0]? = some a0 := Eq.trans rfl rfl
@[simp high] theorem st0 : (a0 :: l).set 0 y = y :: l := Eq.trans rfl rfl
@[simp high] theorem ix1 : (a0 :: a1 :: l)[1]? = some a1 := Eq.trans rfl rfl
@[simp high] theorem st1 : (a0 :: a1 :: l).set 1 y = a0 :: y :: l := Eq.trans rfl rfl
@[simp high] theorem ix2 : (a0 :: a1 :: a2 :: l)[2]? = some a2 := Eq.trans rfl rfl
@[simp high] theorem st2 : (a0 :: a1 :: a2 :: l).set 2 y = a0 :: a1 :: y :: l := Eq.trans rfl rfl
@[simp high] theorem ix3 : (a0 :: a1 :: a2 :: a3 :: l)[3]? = some a3 := Eq.trans rfl rfl
@[simp high] theorem st3 : (a0 :: a1 :: a2 :: a3 :: l).set 3 y = a0 :: a1 :: a2 :: y :: l := Eq.trans rfl rfl
@[simp high] theorem ix4 : (a0 :: a1 :: a2 :: a3 :: a4 :: l)[4]? = some a4 := Eq.trans rfl rfl
@[simp high] theorem st4 : (a0 :: a1 :: a2 :: a3 :: a4 :: l).set 4 y = a0 :: a1 :: a2 :: a3 :: y :: l := Eq.trans rfl rfl
@[simp high] theorem ix5 : (a0 :: a1 :: a2 :: a3 :: a4 :: a5 :: l)[5]? = some a5 := Eq.trans rfl rfl
@[simp high] theorem st5 : (a0 :: a1 :: a2 :: a3 :: a4 :: a5 :: l).set 5 y = a0 :: a1 :: a2 :: a3 :: a4 :: y :: l := Eq.trans rfl rfl
@[simp high] theorem ix6 : (a0 :: a1 :: a2 :: a3 :: a4 :: a5 :: a6 :: l)[6]? = some a6 := Eq.trans rfl rfl
@[simp high] theorem st6 : (a0 :: a1 :: a2 :: a3 :: a4 :: a5 :: a6 :: l).set 6 y = a0 :: a1 :: a2 :: a3 :: a4 :: a5 :: y :: l := Eq.trans rfl rfl
@[simp high] theorem ix7 : (a0 :: a1 :: a2 :: a3 :: a4 :: a5 :: a6 :: a7 :: l)[7]? = some a7 := Eq.trans rfl rfl
@[simp high] theorem st7 : (a0 :: a1 :: a2 :: a3 :: a4 :: a5 :: a6 :: a7 :: l).set 7 y = a0 :: a1 :: a2 :: a3 :: a4 :: a5 :: a6 :: y :: l := Eq.trans rfl rfl
@[simp high] theorem ix8 : (a0 :: a1 :: a2 :: a3 :: a4 :: a5 :: a6 :: a7 :: a8 :: l)[8]? = some a8 := Eq.trans rfl rfl
@[simp high] theorem st8 : (a0 :: a1 :: a2 :: a3 :: a4 :: a5 :: a6 :: a7 :: a8 :: l).set 8 y = a0 :: a1 :: a2 :: a3 :: a4 :: a5 :: a6 :: a7 :: y :: l := Eq.trans rfl rfl
@[simp high] theorem ix9 : (a0 :: a1 :: a2 :: a3 :: a4 :: a5 :: a6 :: a7 :: a8 :: a9 :: l)[9]? = some a9 := Eq.trans rfl rfl
@[simp high] theorem st9 : (a0 :: a1 :: a2 :: a3 :: a4 :: a5 :: a6 :: a7 :: a8 :: a9 :: l).set 9 y = a0 :: a1 :: a2 :: a3 :: a4 :: a5 :: a6 :: a7 :: a8 :: y :: l := Eq.trans rfl rfl
@[simp high] theorem ix10 : (a0 :: a1 :: a2 :: a3 :: a4 :: a5 :: a6 :: a7 :: a8 :: a9 :: a10 :: l)[10]? = some a10 := Eq.trans rfl rfl
@[simp high] theorem st10 : (a0 :: a1 :: a2 :: a3 :: a4 :: a5 :: a6 :: a7 :: a8 :: a9 :: a10 :: l).set 10 y = a0 :: a1 :: a2 :: a3 :: a4 :: a5 :: a6 :: a7 :: a8 :: a9 :: y :: l := Eq.trans rfl rfl
@[simp high] theorem ix11 : (a0 :: a1 :: a2 :: a3 :: a4 :: a5 :: a6 :: a7 :: a8 :: a9 :: a10 :: a11 :: l)[11]? = some a11 := Eq.trans rfl rfl
@[simp high] theorem st11 : (a0 :: a1 :: a2 :: a3 :: a4 :: a5 :: a6 :: a7 :: a8 :: a9 :: a10 :: a11 :: l).set 11 y = a0 :: a1 :: a2 :: a3 :: a4 :: a5 :: a6 :: a7 :: a8 :: a9 :: a10 :: y :: l := Eq.trans rfl rfl
@[simp high] theorem ix12 : (a0 :: a1 :: a2 :: a3 :: a4 :: a5 :: a6 :: a7 :: a8 :: a9 :: a10 :: a11 :: a12 :: l)[12]? = some a12 := Eq.trans rfl rfl
@[simp high] theorem st12 : (a0 :: a1 :: a2 :: a3 :: a4 :: a5 :: a6 :: a7 :: a8 :: a9 :: a10 :: a11 :: a12 :: l).set 12 y = a0 :: a1 :: a2 :: a3 :: a4 :: a5 :: a6 :: a7 :: a8 :: a9 :: a10 :: a11 :: y :: l := Eq.trans rfl rfl
@[simp high] theorem ix13 : (a0 :: a1 :: a2 :: a3 :: a4 :: a5 :: a6 :: a7 :: a8 :: a9 :: a10 :: a11 :: a12 :: a13 :: l)[13]? = some a13 := Eq.trans rfl rfl
@[simp high] theorem st13 : (a0 :: a1 :: a2 :: a3 :: a4 :: a5 :: a6 :: a7 :: a8 :: a9 :: a10 :: a11 :: a12 :: a13 :: l).set 13 y = a0 :: a1 :: a2 :: a3 :: a4 :: a5 :: a6 :: a7 :: a8 :: a9 :: a10 :: a11 :: a12 :: y :: l := Eq.trans rfl rfl
@[simp high] theorem ix14 : (a0 :: a1 :: a2 :: a3 :: a4 :: a5 :: a6 :: a7 :: a8 :: a9 :: a10 :: a11 :: a12 :: a13 :: a14 :: l)[14]? = some a14 := Eq.trans rfl rfl
@[simp high] theorem st14 : (a0 :: a1 :: a2 :: a3 :: a4 :: a5 :: a6 :: a7 :: a8 :: a9 :: a10 :: a11 :: a12 :: a13 :: a14 :: l).set 14 y = a0 :: a1 :: a2 :: a3 :: a4 :: a5 :: a6 :: a7 :: a8 :: a9 :: a10 :: a11 :: a12 :: a13 :: y :: l := Eq.trans rfl rfl
@[simp high] theorem ix15 : (a0 :: a1 :: a2 :: a3 :: a4 :: a5 :: a6 :: a7 :: a8 :: a9 :: a10 :: a11 :: a12 :: a13 :: a14 :: a15 :: l)[15]? = some a15 := Eq.trans rfl rfl
@[simp high] theorem st15 : (a0 :: a1 :: a2 :: a3 :: a4 :: a5 :: a6 :: a7 :: a8 :: a9 :: a10 :: a11 :: a12 :: a13 :: a14 :: a15 :: l).set 15 y = a0 :: a1 :: a2 :: a3 :: a4 :: a5 :: a6 :: a7 :: a8 :: a9 :: a10 :: a11 :: a12 :: a13 :: a14 :: y :: l := Eq.trans rfl rfl
@[simp high] theorem ix16 : (a0 :: a1 :: a2 :: a3 :: a4 :: a5 :: a6 :: a7 :: a8 :: a9 :: a10 :: a11 :: a12 :: a13 :: a14 :: a15 :: a16 :: l)[16]? = some a16 := Eq.trans rfl rfl
@[simp high] theorem st16 : (a0 :: a1 :: a2 :: a3 :: a4 :: a5 :: a6 :: a7 :: a8 :: a9 :: a10 :: a11 :: a12 :: a13 :: a14 :: a15 :: a16 :: l).set 16 y = a0 :: a1 :: a2 :: a3 :: a4 :: a5 :: a6 :: a7 :: a8 :: a9 :: a10 :: a11 :: a12 :: a13 :: a14 :: a15 :: y :: l := Eq.trans rfl rfl
@[simp high] theorem ix17 : (a0 :: a1 :: a2 :: a3 :: a4 :: a5 :: a6 :: a7 :: a8 :: a9 :: a10 :: a11 :: a12 :: a13 :: a14 :: a15 :: a16 :: a17 :: l)[17]? = some a17 := Eq.trans rfl rfl
@[simp high] theorem st17 : (a0 :: a1 :: a2 :: a3 :: a4 :: a5 :: a6 :: a7 :: a8 :: a9 :: a10 :: a11 :: a12 :: a13 :: a14 :: a15 :: a16 :: a17 :: l).set 17 y = a0 :: a1 :: a2 :: a3 :: a4 :: a5 :: a6 :: a7 :: a8 :: a9 :: a10 :: a11 :: a12 :: a13 :: a14 :: a15 :: a16 :: y :: l := Eq.trans rfl rfl
@[simp high] theorem ix18 : (a0 :: a1 :: a2 :: a3 :: a4 :: a5 :: a6 :: a7 :: a8 :: a9 :: a10 :: a11 :: a12 :: a13 :: a14 :: a15 :: a16 :: a17 :: a18 :: l)[18]? = some a18 := Eq.trans rfl rfl
@[simp high] theorem st18 : (a0 :: a1 :: a2 :: a3 :: a4 :: a5 :: a6 :: a7 :: a8 :: a9 :: a10 :: a11 :: a12 :: a13 :: a14 :: a15 :: a16 :: a17 :: a18 :: l).set 18 y = a0 :: a1 :: a2 :: a3 :: a4 :: a5 :: a6 :: a7 :: a8 :: a9 :: a10 :: a11 :: a12 :: a13 :: a14 :: a15 :: a16 :: a17 :: y :: l := Eq.trans rfl rfl
@[simp high] theorem ix19 : (a0 :: a1 :: a2 :: a3 :: a4 :: a5 :: a6 :: a7 :: a8 :: a9 :: a10 :: a11 :: a12 :: a13 :: a14 :: a15 :: a16 :: a17 :: a18 :: a19 :: l)[19]? = some a19 := Eq.trans rfl rfl
@[simp high] theorem st19 : (a0 :: a1 :: a2 :: a3 :: a4 :: a5 :: a6 :: a7 :: a8 :: a9 :: a10 :: a11 :: a12 :: a13 :: a14 :: a15 :: a16 :: a17 :: a18 :: a19 :: l).set 19 y = a0 :: a1 :: a2 :: a3 :: a4 :: a5 :: a6 :: a7 :: a8 :: a9 :: a10 :: a11 :: a12 :: a13 :: a14 :: a15 :: a16 :: a17 :: a18 :: y :: l := Eq.trans rfl rfl
@[simp high] theorem ix20 : (a0 :: a1 :: a2 :: a3 :: a4 :: a5 :: a6 :: a7 :: a8 :: a9 :: a10 :: a11 :: a12 :: a13 :: a14 :: a15 :: a16 :: a17 :: a18 :: a19 :: a20 :: l)[20]? = some a20 := Eq.trans rfl rfl
@[simp high] theorem st20 : (a0 :: a1 :: a2 :: a3 :: a4 :: a5 :: a6 :: a7 :: a8 :: a9 :: a10 :: a11 :: a12 :: a13 :: a14 :: a15 :: a16 :: a17 :: a18 :: a19 :: a20 :: l).set 20 y = a0 :: a1 :: a2 :: a3 :: a4 :: a5 :: a6 :: a7 :: a8 :: a9 :: a10 :: a11 :: a12 :: a13 :: a14 :: a15 :: a16 :: a17 :: a18 :: a19 :: y :: l := Eq.trans rfl rfl
@[simp high] theorem ix21 : (a0 :: a1 :: a2 :: a3 :: a4 :: a5 :: a6 :: a7 :: a8 :: a9 :: a10 :: a11 :: a12 :: a13 :: a14 :: a15 :: a16 :: a17 :: a18 :: a19 :: a20 :: a21 :: l)[21]? = some a21 := Eq.trans rfl rfl
@[simp high] theorem st21 : (a0 :: a1 :: a2 :: a3 :: a4 :: a5 :: a6 :: a7 :: a8 :: a9 :: a10 :: a11 :: a12 :: a13 :: a14 :: a15 :: a16 :: a17 :: a18 :: a19 :: a20 :: a21 :: l).set 21 y = a0 :: a1 :: a2 :: a3 :: a4 :: a5 :: a6 :: a7 :: a8 :: a9 :: a10 :: a11 :: a12 :: a13 :: a14 :: a15 :: a16 :: a17 :: a18 :: a19 :: a20 :: y :: l := Eq.trans rfl rfl
@[simp high] theorem ix22 : (a0 :: a1 :: a2 :: a3 :: a4 :: a5 :: a6 :: a7 :: a8 :: a9 :: a10 :: a11 :: a12 :: a13 :: a14 :: a15 :: a16 :: a17 :: a18 :: a19 :: a20 :: a21 :: a22 :: l)[22]? = some a22 := Eq.trans rfl rfl
@[simp high] theorem st22 : (a0 :: a1 :: a2 :: a3 :: a4 :: a5 :: a6 :: a7 :: a8 :: a9 :: a10 :: a11 :: a12 :: a13 :: a14 :: a15 :: a16 :: a17 :: a18 :: a19 :: a20 :: a21 :: a22 :: l).set 22 y = a0 :: a1 :: a2 :: a3 :: a4 :: a5 :: a6 :: a7 :: a8 :: a9 :: a10 :: a11 :: a12 :: a13 :: a14 :: a15 :: a16 :: a17 :: a18 :: a19 :: a20 :: a21 :: y :: l := Eq.trans rfl rfl
@[simp high] theorem ix23 : (a0 :: a1 :: a2 :: a3 :: a4 :: a5 :: a6 :: a7 :: a8 :: a9 :: a10 :: a11 :: a12 :: a13 :: a14 :: a15 :: a16 :: a17 :: a18 :: a19 :: a20 :: a21 :: a22 :: a23 :: l)[23]? = some a23 := Eq.trans rfl rfl
@[simp high] theorem st23 : (a0 :: a1 :: a2 :: a3 :: a4 :: a5 :: a6 :: a7 :: a8 :: a9 :: a10 :: a11 :: a12 :: a13 :: a14 :: a15 :: a16 :: a17 :: a18 :: a19 :: a20 :: a21 :: a22 :: a23 :: l).set 23 y = a0 :: a1 :: a2 :: a3 :: a4 :: a5 :: a6 :: a7 :: a8 :: a9 :: a10 :: a11 :: a12 :: a13 :: a14 :: a15 :: a16 :: a17 :: a18 :: a19 :: a20 :: a21 :: a22 :: y :: l := Eq.trans rfl rfl
@[simp high] theorem ix24 : (a0 :: a1 :: a2 :: a3 :: a4 :: a5 :: a6 :: a7 :: a8 :: a9 :: a10 :: a11 :: a12 :: a13 :: a14 :: a15 :: a16 :: a17 :: a18 :: a19 :: a20 :: a21 :: a22 :: a23 :: a24 :: l)[24]? = some a24 := Eq.trans rfl rfl
@[simp high] theorem st24 : (a0 :: a1 :: a2 :: a3 :: a4 :: a5 :: a6 :: a7 :: a8 :: a9 :: a10 :: a11 :: a12 :: a13 :: a14 :: a15 :: a16 :: a17 :: a18 :: a19 :: a20 :: a21 :: a22 :: a23 :: a24 :: l).set 24 y = a0 :: a1 :: a2 :: a3 :: a4 :: a5 :: a6 :: a7 :: a8 :: a9 :: a10 :: a11 :: a12 :: a13 :: a14 :: a15 :: a16 :: a17 :: a18 :: a19 :: a20 :: a21 :: a22 :: a23 :: y :: l := Eq.trans rfl rfl
@[simp high] theorem ix25 : (a0 :: a1 :: a2 :: a3 :: a4 :: a5 :: a6 :: a7 :: a8 :: a9 :: a10 :: a11 :: a12 :: a13 :: a14 :: a15 :: a16 :: a17 :: a18 :: a19 :: a20 :: a21 :: a22 :: a23 :: a24 :: a25 :: l)[25]? = some a25 := Eq.trans rfl rfl
@[simp high] theorem st25 : (a0 :: a1 :: a2 :: a3 :: a4 :: a5 :: a6 :: a7 :: a8 :: a9 :: a10 :: a11 :: a12 :: a13 :: a14 :: a15 :: a16 :: a17 :: a18 :: a19 :: a20 :: a21 :: a22 :: a23 :: a24 :: a25 :: l).set 25 y = a0 :: a1 :: a2 :: a3 :: a4 :: a5 :: a6 :: a7 :: a8 :: a9 :: a10 :: a11 :: a12 :: a13 :: a14 :: a15 :: a16 :: a17 :: a18 :: a19 :: a20 :: a21 :: a22 :: a23 :: a24 :: y :: l := Eq.trans rfl rfl
@[simp high] theorem ix26 : (a0 :: a1 :: a2 :: a3 :: a4 :: a5 :: a6 :: a7 :: a8 :: a9 :: a10 :: a11 :: a12 :: a13 :: a14 :: a15 :: a16 :: a17 :: a18 :: a19 :: a20 :: a21 :: a22 :: a23 :: a24 :: a25 :: a26 :: l)[26]? = some a26 := Eq.trans rfl rfl
@[simp high] theorem st26 : (a0 :: a1 :: a2 :: a3 :: a4 :: a5 :: a6 :: a7 :: a8 :: a9 :: a10 :: a11 :: a12 :: a13 :: a14 :: a15 :: a16 :: a17 :: a18 :: a19 :: a20 :: a21 :: a22 :: a23 :: a24 :: a25 :: a26 :: l).set 26 y = a0 :: a1 :: a2 :: a3 :: a4 :: a5 :: a6 :: a7 :: a8 :: a9 :: a10 :: a11 :: a12 :: a13 :: a14 :: a15 :: a16 :: a17 :: a18 :: a19 :: a20 :: a21 :: a22 :: a23 :: a24 :: a25 :: y :: l := Eq.trans rfl rfl
@[simp high] theorem ix27 : (a0 :: a1 :: a2 :: a3 :: a4 :: a5 :: a6 :: a7 :: a8 :: a9 :: a10 :: a11 :: a12 :: a13 :: a14 :: a15 :: a16 :: a17 :: a18 :: a19 :: a20 :: a21 :: a22 :: a23 :: a24 :: a25 :: a26 :: a27 :: l)[27]? = some a27 := Eq.trans rfl rfl
@[simp high] theorem st27 : (a0 :: a1 :: a2 :: a3 :: a4 :: a5 :: a6 :: a7 :: a8 :: a9 :: a10 :: a11 :: a12 :: a13 :: a14 :: a15 :: a16 :: a17 :: a18 :: a19 :: a20 :: a21 :: a22 :: a23 :: a24 :: a25 :: a26 :: a27 :: l).set 27 y = a0 :: a1 :: a2 :: a3 :: a4 :: a5 :: a6 :: a7 :: a8 :: a9 :: a10 :: a11 :: a12 :: a13 :: a14 :: a15 :: a16 :: a17 :: a18 :: a19 :: a20 :: a21 :: a22 :: a23 :: a24 :: a25 :: a26 :: y :: l := Eq.trans rfl rfl
@[simp high] theorem ix28 : (a0 :: a1 :: a2 :: a3 :: a4 :: a5 :: a6 :: a7 :: a8 :: a9 :: a10 :: a11 :: a12 :: a13 :: a14 :: a15 :: a16 :: a17 :: a18 :: a19 :: a20 :: a21 :: a22 :: a23 :: a24 :: a25 :: a26 :: a27 :: a28 :: l)[28]? = some a28 := Eq.trans rfl rfl
@[simp high] theorem st28 : (a0 :: a1 :: a2 :: a3 :: a4 :: a5 :: a6 :: a7 :: a8 :: a9 :: a10 :: a11 :: a12 :: a13 :: a14 :: a15 :: a16 :: a17 :: a18 :: a19 :: a20 :: a21 :: a22 :: a23 :: a24 :: a25 :: a26 :: a27 :: a28 :: l).set 28 y = a0 :: a1 :: a2 :: a3 :: a4 :: a5 :: a6 :: a7 :: a8 :: a9 :: a10 :: a11 :: a12 :: a13 :: a14 :: a15 :: a16 :: a17 :: a18 :: a19 :: a20 :: a21 :: a22 :: a23 :: a24 :: a25 :: a26 :: a27 :: y :: l := Eq.trans rfl rfl
@[simp high] theorem ix29 : (a0 :: a1 :: a2 :: a3 :: a4 :: a5 :: a6 :: a7 :: a8 :: a9 :: a10 :: a11 :: a12 :: a13 :: a14 :: a15 :: a16 :: a17 :: a18 :: a19 :: a20 :: a21 :: a22 :: a23 :: a24 :: a25 :: a26 :: a27 :: a28 :: a29 :: l)[29]? = some a29 := Eq.trans rfl rfl
@[simp high] theorem st29 : (a0 :: a1 :: a2 :: a3 :: a4 :: a5 :: a6 :: a7 :: a8 :: a9 :: a10 :: a11 :: a12 :: a13 :: a14 :: a15 :: a16 :: a17 :: a18 :: a19 :: a20 :: a21 :: a22 :: a23 :: a24 :: a25 :: a26 :: a27 :: a28 :: a29 :: l).set 29 y = a0 :: a1 :: a2 :: a3 :: a4 :: a5 :: a6 :: a7 :: a8 :: a9 :: a10 :: a11 :: a12 :: a13 :: a14 :: a15 :: a16 :: a17 :: a18 :: a19 :: a20 :: a21 :: a22 :: a23 :: a24 :: a25 :: a26 :: a27 :: a28 :: y :: l := Eq.trans rfl rfl
@[simp high] theorem ix30 : (a0 :: a1 :: a2 :: a3 :: a4 :: a5 :: a6 :: a7 :: a8 :: a9 :: a10 :: a11 :: a12 :: a13 :: a14 :: a15 :: a16 :: a17 :: a18 :: a19 :: a20 :: a21 :: a22 :: a23 :: a24 :: a25 :: a26 :: a27 :: a28 :: a29 :: a30 :: l)[30]? = some a30 := Eq.trans rfl rfl
@[simp high] theorem st30 : (a0 :: a1 :: a2 :: a3 :: a4 :: a5 :: a6 :: a7 :: a8 :: a9 :: a10 :: a11 :: a12 :: a13 :: a14 :: a15 :: a16 :: a17 :: a18 :: a19 :: a20 :: a21 :: a22 :: a23 :: a24 :: a25 :: a26 :: a27 :: a28 :: a29 :: a30 :: l).set 30 y = a0 :: a1 :: a2 :: a3 :: a4 :: a5 :: a6 :: a7 :: a8 :: a9 :: a10 :: a11 :: a12 :: a13 :: a14 :: a15 :: a16 :: a17 :: a18 :: a19 :: a20 :: a21 :: a22 :: a23 :: a24 :: a25 :: a26 :: a27 :: a28 :: a29 :: y :: l := Eq.trans rfl rfl
@[simp high] theorem ix31 : (a0 :: a1 :: a2 :: a3 :: a4 :: a5 :: a6 :: a7 :: a8 :: a9 :: a10 :: a11 :: a12 :: a13 :: a14 :: a15 :: a16 :: a17 :: a18 :: a19 :: a20 :: a21 :: a22 :: a23 :: a24 :: a25 :: a26 :: a27 :: a28 :: a29 :: a30 :: a31 :: l)[31]? = some a31 := Eq.trans rfl rfl
@[simp high] theorem st31 : (a0 :: a1 :: a2 :: a3 :: a4 :: a5 :: a6 :: a7 :: a8 :: a9 :: a10 :: a11 :: a12 :: a13 :: a14 :: a15 :: a16 :: a17 :: a18 :: a19 :: a20 :: a21 :: a22 :: a23 :: a24 :: a25 :: a26 :: a27 :: a28 :: a29 :: a30 :: a31 :: l).set 31 y = a0 :: a1 :: a2 :: a3 :: a4 :: a5 :: a6 :: a7 :: a8 :: a9 :: a10 :: a11 :: a12 :: a13 :: a14 :: a15 :: a16 :: a17 :: a18 :: a19 :: a20 :: a21 :: a22 :: a23 :: a24 :: a25 :: a26 :: a27 :: a28 :: a29 :: a30 :: y :: l := Eq.trans rfl rfl
@[simp high] theorem ix32 : (a0 :: a1 :: a2 :: a3 :: a4 :: a5 :: a6 :: a7 :: a8 :: a9 :: a10 :: a11 :: a12 :: a13 :: a14 :: a15 :: a16 :: a17 :: a18 :: a19 :: a20 :: a21 :: a22 :: a23 :: a24 :: a25 :: a26 :: a27 :: a28 :: a29 :: a30 :: a31 :: a32 :: l)[32]? = some a32 := Eq.trans rfl rfl
@[simp high] theorem st32 : (a0 :: a1 :: a2 :: a3 :: a4 :: a5 :: a6 :: a7 :: a8 :: a9 :: a10 :: a11 :: a12 :: a13 :: a14 :: a15 :: a16 :: a17 :: a18 :: a19 :: a20 :: a21 :: a22 :: a23 :: a24 :: a25 :: a26 :: a27 :: a28 :: a29 :: a30 :: a31 :: a32 :: l).set 32 y = a0 :: a1 :: a2 :: a3 :: a4 :: a5 :: a6 :: a7 :: a8 :: a9 :: a10 :: a11 :: a12 :: a13 :: a14 :: a15 :: a16 :: a17 :: a18 :: a19 :: a20 :: a21 :: a22 :: a23 :: a24 :: a25 :: a26 :: a27 :: a28 :: a29 :: a30 :: a31 :: y :: l := Eq.trans rfl rfl
@[simp high] theorem ix33 : (a0 :: a1 :: a2 :: a3 :: a4 :: a5 :: a6 :: a7 :: a8 :: a9 :: a10 :: a11 :: a12 :: a13 :: a14 :: a15 :: a16 :: a17 :: a18 :: a19 :: a20 :: a21 :: a22 :: a23 :: a24 :: a25 :: a26 :: a27 :: a28 :: a29 :: a30 :: a31 :: a32 :: a33 :: l)[33]? = some a33 := Eq.trans rfl rfl
@[simp high] theorem st33 : (a0 :: a1 :: a2 :: a3 :: a4 :: a5 :: a6 :: a7 :: a8 :: a9 :: a10 :: a11 :: a12 :: a13 :: a14 :: a15 :: a16 :: a17 :: a18 :: a19 :: a20 :: a21 :: a22 :: a23 :: a24 :: a25 :: a26 :: a27 :: a28 :: a29 :: a30 :: a31 :: a32 :: a33 :: l).set 33 y = a0 :: a1 :: a2 :: a3 :: a4 :: a5 :: a6 :: a7 :: a8 :: a9 :: a10 :: a11 :: a12 :: a13 :: a14 :: a15 :: a16 :: a17 :: a18 :: a19 :: a20 :: a21 :: a22 :: a23 :: a24 :: a25 :: a26 :: a27 :: a28 :: a29 :: a30 :: a31 :: a32 :: y :: l := Eq.trans rfl rfl
@[simp high] theorem ix34 : (a0 :: a1 :: a2 :: a3 :: a4 :: a5 :: a6 :: a7 :: a8 :: a9 :: a10 :: a11 :: a12 :: a13 :: a14 :: a15 :: a16 :: a17 :: a18 :: a19 :: a20 :: a21 :: a22 :: a23 :: a24 :: a25 :: a26 :: a27 :: a28 :: a29 :: a30 :: a31 :: a32 :: a33 :: a34 :: l)[34]? = some a34 := Eq.trans rfl rfl
@[simp high] theorem st34 : (a0 :: a1 :: a2 :: a3 :: a4 :: a5 :: a6 :: a7 :: a8 :: a9 :: a10 :: a11 :: a12 :: a13 :: a14 :: a15 :: a16 :: a17 :: a18 :: a19 :: a20 :: a21 :: a22 :: a23 :: a24 :: a25 :: a26 :: a27 :: a28 :: a29 :: a30 :: a31 :: a32 :: a33 :: a34 :: l).set 34 y = a0 :: a1 :: a2 :: a3 :: a4 :: a5 :: a6 :: a7 :: a8 :: a9 :: a10 :: a11 :: a12 :: a13 :: a14 :: a15 :: a16 :: a17 :: a18 :: a19 :: a20 :: a21 :: a22 :: a23 :: a24 :: a25 :: a26 :: a27 :: a28 :: a29 :: a30 :: a31 :: a32 :: a33 :: y :: l := Eq.trans rfl rfl
@[simp high] theorem ix35 : (a0 :: a1 :: a2 :: a3 :: a4 :: a5 :: a6 :: a7 :: a8 :: a9 :: a10 :: a11 :: a12 :: a13 :: a14 :: a15 :: a16 :: a17 :: a18 :: a19 :: a20 :: a21 :: a22 :: a23 :: a24 :: a25 :: a26 :: a27 :: a28 :: a29 :: a30 :: a31 :: a32 :: a33 :: a34 :: a35 :: l)[35]? = some a35 := Eq.trans rfl rfl
@[simp high] theorem st35 : (a0 :: a1 :: a2 :: a3 :: a4 :: a5 :: a6 :: a7 :: a8 :: a9 :: a10 :: a11 :: a12 :: a13 :: a14 :: a15 :: a16 :: a17 :: a18 :: a19 :: a20 :: a21 :: a22 :: a23 :: a24 :: a25 :: a26 :: a27 :: a28 :: a29 :: a30 :: a31 :: a32 :: a33 :: a34 :: a35 :: l).set 35 y = a0 :: a1 :: a2 :: a3 :: a4 :: a5 :: a6 :: a7 :: a8 :: a9 :: a10 :: a11 :: a12 :: a13 :: a14 :: a15 :: a16 :: a17 :: a18 :: a19 :: a20 :: a21 :: a22 :: a23 :: a24 :: a25 :: a26 :: a27 :: a28 :: a29 :: a30 :: a31 :: a32 :: a33 :: a34 :: y :: l := Eq.trans rfl rfl
@[simp high] theorem ix36 : (a0 :: a1 :: a2 :: a3 :: a4 :: a5 :: a6 :: a7 :: a8 :: a9 :: a10 :: a11 :: a12 :: a13 :: a14 :: a15 :: a16 :: a17 :: a18 :: a19 :: a20 :: a21 :: a22 :: a23 :: a24 :: a25 :: a26 :: a27 :: a28 :: a29 :: a30 :: a31 :: a32 :: a33 :: a34 :: a35 :: a36 :: l)[36]? = some a36 := Eq.trans rfl rfl
@[simp high] theorem st36 : (a0 :: a1 :: a2 :: a3 :: a4 :: a5 :: a6 :: a7 :: a8 :: a9 :: a10 :: a11 :: a12 :: a13 :: a14 :: a15 :: a16 :: a17 :: a18 :: a19 :: a20 :: a21 :: a22 :: a23 :: a24 :: a25 :: a26 :: a27 :: a28 :: a29 :: a30 :: a31 :: a32 :: a33 :: a34 :: a35 :: a36 :: l).set 36 y = a0 :: a1 :: a2 :: a3 :: a4 :: a5 :: a6 :: a7 :: a8 :: a9 :: a10 :: a11 :: a12 :: a13 :: a14 :: a15 :: a16 :: a17 :: a18 :: a19 :: a20 :: a21 :: a22 :: a23 :: a24 :: a25 :: a26 :: a27 :: a28 :: a29 :: a30 :: a31 :: a32 :: a33 :: a34 :: a35 :: y :: l := Eq.trans rfl rfl
@[simp high] theorem ix37 : (a0 :: a1 :: a2 :: a3 :: a4 :: a5 :: a6 :: a7 :: a8 :: a9 :: a10 :: a11 :: a12 :: a13 :: a14 :: a15 :: a16 :: a17 :: a18 :: a19 :: a20 :: a21 :: a22 :: a23 :: a24 :: a25 :: a26 :: a27 :: a28 :: a29 :: a30 :: a31 :: a32 :: a33 :: a34 :: a35 :: a36 :: a37 :: l)[37]? = some a37 := Eq.trans rfl rfl
@[simp high] theorem st37 : (a0 :: a1 :: a2 :: a3 :: a4 :: a5 :: a6 :: a7 :: a8 :: a9 :: a10 :: a11 :: a12 :: a13 :: a14 :: a15 :: a16 :: a17 :: a18 :: a19 :: a20 :: a21 :: a22 :: a23 :: a24 :: a25 :: a26 :: a27 :: a28 :: a29 :: a30 :: a31 :: a32 :: a33 :: a34 :: a35 :: a36 :: a37 :: l).set 37 y = a0 :: a1 :: a2 :: a3 :: a4 :: a5 :: a6 :: a7 :: a8 :: a9 :: a10 :: a11 :: a12 :: a13 :: a14 :: a15 :: a16 :: a17 :: a18 :: a19 :: a20 :: a21 :: a22 :: a23 :: a24 :: a25 :: a26 :: a27 :: a28 :: a29 :: a30 :: a31 :: a32 :: a33 :: a34 :: a35 :: a36 :: y :: l := Eq.trans rfl rfl
@[simp high] theorem ix38 : (a0 :: a1 :: a2 :: a3 :: a4 :: a5 :: a6 :: a7 :: a8 :: a9 :: a10 :: a11 :: a12 :: a13 :: a14 :: a15 :: a16 :: a17 :: a18 :: a19 :: a20 :: a21 :: a22 :: a23 :: a24 :: a25 :: a26 :: a27 :: a28 :: a29 :: a30 :: a31 :: a32 :: a33 :: a34 :: a35 :: a36 :: a37 :: a38 :: l)[38]? = some a38 := Eq.trans rfl rfl
@[simp high] theorem st38 : (a0 :: a1 :: a2 :: a3 :: a4 :: a5 :: a6 :: a7 :: a8 :: a9 :: a10 :: a11 :: a12 :: a13 :: a14 :: a15 :: a16 :: a17 :: a18 :: a19 :: a20 :: a21 :: a22 :: a23 :: a24 :: a25 :: a26 :: a27 :: a28 :: a29 :: a30 :: a31 :: a32 :: a33 :: a34 :: a35 :: a36 :: a37 :: a38 :: l).set 38 y = a0 :: a1 :: a2 :: a3 :: a4 :: a5 :: a6 :: a7 :: a8 :: a9 :: a10 :: a11 :: a12 :: a13 :: a14 :: a15 :: a16 :: a17 :: a18 :: a19 :: a20 :: a21 :: a22 :: a23 :: a24 :: a25 :: a26 :: a27 :: a28 :: a29 :: a30 :: a31 :: a32 :: a33 :: a34 :: a35 :: a36 :: a37 :: y :: l := Eq.trans rfl rfl
@[simp high] theorem ix39 : (a0 :: a1 :: a2 :: a3 :: a4 :: a5 :: a6 :: a7 :: a8 :: a9 :: a10 :: a11 :: a12 :: a13 :: a14 :: a15 :: a16 :: a17 :: a18 :: a19 :: a20 :: a21 :: a22 :: a23 :: a24 :: a25 :: a26 :: a27 :: a28 :: a29 :: a30 :: a31 :: a32 :: a33 :: a34 :: a35 :: a36 :: a37 :: a38 :: a39 :: l)[39]? = some a39 := Eq.trans rfl rfl
@[simp high] theorem st39 : (a0 :: a1 :: a2 :: a3 :: a4 :: a5 :: a6 :: a7 :: a8 :: a9 :: a10 :: a11 :: a12 :: a13 :: a14 :: a15 :: a16 :: a17 :: a18 :: a19 :: a20 :: a21 :: a22 :: a23 :: a24 :: a25 :: a26 :: a27 :: a28 :: a29 :: a30 :: a31 :: a32 :: a33 :: a34 :: a35 :: a36 :: a37 :: a38 :: a39 :: l).set 39 y = a0 :: a1 :: a2 :: a3 :: a4 :: a5 :: a6 :: a7 :: a8 :: a9 :: a10 :: a11 :: a12 :: a13 :: a14 :: a15 :: a16 :: a17 :: a18 :: a19 :: a20 :: a21 :: a22 :: a23 :: a24 :: a25 :: a26 :: a27 :: a28 :: a29 :: a30 :: a31 :: a32 :: a33 :: a34 :: a35 :: a36 :: a37 :: a38 :: y :: l := Eq.trans rfl rfl
end
section
variable {i j : Int} {t u : T} {ts us : List T} {o : Bool}
@[simp] theorem addT_int : addT (.int i) (.int j) = some (.int (i + j)) := Eq.trans rfl rfl
@[simp] theorem addT_lst : addT (.lst ts) (.lst us) = if ts.length + us.length ≤ sizeLine then some (.lst (ts ++ us)) else none := Eq.trans rfl rfl
@[simp] theorem addT_tup : addT (.tup ts) (.tup us) = if ts.length + us.length ≤ sizeLine then some (.tup (ts ++ us)) else none := Eq.trans rfl rfl
@[simp] theorem subT_int : subT (.int i) (.int j) = some (.int (i - j)) := Eq.trans rfl rfl
@[simp] theorem negT_int : negT (.int i) = some (.int (-i)) := Eq.trans rfl rfl
theorem mulT_int : mulT (.int i) (.int j) = if i.natAbs.log2 + j.natAbs.log2 < 1000000 then some (.int (i * j)) else none := rfl
theorem mulT_lst : mulT (.lst ts) (.int j) = if -(2 ^ 63) ≤ j ∧ j < 2 ^ 63 ∧ ts.length * j.toNat ≤ sizeLine then some (.lst (List.replicate j.toNat ts).flatten) else none := rfl
theorem divT_int : divT (.int i) (.int j) = if 0 < j ∧ j.natAbs.log2 < 9000 then some (.int (i / j)) else none := rfl
theorem modT_int : modT (.int i) (.int j) = if 0 < j then some (.int (i % j)) else none := rfl
theorem powT_int : powT (.int i) (.int j) = if 0 ≤ j ∧ j ≤ 1000000 ∧ i.natAbs < 2 ^ 64 then some (.int (i ^ j.toNat)) else none := rfl
@[simp] theorem cmpT_int {p : Int → Int → Bool} : cmpT p (.int i) (.int j) = some (.bl (p i j)) := Eq.trans rfl rfl
@[simp] theorem ixT_lst : ixT (.lst ts) (.int i) = atI ts i := Eq.trans rfl rfl
@[simp] theorem ixT_tup : ixT (.tup ts) (.int i) = atI ts i := Eq.trans rfl rfl
@[simp] theorem lenL_lst : lenL [.lst ts] = some (.int ts.length) := Eq.trans rfl rfl
@[simp] theorem lenL_tup : lenL [.tup ts] = some (.int ts.length) := Eq.trans rfl rfl
@[simp] theorem lenL_scr {ns : List Int} : lenL [.scr ns] = some (.int ns.length) := Eq.trans rfl rfl
@[simp] theorem maxL_int : maxL [.int i, .int j] = some (.int (if j > i then j else i)) := Eq.trans rfl rfl
@[simp] theorem minL_int : minL [.int i, .int j] = some (.int (if j < i then j else i)) := Eq.trans rfl rfl
@[simp] theorem isNonT_ap : isNonT t = some (.bl (isNonB t)) := Eq.trans rfl rfl
@[simp] theorem notNonT_ap : notNonT t = some (.bl (!isNonB t)) := Eq.trans rfl rfl
@[simp] theorem isiL_ap {m : String} : isiL m [t] = isiT m t := Eq.trans rfl rfl
theorem rng1_int : rng1 (.int i) = if -(2 ^ 62) ≤ i ∧ i < 2 ^ 62 then some (rngT i.toNat) else none := rfl
theorem rng2_int : rng2 [.int i, .int j] = if -(2 ^ 62) ≤ i ∧ i < 2 ^ 62 ∧ -(2 ^ 62) ≤ j ∧ j < 2 ^ 62 then some (rngF i (j - i).toNat) else none := rfl
@[simp] theorem enumT_lst : enumT (.lst ts) = some (enumL ts) := Eq.trans rfl rfl
@[simp] theorem enumT_scr {ns : List Int} : enumT (.scr ns) = some (enumL (ns.map T.int)) := Eq.trans rfl rfl
@[simp] theorem itemsT_lst : itemsT (.lst ts) = some ts := Eq.trans rfl rfl
@[simp] theorem itemsT_tup : itemsT (.tup ts) = some ts := Eq.trans rfl rfl
@[simp] theorem itemsT_scr {ns : List Int} : itemsT (.scr ns) = some (ns.map T.int) := Eq.trans rfl rfl
@[simp] theorem sliceT_lst {lo hi : Option Int} : sliceT (.lst ts) lo hi = some (.lst (cut ts lo hi)) := Eq.trans rfl rfl
@[simp] theorem sliceT_tup {lo hi : Option Int} : sliceT (.tup ts) lo hi = some (.tup (cut ts lo hi)) := Eq.trans rfl rfl
@[simp] theorem sliceT_scr {ns : List Int} {lo hi : Option Int} : sliceT (.scr ns) lo hi = some (.lst ((cut ns lo hi).map .int)) := Eq.trans rfl rfl
@[simp] theorem isMut_lst : isMut (.lst ts) = true := Eq.trans rfl rfl
@[simp] theorem isMut_tup : isMut (.tup ts) = false := Eq.trans rfl rfl
@[simp] theorem isMut_int : isMut (.int i) = false := Eq.trans rfl rfl
@[simp] theorem isMut_bl : isMut (.bl o) = false := Eq.trans rfl rfl
@[simp] theorem isMut_non : isMut .non = false := Eq.trans rfl rfl
@[simp] theorem isMut_str {z : Str} : isMut (.str z) = false := Eq.trans rfl rfl
@[simp] theorem isMut_dic {z : List (Key × T)} : isMut (.dic z) = true := Eq.trans rfl rfl
@[simp] theorem ofO_if {α : Type} {c : Prop} [Decidable c] {x : Option α} : ofO (if c then x else none) = if c then ofO x else .bad := by split <;> rfl
end
end DL
set_option maxHeartbeats 1000000
namespace DL
open PySem PySem.Spec PyProof.Rows L2
section
variable {X : Cx} {e a b tg : Expr} {S S0 : Addr → Prop} {H0 : Hp} {W : WX} {d da db : Lo → R T} {pos : Pos} {m ma mb : Md} {k : Nat} {ds : Lo → R (List T)} {es : List Expr}
end
end DL
set_option maxHeartbeats 1000000
namespace DL
open PySem PySem.Spec PyProof.Rows L2
section
variable {i j : Int} {o : Bool} {z : Str} {ts us : List T} {ns : List Int} {kd : List (Key × T)} {t u : T} {ev e : Lo} {d : Lo → Fl} {w : List Nat} {s : Lo → Fl}
@[simp] theorem geX_int : geX (.int i) (.int j) = some (.bl (decide (j ≤ i))) := Eq.trans rfl rfl
@[simp] theorem isi_non_bool : isiT "bool" .non = some (.bl false) := Eq.trans rfl rfl
@[simp] theorem isi_non_int : isiT "int" .non = some (.bl false) := Eq.trans rfl rfl
@[simp] theorem isi_non_str : isiT "str" .non = some (.bl false) := Eq.trans rfl rfl
@[simp] theorem isi_non_list : isiT "list" .non = some (.bl false) := Eq.trans rfl rfl
@[simp] theorem isi_non_tuple : isiT "tuple" .non = some (.bl false) := Eq.trans rfl rfl
@[simp] theorem isi_non_dict : isiT "dict" .non = some (.bl false) := Eq.trans rfl rfl
@[simp] theorem isi_bl_bool : isiT "bool" (.bl o) = some (.bl true) := Eq.trans rfl rfl
@[simp] theorem isi_bl_int : isiT "int" (.bl o) = some (.bl true) := Eq.trans rfl rfl
@[simp] theorem isi_bl_str : isiT "str" (.bl o) = some (.bl false) := Eq.trans rfl rfl
@[simp] theorem isi_bl_list : isiT "list" (.bl o) = some (.bl false) := Eq.trans rfl rfl
@[simp] theorem isi_bl_tuple : isiT "tuple" (.bl o) = some (.bl false) := Eq.trans rfl rfl
@[simp] theorem isi_bl_dict : isiT "dict" (.bl o) = some (.bl false) := Eq.trans rfl rfl
@[simp] theorem isi_int_bool : isiT "bool" (.int i) = some (.bl false) := Eq.trans rfl rfl
@[simp] theorem isi_int_int : isiT "int" (.int i) = some (.bl true) := Eq.trans rfl rfl
@[simp] theorem isi_int_str : isiT "str" (.int i) = some (.bl false) := Eq.trans rfl rfl
@[simp] theorem isi_int_list : isiT "list" (.int i) = some (.bl false) := Eq.trans rfl rfl
@[simp] theorem isi_int_tuple : isiT "tuple" (.int i) = some (.bl false) := Eq.trans rfl rfl
@[simp] theorem isi_int_dict : isiT "dict" (.int i) = some (.bl false) := Eq.trans rfl rfl
@[simp] theorem isi_str_bool : isiT "bool" (.str z) = some (.bl false) := Eq.trans rfl rfl
@[simp] theorem isi_str_int : isiT "int" (.str z) = some (.bl false) := Eq.trans rfl rfl
@[simp] theorem isi_str_str : isiT "str" (.str z) = some (.bl true) := Eq.trans rfl rfl
@[simp] theorem isi_str_list : isiT "list" (.str z) = some (.bl false) := Eq.trans rfl rfl
@[simp] theorem isi_str_tuple : isiT "tuple" (.str z) = some (.bl false) := Eq.trans rfl rfl
@[simp] theorem isi_str_dict : isiT "dict" (.str z) = some (.bl false) := Eq.trans rfl rfl
@[simp] theorem isi_lst_bool : isiT "bool" (.lst ts) = some (.bl false) := Eq.trans rfl rfl
@[simp] theorem isi_lst_int : isiT "int" (.lst ts) = some (.bl false) := Eq.trans rfl rfl
@[simp] theorem isi_lst_str : isiT "str" (.lst ts) = some (.bl false) := Eq.trans rfl rfl
@[simp] theorem isi_lst_list : isiT "list" (.lst ts) = some (.bl true) := Eq.trans rfl rfl
@[simp] theorem isi_lst_tuple : isiT "tuple" (.lst ts) = some (.bl false) := Eq.trans rfl rfl
@[simp] theorem isi_lst_dict : isiT "dict" (.lst ts) = some (.bl false) := Eq.trans rfl rfl
@[simp] theorem isi_scr_bool : isiT "bool" (.scr ns) = some (.bl false) := Eq.trans rfl rfl
@[simp] theorem isi_scr_int : isiT "int" (.scr ns) = some (.bl false) := Eq.trans rfl rfl
@[simp] theorem isi_scr_str : isiT "str" (.scr ns) = some (.bl false) := Eq.trans rfl rfl
@[simp] theorem isi_scr_list : isiT "list" (.scr ns) = some (.bl true) := Eq.trans rfl rfl
@[simp] theorem isi_scr_tuple : isiT "tuple" (.scr ns) = some (.bl false) := Eq.trans rfl rfl
@[simp] theorem isi_scr_dict : isiT "dict" (.scr ns) = some (.bl false) := Eq.trans rfl rfl
@[simp] theorem isi_tup_bool : isiT "bool" (.tup ts) = some (.bl false) := Eq.trans rfl rfl
@[simp] theorem isi_tup_int : isiT "int" (.tup ts) = some (.bl false) := Eq.trans rfl rfl
@[simp] theorem isi_tup_str : isiT "str" (.tup ts) = some (.bl false) := Eq.trans rfl rfl
@[simp] theorem isi_tup_list : isiT "list" (.tup ts) = some (.bl false) := Eq.trans rfl rfl
@[simp] theorem isi_tup_tuple : isiT "tuple" (.tup ts) = some (.bl true) := Eq.trans rfl rfl
@[simp] theorem isi_tup_dict : isiT "dict" (.tup ts) = some (.bl false) := Eq.trans rfl rfl
@[simp] theorem isi_dic_bool : isiT "bool" (.dic kd) = some (.bl false) := Eq.trans rfl rfl
@[simp] theorem isi_dic_int : isiT "int" (.dic kd) = some (.bl false) := Eq.trans rfl rfl
@[simp] theorem isi_dic_str : isiT "str" (.dic kd) = some (.bl false) := Eq.trans rfl rfl
@[simp] theorem isi_dic_list : isiT "list" (.dic kd) = some (.bl false) := Eq.trans rfl rfl
@[simp] theorem isi_dic_tuple : isiT "tuple" (.dic kd) = some (.bl false) := Eq.trans rfl rfl
@[simp] theorem isi_dic_dict : isiT "dict" (.dic kd) = some (.bl true) := Eq.trans rfl rfl
@[simp] theorem ap_sWp : sWp w d ev = d (wipeL w ev) := Eq.trans rfl rfl
@[simp] theorem ap_sWe : sWe w d ev = (d ev).wp w := Eq.trans rfl rfl
@[simp] theorem wp_nx : (Fl.nx ev).wp w = .nx (wipeL w ev) := Eq.trans rfl rfl
@[simp] theorem wp_bk : (Fl.bk ev).wp w = .bk (wipeL w ev) := Eq.trans rfl rfl
@[simp] theorem wp_ct : (Fl.ct ev).wp w = .ct (wipeL w ev) := Eq.trans rfl rfl
@[simp] theorem wp_rt : (Fl.rt t).wp w = .rt t := Eq.trans rfl rfl
@[simp] theorem wp_ex {c : Str} {fs : List (Str × T)} : (Fl.ex c fs ev).wp w = .ex c fs ev := Eq.trans rfl rfl
@[simp] theorem wp_bad : (Fl.bad).wp w = .bad := Eq.trans rfl rfl
@[simp] theorem wipe_nil : wipeL [] ev = ev := Eq.trans rfl rfl
@[simp] theorem wipe_cons {v : Nat} {vs : List Nat} : wipeL (v :: vs) ev = (wipeL vs ev).set v none := Eq.trans rfl rfl
def flFz (i : Nat) : Fl → Fl
  | .nx e => .nx (relI i e)
  | r => r
@[simp] theorem ap_sFz {n : Nat} : sFz n d ev = flFz n (d ev) := by unfold sFz flFz; cases d ev <;> rfl
@[simp] theorem flFz_nx {n : Nat} : flFz n (.nx ev) = .nx (relI n ev) := Eq.trans rfl rfl
def relV (n : Nat) (ev : Lo) : Option (Option (T × Bool)) → Lo
  | some (some (t, true)) => ev.set n (some (t, false))
  | _ => ev
@[simp] theorem relI_ap {n : Nat} : relI n ev = relV n ev ev[n]? := by
  unfold relI relV
  generalize ev[n]? = q
  rcases q with _ | _ | ⟨t, _ | _⟩ <;> rfl
@[simp] theorem relV_t {n : Nat} : relV n ev (some (some (t, true))) = ev.set n (some (t, false)) := Eq.trans rfl rfl
@[simp] theorem relV_f {n : Nat} : relV n ev (some (some (t, false))) = ev := Eq.trans rfl rfl
def oFl : Option Lo → Fl
  | some e => .nx e
  | none => .bad
@[simp] theorem kAsg_ap {g : T → Lo → Option Lo} : kAsg g t ev = oFl (g t ev) := by unfold kAsg oFl; rfl
@[simp] theorem oFl_some : oFl (some ev) = .nx ev := Eq.trans rfl rfl
def eO : Option Int → T
  | none => .non
  | some i => .int i
@[simp] theorem eO_none : eO none = .non := Eq.trans rfl rfl
@[simp] theorem eO_some : eO (some i) = .int i := Eq.trans rfl rfl
@[simp] theorem isMut_eO {x : Option Int} : isMut (eO x) = false := by cases x <;> rfl
@[simp] theorem isNonB_eO {x : Option Int} : isNonB (eO x) = x.isNone := by cases x <;> rfl
@[simp] theorem isNonB_int : isNonB (.int i) = false := Eq.trans rfl rfl
@[simp] theorem isNonB_non : isNonB .non = true := Eq.trans rfl rfl
@[simp] theorem isNonB_bl : isNonB (.bl o) = false := Eq.trans rfl rfl
@[simp] theorem isNonB_lst : isNonB (.lst ts) = false := Eq.trans rfl rfl
@[simp] theorem isNonB_tup : isNonB (.tup ts) = false := Eq.trans rfl rfl
@[simp] theorem isNonB_str : isNonB (.str z) = false := Eq.trans rfl rfl
theorem atI_cast {α : Type} (xs : List α) (n : Nat) : atI xs (n : Int) = xs[n]? := by
  unfold atI ixN
  by_cases h : n < xs.length
  · rw [if_pos (by omega), if_pos (by omega)]; simp
  · rw [if_pos (by omega), if_neg (by omega)]; simp; omega
@[simp] theorem atI_zero {α : Type} (xs : List α) : atI xs 0 = xs[0]? := atI_cast xs 0
@[simp] theorem atI_one {α : Type} (xs : List α) : atI xs 1 = xs[1]? := atI_cast xs 1
@[simp] theorem atI_lit {α : Type} (xs : List α) (n : Nat) : atI xs (no_index (OfNat.ofNat n : Int)) = xs[(OfNat.ofNat n : Nat)]? := atI_cast xs n
@[simp] theorem atI_castS {α : Type} (xs : List α) (n : Nat) : atI xs (n : Int) = xs[n]? := atI_cast xs n
@[simp] theorem atI_last {α : Type} (xs : List α) : atI xs (-1) = xs.getLast? := by
  unfold atI ixN
  rw [if_neg (by omega)]
  by_cases h : xs.length = 0
  · rw [if_neg (by omega)]
    have : xs = [] := List.length_eq_zero_iff.mp h
    subst this; rfl
  · rw [if_pos (by omega), List.getLast?_eq_getElem?]
    show xs[(-1 + (xs.length : Int)).toNat]? = _
    congr 1
    omega
theorem cut_none_some {α : Type} (xs : List α) (k : Nat) : cut xs none (some (k : Int)) = xs.take k := by
  unfold cut
  rw [HT.sIx_none, HT.sIx_nat]
  simp [List.take_eq_take_iff]
theorem cut_some_none {α : Type} (xs : List α) (k : Nat) : cut xs (some (k : Int)) none = xs.drop k := by
  unfold cut
  rw [HT.sIx_none, HT.sIx_nat]
  by_cases h : k ≤ xs.length
  · rw [Nat.min_eq_left h, List.take_of_length_le (by simp)]
  · rw [Nat.min_eq_right (by omega), List.drop_of_length_le (by omega), List.drop_of_length_le (by omega)]; simp
theorem cut_some_some {α : Type} (xs : List α) (a b : Nat) : cut xs (some (a : Int)) (some (b : Int)) = (xs.drop a).take (b - a) := by
  unfold cut
  rw [HT.sIx_nat, HT.sIx_nat]
  by_cases h : a ≤ xs.length
  · rw [Nat.min_eq_left h]
    by_cases h2 : b ≤ xs.length
    · rw [Nat.min_eq_left h2]
    · rw [Nat.min_eq_right (show xs.length ≤ b by omega), List.take_of_length_le (by simp), List.take_of_length_le (by simp; omega)]
  · rw [Nat.min_eq_right (show xs.length ≤ a by omega), List.drop_of_length_le (Nat.le_refl _), List.drop_of_length_le (by omega)]; simp
@[simp] theorem cut_ns {α : Type} (xs : List α) (k : Nat) : cut xs none (some (k : Int)) = xs.take k := cut_none_some xs k
@[simp] theorem cut_sn {α : Type} (xs : List α) (k : Nat) : cut xs (some (k : Int)) none = xs.drop k := cut_some_none xs k
@[simp] theorem cut_ss {α : Type} (xs : List α) (a b : Nat) : cut xs (some (a : Int)) (some (b : Int)) = (xs.drop a).take (b - a) := cut_some_some xs a b
@[simp] theorem cut_n0 {α : Type} (xs : List α) : cut xs none (some 0) = [] := cut_none_some xs 0
@[simp] theorem cut_n1 {α : Type} (xs : List α) : cut xs none (some 1) = xs.take 1 := cut_none_some xs 1
@[simp] theorem cut_nl {α : Type} (xs : List α) (n : Nat) : cut xs none (some (no_index (OfNat.ofNat n : Int))) = xs.take (OfNat.ofNat n) := cut_none_some xs n
@[simp] theorem cut_1n {α : Type} (xs : List α) : cut xs (some 1) none = xs.drop 1 := cut_some_none xs 1
@[simp] theorem cut_ln {α : Type} (xs : List α) (n : Nat) : cut xs (some (no_index (OfNat.ofNat n : Int))) none = xs.drop (OfNat.ofNat n) := cut_some_none xs n
@[simp] theorem cut_map {α β : Type} (f : α → β) (xs : List α) (l h : Option Int) : cut (xs.map f) l h = (cut xs l h).map f := by unfold cut; simp
@[simp] theorem bls_map {α : Type} (f : α → Bool) : ∀ xs : List α, bls (xs.map fun x => T.bl (f x)) = some (xs.map f)
  | [] => rfl
  | x :: xs => by rw [List.map_cons]; unfold bls; rw [bls_map f xs]; rfl
@[simp] theorem nums_map {α : Type} (f : α → Int) : ∀ xs : List α, nums (xs.map fun x => T.int (f x)) = some (xs.map f)
  | [] => rfl
  | x :: xs => by rw [List.map_cons]; unfold nums; rw [nums_map f xs]; rfl
@[simp] theorem nums_ints (xs : List Int) : nums (xs.map T.int) = some xs := by
  have := nums_map (fun x : Int => x) xs
  simpa using this
@[simp] theorem bls_nil : bls [] = some [] := Eq.trans rfl rfl
@[simp] theorem bls_cons : bls (.bl o :: ts) = (bls ts).map (o :: ·) := Eq.trans rfl rfl
@[simp] theorem nums_nil : nums [] = some [] := Eq.trans rfl rfl
@[simp] theorem nums_cons : nums (.int i :: ts) = (nums ts).map (i :: ·) := Eq.trans rfl rfl
@[simp] theorem allL_ap : allL [.lst ts] = (bls ts).map fun bs => .bl (bs.all id) := Eq.trans rfl rfl
@[simp] theorem sumL_ap : sumL [.lst ts] = (nums ts).map fun bs => .int bs.sum := Eq.trans rfl rfl
@[simp] theorem intL_int : intL [.int i] = some (.int i) := Eq.trans rfl rfl
@[simp] theorem intL_bl : intL [.bl o] = some (.int (if o then 1 else 0)) := Eq.trans rfl rfl
@[simp] theorem listL_lst : listL [.lst ts] = some (.lst ts) := Eq.trans rfl rfl
@[simp] theorem listL_tup : listL [.tup ts] = some (.lst ts) := Eq.trans rfl rfl
@[simp] theorem tupleL_lst : tupleL [.lst ts] = some (.tup ts) := Eq.trans rfl rfl
@[simp] theorem tupleL_tup : tupleL [.tup ts] = some (.tup ts) := Eq.trans rfl rfl
@[simp] theorem revT_lst : revT (.lst ts) = some (.lst ts.reverse) := Eq.trans rfl rfl
@[simp] theorem revT_scr : revT (.scr ns) = some (.lst (ns.reverse.map .int)) := Eq.trans rfl rfl
@[simp] theorem ixT_scr : ixT (.scr ns) (.int i) = (atI ns i).map T.int := Eq.trans rfl rfl
@[simp] theorem isB_ap {n : Bool → Bool} {p : Bool} : isBT n (.bl o) (.bl p) = some (.bl (n (decide (o = p)))) := Eq.trans rfl rfl
theorem any_eO (x : Option Int) (xs : List (Option Int)) : (xs.map eO).any (fun y => eqF y (eO x)) = decide (x ∈ xs) := by
  induction xs with
  | nil => rfl
  | cons y ys ih =>
    rw [List.map_cons, List.any_cons, ih]
    have e : eqF (eO y) (eO x) = decide (x = y) := by
      cases y with
      | none => cases x <;> rfl
      | some a =>
        cases x with
        | none => rfl
        | some b =>
          show (a == b) = decide (some b = some a)
          rw [Bool.eq_iff_iff, beq_iff_eq, decide_eq_true_iff]
          exact ⟨fun h => by rw [h], fun h => (Option.some.inj h).symm⟩
    rw [e]
    by_cases h : x = y <;> simp [h]
@[simp] theorem flT_eO {x : Option Int} : flT (eO x) = true := by cases x <;> rfl
theorem all_eO (xs : List (Option Int)) : (xs.map eO).all flT = true := by
  induction xs with
  | nil => rfl
  | cons y ys ih => rw [List.map_cons, List.all_cons, ih, flT_eO]; rfl
@[simp] theorem inT_eO (x : Option Int) (xs : List (Option Int)) : inT (eO x) (.lst (xs.map eO)) = some (.bl (decide (x ∈ xs))) := by
  show (if flT (eO x) = true ∧ (xs.map eO).all flT = true then some (T.bl (id ((xs.map eO).any fun y => eqF y (eO x)))) else none) = _
  rw [if_pos ⟨flT_eO, all_eO xs⟩, any_eO]; rfl
@[simp] theorem inT_non (xs : List (Option Int)) : inT .non (.lst (xs.map eO)) = some (.bl (decide (none ∈ xs))) := inT_eO none xs
theorem inG_non2 {n : Bool → Bool} (a b : Option Int) : inG n .non (.lst [eO a, eO b]) = some (.bl (n (decide (a = none ∨ b = none)))) := by
  cases a <;> cases b <;> rfl
@[simp] theorem inT_non2 (a b : Option Int) : inT .non (.lst [eO a, eO b]) = some (.bl (decide (a = none ∨ b = none))) := inG_non2 a b
@[simp] theorem ninT_non2 (a b : Option Int) : ninT .non (.lst [eO a, eO b]) = some (.bl (!decide (a = none ∨ b = none))) := inG_non2 a b
@[simp] theorem ninT_eO (x : Option Int) (xs : List (Option Int)) : ninT (eO x) (.lst (xs.map eO)) = some (.bl (!decide (x ∈ xs))) := by
  show (if flT (eO x) = true ∧ (xs.map eO).all flT = true then some (T.bl (not ((xs.map eO).any fun y => eqF y (eO x)))) else none) = _
  rw [if_pos ⟨flT_eO, all_eO xs⟩, any_eO]
@[simp] theorem ninT_non (xs : List (Option Int)) : ninT .non (.lst (xs.map eO)) = some (.bl (!decide (none ∈ xs))) := ninT_eO none xs
def fkT : T → Bool
  | .non => true
  | .bl _ => true
  | .int _ => true
  | .str x => PyData.strOk x
  | _ => false
def kT : Nat → T → Bool
  | 0, t => fkT t
  | n + 1, .lst xs => xs.all (kT n)
  | n + 1, .tup xs => xs.all (kT n)
  | _ + 1, .scr _ => true
  | _ + 1, t => fkT t
theorem kfl : ∀ {t : T}, fkT t = true → pln t = true ∧ (py t).canLay0 = true ∧ (py t).depth = 0
  | .non, _ => ⟨rfl, rfl, rfl⟩
  | .bl _, _ => ⟨rfl, rfl, rfl⟩
  | .int _, _ => ⟨rfl, rfl, rfl⟩
  | .str x, h => ⟨rfl, h, rfl⟩
theorem canLay_ints : ∀ ns : List Int, PyData.canLayAll0 (ns.map PyData.int) = true
  | [] => rfl
  | n :: ns => by simp only [List.map_cons, PyData.canLayAll0, PyData.canLay0, canLay_ints ns]; rfl
theorem depth_ints : ∀ ns : List Int, PyData.depthAll (ns.map PyData.int) = 0
  | [] => rfl
  | n :: ns => by simp only [List.map_cons, PyData.depthAll, PyData.depth, depth_ints ns]; rfl
theorem kT_all {n : Nat} (ih : ∀ t, kT n t = true → pln t = true ∧ (py t).canLay0 = true ∧ (py t).depth ≤ n) : ∀ ts : List T, ts.all (kT n) = true → plns ts = true ∧ PyData.canLayAll0 (pys ts) = true ∧ PyData.depthAll (pys ts) ≤ n
  | [], _ => ⟨rfl, rfl, Nat.zero_le _⟩
  | t :: ts, h => by
    rw [List.all_cons, Bool.and_eq_true] at h
    obtain ⟨a1, a2, a3⟩ := ih t h.1
    obtain ⟨b1, b2, b3⟩ := kT_all ih ts h.2
    unfold plns pys PyData.canLayAll0 PyData.depthAll
    rw [a1, b1, a2, b2]
    exact ⟨rfl, rfl, Nat.max_le.mpr ⟨a3, b3⟩⟩
theorem kT_pl : ∀ (n : Nat) (t : T), kT n t = true → pln t = true ∧ (py t).canLay0 = true ∧ (py t).depth ≤ n
  | 0, t, h => by
    obtain ⟨a, b, c⟩ := kfl (t := t) (by unfold kT at h; exact h)
    exact ⟨a, b, Nat.le_of_eq c⟩
  | n + 1, t, h => by
    have fl : fkT t = true → pln t = true ∧ (py t).canLay0 = true ∧ (py t).depth ≤ n + 1 := fun h => by
      obtain ⟨a, b, c⟩ := kfl h
      exact ⟨a, b, by omega⟩
    cases t with
    | lst ts =>
      obtain ⟨a, b, c⟩ := kT_all (kT_pl n) ts (by unfold kT at h; exact h)
      unfold pln py PyData.canLay0 PyData.depth
      exact ⟨a, b, by omega⟩
    | tup ts =>
      obtain ⟨a, b, c⟩ := kT_all (kT_pl n) ts (by unfold kT at h; exact h)
      unfold pln py PyData.canLay0 PyData.depth
      exact ⟨a, b, by omega⟩
    | scr ns =>
      unfold pln py PyData.canLay0 PyData.depth
      rw [canLay_ints, depth_ints]
      exact ⟨rfl, rfl, by omega⟩
    | non => exact fl rfl
    | bl b => exact fl rfl
    | int b => exact fl rfl
    | str x => exact fl (by unfold kT at h; exact h)
    | dic x => unfold kT at h; cases h
    | dit x => unfold kT at h; cases h
    | exc c x => unfold kT at h; cases h
    | ins c x => unfold kT at h; cases h
    | ob x => unfold kT at h; cases h
theorem kT_ok {n : Nat} {t : T} (h : kT n t = true) (hn : n ≤ 60) : okE t = true := by
  obtain ⟨a, b, c⟩ := kT_pl n t h
  unfold okE SeqAt.shaped
  rw [a, b]
  simp
  omega
@[simp] theorem kT_eO {n : Nat} {x : Option Int} : kT n (eO x) = true := by cases n <;> cases x <;> rfl
@[simp] theorem kT_int {n : Nat} : kT n (.int i) = true := by cases n <;> rfl
@[simp] theorem kT_bl {n : Nat} : kT n (.bl o) = true := by cases n <;> rfl
@[simp] theorem kT_non {n : Nat} : kT n .non = true := by cases n <;> rfl
@[simp] theorem kT_lst {n : Nat} : kT (n + 1) (.lst ts) = ts.all (kT n) := by rw [kT]
@[simp] theorem kT_tup {n : Nat} : kT (n + 1) (.tup ts) = ts.all (kT n) := by rw [kT]
@[simp] theorem kT_scr {n : Nat} : kT (n + 1) (.scr ns) = true := by rw [kT]
theorem okE_eO {x : Option Int} : okE (eO x) = true := kT_ok (n := 0) (by simp) (by decide)
theorem eqv_eO (x y : Option Int) : PyData.eqv (py (eO x)) (py (eO y)) = decide (x = y) := by
  cases x <;> cases y <;> simp [eO, py, PyData.eqv]
  rename_i a b
  by_cases h : a = b <;> simp [h]
theorem eqG_eO {f : Bool → Bool} (x y : Option Int) : eqG f (eO x) (eO y) = some (.bl (f (decide (x = y)))) := by
  have : eqG f (eO x) (eO y) = if okE (eO x) = true ∧ okE (eO y) = true then some (.bl (f (PyData.eqv (py (eO x)) (py (eO y))))) else none := by
    cases x <;> cases y <;> rfl
  rw [this, if_pos ⟨okE_eO, okE_eO⟩, eqv_eO]
@[simp] theorem eqT_eO (x y : Option Int) : eqT (eO x) (eO y) = some (.bl (decide (x = y))) := eqG_eO x y
@[simp] theorem neT_eO (x y : Option Int) : neT (eO x) (eO y) = some (.bl (!decide (x = y))) := eqG_eO x y
@[simp] theorem eqT_eOi (x : Option Int) : eqT (eO x) (.int i) = some (.bl (decide (x = some i))) := eqG_eO x (some i)
@[simp] theorem neT_eOi (x : Option Int) : neT (eO x) (.int i) = some (.bl (!decide (x = some i))) := eqG_eO x (some i)
@[simp] theorem eqT_ieO (x : Option Int) : eqT (.int i) (eO x) = some (.bl (decide (some i = x))) := eqG_eO (some i) x
@[simp] theorem neT_ieO (x : Option Int) : neT (.int i) (eO x) = some (.bl (!decide (some i = x))) := eqG_eO (some i) x
theorem eqG_int {f : Bool → Bool} : eqG f (.int i) (.int j) = some (.bl (f (decide (i = j)))) := by
  have := eqG_eO (f := f) (some i) (some j)
  simpa using this
@[simp] theorem eqT_int : eqT (.int i) (.int j) = some (.bl (decide (i = j))) := eqG_int
@[simp] theorem neT_int : neT (.int i) (.int j) = some (.bl (!decide (i = j))) := eqG_int
theorem eqG_bl {f : Bool → Bool} {p q : Bool} : eqG f (.bl p) (.bl q) = some (.bl (f (decide (p = q)))) := by
  show (if okE (.bl p) = true ∧ okE (.bl q) = true then some (T.bl (f (PyData.eqv (py (.bl p)) (py (.bl q))))) else none) = _
  rw [if_pos ⟨kT_ok (n := 0) rfl (by decide), kT_ok (n := 0) rfl (by decide)⟩]
  cases p <;> cases q <;> rfl
@[simp] theorem eqT_bl {p q : Bool} : eqT (.bl p) (.bl q) = some (.bl (decide (p = q))) := eqG_bl
@[simp] theorem neT_bl {p q : Bool} : neT (.bl p) (.bl q) = some (.bl (!decide (p = q))) := eqG_bl
@[simp] theorem eqT_str {x y : Str} : eqT (.str x) (.str y) = some (.bl (decide (x = y))) := Eq.trans rfl rfl
@[simp] theorem neT_str {x y : Str} : neT (.str x) (.str y) = some (.bl (!decide (x = y))) := Eq.trans rfl rfl
theorem eqG_nil {f : Bool → Bool} (h : ts.all (kT 8) = true) : eqG f (.lst ts) (.lst []) = some (.bl (f ts.isEmpty)) := by
  show (if okE (.lst ts) = true ∧ okE (.lst []) = true then some (T.bl (f (PyData.eqv (py (.lst ts)) (py (.lst []))))) else none) = _
  rw [if_pos ⟨kT_ok (n := 9) (by rw [kT_lst]; exact h) (by decide), kT_ok (n := 1) rfl (by decide)⟩]
  cases ts <;> rfl
theorem eqT_nil (h : ts.all (kT 8) = true) : eqT (.lst ts) (.lst []) = some (.bl ts.isEmpty) := eqG_nil h
theorem eqvAll_eO : ∀ xs ys : List (Option Int), PyData.eqvAll (pys (xs.map eO)) (pys (ys.map eO)) = decide (xs = ys)
  | [], [] => rfl
  | [], _ :: _ => rfl
  | _ :: _, [] => rfl
  | x :: xs, y :: ys => by
    show (PyData.eqv (py (eO x)) (py (eO y)) && PyData.eqvAll (pys (xs.map eO)) (pys (ys.map eO))) = _
    rw [eqv_eO, eqvAll_eO xs ys]
    by_cases h : x = y <;> simp [h]
theorem eqG_eOs {f : Bool → Bool} (xs ys : List (Option Int)) : eqG f (.lst (xs.map eO)) (.lst (ys.map eO)) = some (.bl (f (decide (xs = ys)))) := by
  have k : ∀ zs : List (Option Int), okE (.lst (zs.map eO)) = true := fun zs => kT_ok (n := 1) (by simp) (by decide)
  show (if okE (.lst (xs.map eO)) = true ∧ okE (.lst (ys.map eO)) = true then some (T.bl (f (PyData.eqvAll (pys (xs.map eO)) (pys (ys.map eO))))) else none) = _
  rw [if_pos ⟨k xs, k ys⟩, eqvAll_eO]
@[simp] theorem eqT_eOs (xs ys : List (Option Int)) : eqT (.lst (xs.map eO)) (.lst (ys.map eO)) = some (.bl (decide (xs = ys))) := eqG_eOs xs ys
@[simp] theorem neT_eOs (xs ys : List (Option Int)) : neT (.lst (xs.map eO)) (.lst (ys.map eO)) = some (.bl (!decide (xs = ys))) := eqG_eOs xs ys
theorem ints_eO (xs : List Int) : xs.map T.int = (xs.map some).map eO := by simp [List.map_map, Function.comp_def]
theorem eqG_ints {f : Bool → Bool} (xs ys : List Int) : eqG f (.lst (xs.map .int)) (.lst (ys.map .int)) = some (.bl (f (decide (xs = ys)))) := by
  rw [ints_eO, ints_eO, eqG_eOs]
  have e : decide (xs.map some = ys.map some) = decide (xs = ys) := by
    by_cases h : xs = ys
    · simp [h]
    · rw [decide_eq_false h, decide_eq_false fun z => h ?_]
      have := congrArg (List.filterMap id) z
      simpa [List.filterMap_map] using this
  rw [e]
@[simp] theorem eqT_ints (xs ys : List Int) : eqT (.lst (xs.map .int)) (.lst (ys.map .int)) = some (.bl (decide (xs = ys))) := eqG_ints xs ys
@[simp] theorem neT_ints (xs ys : List Int) : neT (.lst (xs.map .int)) (.lst (ys.map .int)) = some (.bl (!decide (xs = ys))) := eqG_ints xs ys
end
section
variable {g : T → Lo → Option Lo} {body : Lo → Fl} {ts : List T} {ev e : Lo}
def turn (g : T → Lo → Option Lo) (body : Lo → Fl) (t : T) (ev : Lo) : Fl := match g t ev with
  | some e => body e
  | none => .bad
def tOpt (body : Lo → Fl) : Option Lo → Fl
  | some e => body e
  | none => .bad
@[simp] theorem turn_ap {t : T} : turn g body t ev = tOpt body (g t ev) := by unfold turn tOpt; rfl
@[simp] theorem tOpt_some : tOpt body (some e) = body e := Eq.trans rfl rfl
theorem forL_cons {t : T} : forL g body (t :: ts) ev = match turn g body t ev with
    | .nx e => forL g body ts e
    | .ct e => forL g body ts e
    | .bk e => .nx e
    | r => r := by
  show (match g t ev with
    | none => Fl.bad
    | some e => match body e with
      | .nx e' => forL g body ts e'
      | .ct e' => forL g body ts e'
      | .bk e' => .nx e'
      | r => r) = _
  unfold turn
  cases g t ev with
  | none => rfl
  | some e => rfl
theorem forL_same (h : ∀ t ∈ ts, turn g body t ev = .nx ev) : forL g body ts ev = .nx ev := by
  induction ts with
  | nil => rfl
  | cons t ts ih =>
    rw [forL_cons, h t (by simp)]
    exact ih fun u hu => h u (by simp [hu])
variable {α σ ρ : Type}
theorem forL_foldN (enc : Nat → T) (E : σ → Lo) (step : σ → Nat → σ) (I : Nat → σ → Prop) {n : Nat} {s0 : σ} (h0 : I 0 s0) (h : ∀ k s, I k s → k < n → I (k + 1) (step s k) ∧ turn g body (enc k) (E s) = .nx (E (step s k))) :
    forL g body ((List.range n).map enc) (E s0) = .nx (E ((List.range n).foldl step s0)) ∧ I n ((List.range n).foldl step s0) := by
  have key : ∀ k, k ≤ n → I k ((List.range k).foldl step s0) := fun k => by
    induction k with
    | zero => exact fun _ => h0
    | succ k ih => intro hk; rw [List.range_succ, List.foldl_append]; exact (h k _ (ih (by omega)) (by omega)).1
  have go : ∀ m k, k + m = n → forL g body (((List.range n).drop k).map enc) (E ((List.range k).foldl step s0)) = .nx (E ((List.range n).foldl step s0)) := fun m => by
    induction m with
    | zero => intro k e; have : k = n := by omega
              subst this; rw [List.drop_of_length_le (by simp)]; rfl
    | succ m ih =>
      intro k e
      rw [List.drop_eq_getElem_cons (by simp; omega), List.map_cons, forL_cons]
      have eg : (List.range n)[k]'(by simp; omega) = k := by simp
      rw [eg, (h k _ (key k (by omega)) (by omega)).2]
      have := ih (k + 1) (by omega)
      rw [List.range_succ, List.foldl_append] at this
      exact this
  have := go n 0 (by omega)
  rw [List.drop_zero] at this
  exact ⟨this, key n (Nat.le_refl _)⟩
theorem forL_all (enc : α → T) (p : α → Bool) {xs : List α} {r : T} (h : ∀ x ∈ xs, turn g body (enc x) ev = if p x = true then .nx ev else .rt r) :
    forL g body (xs.map enc) ev = if xs.all p = true then .nx ev else .rt r := by
  induction xs with
  | nil => rfl
  | cons x xs ih =>
    rw [List.map_cons, forL_cons, h x (by simp)]
    cases e : p x with
    | false => simp [e]
    | true => simp only [if_true]; rw [ih fun y hy => h y (by simp [hy]), List.all_cons, e]; simp
variable {c : Lo → R Bool} {de : Lo → R T} {vs : List Nat} {di : Lo → R (List T)}
def cturn (g : T → Lo → Option Lo) (c : Lo → R Bool) (de : Lo → R T) (ev : Lo) (t : T) : R (Option T) := match g t ev with
  | none => .bad
  | some e => match c e with
    | .ok true => (match de e with
      | .ok u => .ok (some u)
      | _ => .bad)
    | .ok false => .ok none
    | _ => .bad
def cT2 : R T → R (Option T)
  | .ok u => .ok (some u)
  | _ => .bad
def cT1 (de : Lo → R T) (e : Lo) : R Bool → R (Option T)
  | .ok true => cT2 (de e)
  | .ok false => .ok none
  | _ => .bad
def cT0 (c : Lo → R Bool) (de : Lo → R T) : Option Lo → R (Option T)
  | none => .bad
  | some e => cT1 de e (c e)
theorem cturn_ap {t : T} : cturn g c de ev t = cT0 c de (g t ev) := by
  unfold cturn cT0
  cases g t ev with
  | none => rfl
  | some e =>
    dsimp only
    unfold cT1 cT2
    cases c e with
    | bad => rfl
    | ex _ _ => rfl
    | ok b => cases b with
      | false => rfl
      | true => cases de e <;> rfl
@[simp] theorem cT0_some : cT0 c de (some e) = cT1 de e (c e) := Eq.trans rfl rfl
@[simp] theorem cT1_t : cT1 de e (.ok true) = cT2 (de e) := Eq.trans rfl rfl
@[simp] theorem cT1_f : cT1 de e (.ok false) = .ok none := Eq.trans rfl rfl
@[simp] theorem cT2_ok {u : T} : cT2 (.ok u) = .ok (some u) := Eq.trans rfl rfl
theorem compL_fm (enc : α → T) (f : α → Option T) {xs : List α} (h : ∀ x ∈ xs, cturn g c de ev (enc x) = .ok (f x)) : compL g c de ev (xs.map enc) = .ok (xs.filterMap f) := by
  induction xs with
  | nil => rfl
  | cons x xs ih =>
    have h1 := h x (by simp)
    have h2 := ih fun y hy => h y (by simp [hy])
    rw [List.map_cons]
    unfold compL
    unfold cturn at h1
    cases e1 : g (enc x) ev with
    | none => rw [e1] at h1; cases h1
    | some e =>
      rw [e1] at h1
      dsimp only at h1 ⊢
      cases e2 : c e with
      | bad => rw [e2] at h1; cases h1
      | ex _ _ => rw [e2] at h1; cases h1
      | ok b =>
        rw [e2] at h1
        cases b with
        | false =>
          dsimp only at h1 ⊢
          rw [h2, List.filterMap_cons]
          cases h1' : f x with
          | none => rfl
          | some u => rw [h1'] at h1; cases h1
        | true =>
          dsimp only at h1 ⊢
          cases e3 : de e with
          | bad => rw [e3] at h1; cases h1
          | ex _ _ => rw [e3] at h1; cases h1
          | ok u =>
            rw [e3] at h1
            dsimp only at h1 ⊢
            rw [h2, List.filterMap_cons]
            cases h1' : f x with
            | none => rw [h1'] at h1; cases h1
            | some u' => rw [h1'] at h1; cases h1; rfl
theorem compL_map (enc f : α → T) {xs : List α} (h : ∀ x ∈ xs, cturn g c de ev (enc x) = .ok (some (f x))) : compL g c de ev (xs.map enc) = .ok (xs.map f) := by
  rw [compL_fm enc (fun x => some (f x)) h, List.filterMap_eq_map']
theorem compL_flt (enc f : α → T) (p : α → Bool) {xs : List α} (h : ∀ x ∈ xs, cturn g c de ev (enc x) = .ok (if p x = true then some (f x) else none)) : compL g c de ev (xs.map enc) = .ok ((xs.filter p).map f) := by
  rw [compL_fm enc (fun x => if p x = true then some (f x) else none) h]
  congr 1
  clear h
  induction xs with
  | nil => rfl
  | cons x xs ih =>
    rw [List.filterMap_cons, List.filter_cons]
    cases p x with
    | true => simp [ih]
    | false => simp [ih]
theorem compL_nil : compL g c de ev [] = .ok [] := Eq.trans rfl rfl
theorem compL_c1 {t u : T} {us : List T} (h : cturn g c de ev t = .ok (some u)) (k : compL g c de ev ts = .ok us) : compL g c de ev (t :: ts) = .ok (u :: us) := by
  unfold compL
  unfold cturn at h
  cases e1 : g t ev with
  | none => rw [e1] at h; cases h
  | some e =>
    rw [e1] at h
    dsimp only at h ⊢
    cases e2 : c e with
    | bad => rw [e2] at h; cases h
    | ex _ _ => rw [e2] at h; cases h
    | ok b =>
      rw [e2] at h
      cases b with
      | false => cases h
      | true =>
        dsimp only at h ⊢
        cases e3 : de e with
        | bad => rw [e3] at h; cases h
        | ex _ _ => rw [e3] at h; cases h
        | ok u' => rw [e3] at h; cases h; rw [k]
def apCo (g : T → Lo → Option Lo) (c : Lo → R Bool) (de : Lo → R T) (ev : Lo) : R (List T) → R T
  | .ok ts => (match compL g c de ev ts with
    | .ok us => if us.length ≤ sizeLine then .ok (.lst us) else .bad
    | _ => .bad)
  | .ex x fs => .ex x fs
  | .bad => .bad
@[simp] theorem ap_dComp : dComp vs di g c de ev = apCo g c de (wipeL vs ev) (di ev) := by unfold dComp apCo; cases di ev <;> rfl
def fitL : R (List T) → R T
  | .ok us => if us.length ≤ sizeLine then .ok (.lst us) else .bad
  | _ => .bad
@[simp] theorem apCo_ok : apCo g c de ev (.ok ts) = fitL (compL g c de ev ts) := by
  show (match compL g c de ev ts with
    | .ok us => if us.length ≤ sizeLine then R.ok (T.lst us) else .bad
    | _ => .bad) = _
  cases compL g c de ev ts <;> rfl
@[simp] theorem fitL_ap {us : List T} : fitL (.ok us) = if us.length ≤ sizeLine then .ok (.lst us) else .bad := Eq.trans rfl rfl
theorem fitL_ok {us : List T} (h : us.length ≤ 100000) : fitL (.ok us) = .ok (.lst us) := if_pos (Nat.le_trans h (by decide))
@[simp] theorem ap_dYes : dYes ev = .ok true := Eq.trans rfl rfl
theorem enumL_map (enc : α → T) (xs : List α) : enumL (xs.map enc) = xs.zipIdx.map fun p => T.tup [.int p.2, enc p.1] := by
  unfold enumL
  rw [List.zipIdx_map, List.map_map]; rfl
end
end DL
set_option maxHeartbeats 2000000
namespace DL
open PySem PySem.Spec PyProof.Rows L2
def leX : T → T → Option T
  | .int i, .int j => some (.bl (decide (i ≤ j)))
  | .tup ts, .tup us => match nums ts, nums us with
    | some a, some b => some (.bl (lexLe a b))
    | _, _ => none
  | _, _ => none
@[simp] theorem leX_int {i j : Int} : leX (.int i) (.int j) = some (.bl (decide (i ≤ j))) := Eq.trans rfl rfl
@[simp] theorem leX_tup {ts us : List T} : leX (.tup ts) (.tup us) = (match nums ts, nums us with
    | some a, some b => some (.bl (lexLe a b))
    | _, _ => none) := Eq.trans rfl rfl
theorem lexAt_le (ns ms : List Int) : ∀ k i, i + k = min ns.length ms.length →
    Ob.lexAt (fun j => decide (ns.getD j 0 = ms.getD j 0)) (fun j => decide (ns.getD j 0 ≤ ms.getD j 0)) (decide (ns.length ≤ ms.length)) i k = lexLe (ns.drop i) (ms.drop i)
  | 0, i, h => by
    rw [Ob.lexAt_zero]
    by_cases c : ns.length ≤ ms.length
    · have : ns.drop i = [] := List.drop_of_length_le (by omega)
      rw [this, decide_eq_true c]; rfl
    · have e1 : ms.drop i = [] := List.drop_of_length_le (by omega)
      have e2 : ns.drop i = ns[i]'(by omega) :: ns.drop (i + 1) := List.drop_eq_getElem_cons (by omega)
      rw [e1, e2, decide_eq_false c]; rfl
  | k + 1, i, h => by
    have h1 : i < ns.length := by omega
    have h2 : i < ms.length := by omega
    have g1 : ns.getD i 0 = ns[i] := by rw [List.getD_eq_getElem?_getD, List.getElem?_eq_getElem h1]; rfl
    have g2 : ms.getD i 0 = ms[i] := by rw [List.getD_eq_getElem?_getD, List.getElem?_eq_getElem h2]; rfl
    rw [Ob.lexAt_succ, lexAt_le ns ms k (i + 1) (by omega), List.drop_eq_getElem_cons h1, List.drop_eq_getElem_cons h2, g1, g2]
    show _ = if ns[i] = ms[i] then lexLe _ _ else decide (ns[i] < ms[i])
    by_cases e : ns[i] = ms[i]
    · rw [if_pos (decide_eq_true e), if_pos e]
    · rw [if_neg (by simp [e]), if_neg e]
      by_cases c : ns[i] < ms[i]
      · rw [decide_eq_true c, decide_eq_true (by omega)]
      · rw [decide_eq_false c, decide_eq_false (by omega)]
section
variable {X : Cx} {a b : Expr} {S0 : Addr → Prop} {H0 : Hp} {W : WX} {da db : Lo → R T} {pos : Pos} {k : Nat}
def rLeX (K : PySem.W.Frag) : R2 := fun x y H Q => (∃ i j, x = .int i ∧ y = .int j ∧ Q (.bl (decide (i ≤ j))) H) ∨ rLeT K x y H Q
theorem op_leX (hu : X.A.units < cLine) : OpR X (compareOp .LtE) (rLeX X.K) := fun pins s σ H x y v u Q I rx ry h => by
  rcases h with h | h
  · exact op_le pins s σ H x y v u Q I rx ry h
  · exact op_leT hu pins s σ H x y v u Q I rx ry h
theorem leX_ok : ∀ (S : Addr → Prop) (H : Hp) (x y : V) (t u w : T) (Q : VK), (∀ a, S a → Mu H a) → Pm X.K .w S H H x t → Pm X.K .w S H H y u → leX t u = some w → (∀ v H', Same H H' → Pm X.K .f S H H' v w → Q v H') → rLeX X.K x y H Q := fun S H x y t u w Q hs p q e z => by
  unfold leX at e
  split at e
  · cases e
    exact .inl ⟨_, _, p.int, q.int, z _ _ (Same.refl _) (one_bl _)⟩
  · rename_i ts us
    obtain ⟨a, xs, rfl, na, ra⟩ := p.tup
    obtain ⟨b, ys, rfl, nb, rb⟩ := q.tup
    split at e
    · rename_i i j e1 e2
      cases e
      have := nums_v ra e1
      have := nums_v rb e2
      subst xs ys
      refine .inr ⟨a, b, i, j, rfl, rfl, na.sq, nb.sq, ?_⟩
      have := lexAt_le i j (min i.length j.length) 0 (by omega)
      rw [List.drop_zero, List.drop_zero] at this
      rw [this]
      exact z _ _ (Same.refl _) (one_bl _)
    · cases e
  · cases e
theorem t_leX (cn : Cn X W k) (ha : PE X a (tG .w X.K S0 H0 W da)) (hb : PE X b (tG .w X.K S0 H0 W db)) : PT X (.Compare a [.LtE] [b] pos) (tB X.K S0 H0 W (dTest (d2 leX da db))) := t_cmp (op_leX cn.room.units0) leX_ok ha hb (nomark _)
end
end DL
set_option maxHeartbeats 2000000
namespace TS
open PySem PyProof.Rows
def TupsN (h : Heap) (d : Nat) (vs : List Value) : Prop := ∀ v ∈ vs, ∃ ns, TupInts h v ns ∧ ns.length = d
theorem tups_ofN {h : Heap} {d : Nat} (hd : 1 ≤ d) : ∀ {vs : List Value}, TupsN h d vs → ∃ fs, TupsOf h (fun _ => false) vs fs
  | [], _ => ⟨[], .nil⟩
  | v :: vs, x => by
    obtain ⟨fs, r⟩ := tups_ofN hd (vs := vs) fun u hu => x u (List.mem_cons_of_mem _ hu)
    obtain ⟨ns, ⟨a, xs, rfl, ⟨o, ho, hc, n, ht⟩, hi⟩, hl⟩ := x v List.mem_cons_self
    obtain ⟨xs⟩ := xs
    cases hi with
    | nil => simp at hl; omega
    | cons k t _ => exact ⟨_, .cons ⟨a, o, _, n, rfl, ho, hc, ht, rfl, fun _ => ⟨k, t, rfl⟩, fun z => by cases z⟩ r⟩
theorem lex_le : ∀ {ns ms : List Int}, ns.length = ms.length → lexLt itemOrd (ms.map Sum.inl) (ns.map Sum.inl) = false → DL.lexLe ns ms = true
  | [], [], _, _ => rfl
  | [], _ :: _, h, _ => by simp at h
  | _ :: _, [], h, _ => by simp at h
  | d :: r, e :: q, hl, h => by
    have hl2 : r.length = q.length := by simpa using hl
    have h : (decide (e < d) || (!decide (d < e) && lexLt itemOrd (q.map Sum.inl) (r.map Sum.inl))) = false := h
    simp only [Bool.or_eq_false_iff, Bool.and_eq_false_iff, decide_eq_false_iff_not, Bool.not_eq_false', decide_eq_true_eq] at h
    obtain ⟨h1, h2⟩ := h
    show (if d = e then DL.lexLe r q else decide (d < e)) = true
    by_cases hd : d < e
    · rw [if_neg (by omega)]; exact decide_eq_true hd
    · have : d = e := by omega
      rw [if_pos this]
      exact lex_le hl2 (h2.resolve_left hd)
section
variable {prog : Program} {w : World} {A : Around} {E : Value → Shared → Prop} {s : Shared}
theorem out_okN {d : Nat} {vs : List Value} (x : TupsN s.heap d vs) {st' : SortSt} (p : (arrOf st').Perm (pairsOf vs)) (so : SortedToK (G.tupKindC s.heap (fun _ => false)) (arrOf st') (pairsOf vs).size) :
    ((arrOf st').map (·.2)).toList.Perm vs ∧ ((arrOf st').map (·.2)).toList.Pairwise (fun u v => DL.lexLe (intsOf s.heap u) (intsOf s.heap v) = true) := by
  constructor
  · have p2 := p.toList.map Prod.snd
    rw [pairsOf_toList, List.map_snd_zip (Nat.le_refl _)] at p2
    rw [Array.toList_map]
    exact p2
  · have mem : ∀ q ∈ (arrOf st').toList, q.1 = q.2 ∧ q.2 ∈ vs := fun q hq => by
      have := p.toList.mem_iff.mp hq
      rw [pairsOf_toList] at this
      have z := mem_zip_self this
      exact ⟨z.1, by rw [← z.1]; exact z.2⟩
    rw [Array.toList_map, List.pairwise_map, List.pairwise_iff_getElem]
    intro i j hi hj hij
    have sz : (arrOf st').size = (pairsOf vs).size := by
      have := p.toList.length_eq
      simpa using this
    have k := so i j (Nat.le_of_lt hij) (by rw [← sz]; simpa using hj)
    obtain ⟨i1, i2⟩ := mem _ (List.getElem_mem hi)
    obtain ⟨j1, j2⟩ := mem _ (List.getElem_mem hj)
    obtain ⟨ns, t1, l1⟩ := x _ i2
    obtain ⟨ms, t2, l2⟩ := x _ j2
    rw [t1.ints, t2.ints]
    have ki : KK (G.tupKindC s.heap (fun _ => false)) (arrOf st') i = ns.map Sum.inl := by
      unfold KK
      rw [← Array.getElem?_toList, List.getElem?_eq_getElem hi]
      show ((G.tupKeyC s.heap (fun _ => false) _).getD _) = _
      rw [i1, key_ints t1]; rfl
    have kj : KK (G.tupKindC s.heap (fun _ => false)) (arrOf st') j = ms.map Sum.inl := by
      unfold KK
      rw [← Array.getElem?_toList, List.getElem?_eq_getElem hj]
      show ((G.tupKeyC s.heap (fun _ => false) _).getD _) = _
      rw [j1, key_ints t2]; rfl
    rw [ki, kj] at k
    exact lex_le (by omega) k
theorem sorted_tupsN {l : Addr} {vs : List Value} {d : Nat} {Q : Value → Shared → Prop} (hl : s.heap.IsList l vs.toArray) (hL : vs.length ≤ sizeLine) (hd : 1 ≤ d) (x : TupsN s.heap d vs)
    (h : ∀ out : Array Value, out.toList.Perm vs → out.toList.Pairwise (fun u v => DL.lexLe (intsOf s.heap u) (intsOf s.heap v) = true) → Q (.ref (s.heap.objs.size + 1)) { s with heap := sortedAll s.heap vs out }) :
    wpAny (model prog w) A (call (.builtin "sorted") [.ref l]) Q E s := by
  obtain ⟨fs, ht⟩ := tups_ofN hd x
  refine G.sorted_tups hl ht (fun v hv => ?_) hL fun st' p so _ => h _ (out_okN x p so).1 (out_okN x p so).2
  obtain ⟨ns, t, _⟩ := x v hv
  exact ⟨_, key_ints t⟩
end
end TS
namespace L2
open PySem PySem.Spec PyProof.Rows
section
variable {X : Cx}
def rSortN (K : PySem.W.Frag) (d : Nat) : List V → Hp → VK → Prop := fun vs H Q => ∃ (a : Addr) (xs : List V), vs = [V.ref a] ∧ SqL K H a xs ∧ (∀ x ∈ xs, ∃ ns, TupI K H x ns ∧ ns.length = d) ∧
  ∀ (ys : List V) (p : Addr), ys.Perm xs → ys.Pairwise (fun x y => ∀ n m, TupI K H x n → TupI K H y m → DL.lexLe n m = true) → H p = none → Q (.ref p) (upd H p (.lst ys))
theorem cr_sortN {d : Nat} (hd : 1 ≤ d) : CallR X (.builtin "sorted") (rSortN X.K d) := by
  intro pins s σ H vs us Q I r h
  obtain ⟨a, xs, rfl, hs, hx, q⟩ := h
  obtain ⟨its, rv, hl, hz⟩ := I.list hs
  rw [Vals.ref1 r]
  obtain ⟨e1, e2⟩ := bkV_refs rv fun x m => by
    obtain ⟨ns, ⟨t, e, _⟩, _⟩ := hx x m
    exact ⟨t, e⟩
  refine TS.sorted_tupsN (d := d) hl.isList (by rw [← rv.length]; exact hz) hd (fun v hv => ?_) fun out h1 h2 => ?_
  · obtain ⟨t, rfl⟩ := e2 v hv
    obtain ⟨ns, ⟨t', e, ht⟩, hn⟩ := hx (V.ref t) (by rw [e1]; exact List.mem_map.mpr ⟨_, hv, rfl⟩)
    cases e
    exact ⟨ns, tupI_raw I ht, hn⟩
  · obtain ⟨ep, he'⟩ := PyProof.Rows.sortedAll_at s.heap its out
    have h3 : ∀ u ∈ out.toList, ∃ a, u = Value.ref a := fun u hu => e2 u (h1.mem_iff.mp hu)
    have hp : (out.toList.map bkV).Perm xs := by
      rw [e1]
      exact h1.map bkV
    have hlen : (out.toList.map bkV).length ≤ sizeLine := by
      rw [hp.length_eq]
      exact hz
    refine ⟨.ref _, upd H (s.heap.objs.size + 1) (.lst (out.toList.map bkV)), I.laid (t' := s.toks) (fun _ _ => PyProof.Rows.sortedAll_old) (Nat.le_succ _) ⟨hlen, out.toList, ep, bkV_vals h3, he'⟩, rfl, q _ _ hp ?_ (I.hok.fresh (Nat.le_succ _))⟩
    rw [List.pairwise_map]
    refine List.Pairwise.imp (fun {u v} huv n m hn hm => ?_) h2
    obtain ⟨t, et, ht⟩ := hn
    obtain ⟨t', et', ht'⟩ := hm
    have eu := bkV_ref et
    have ev := bkV_ref et'
    have i1 : TS.intsOf s.heap u = n := by
      rw [eu]
      exact (tupI_raw I ht).ints
    have i2 : TS.intsOf s.heap v = m := by
      rw [ev]
      exact (tupI_raw I ht').ints
    rw [← i1, ← i2]
    exact huv
end
end L2
namespace DL
open PySem PySem.Spec PyProof.Rows L2
theorem lexLe_total : ∀ x y : List Int, lexLe x y = false → lexLe y x = true
  | [], y, h => by cases y <;> cases h
  | a :: r, [], _ => rfl
  | a :: r, b :: q, h => by
    have h : (if a = b then lexLe r q else decide (a < b)) = false := h
    show (if b = a then lexLe q r else decide (b < a)) = true
    by_cases e : a = b
    · rw [if_pos e] at h; rw [if_pos e.symm]; exact lexLe_total r q h
    · rw [if_neg e] at h
      have := of_decide_eq_false h
      rw [if_neg fun z => e z.symm]; exact decide_eq_true (by omega)
theorem lexLe_trans : ∀ x y z : List Int, lexLe x y = true → lexLe y z = true → lexLe x z = true
  | [], _, _, _, _ => rfl
  | a :: r, [], _, h, _ => by cases h
  | a :: r, b :: q, [], _, h => by cases h
  | a :: r, b :: q, c :: s, h1, h2 => by
    have h1 : (if a = b then lexLe r q else decide (a < b)) = true := h1
    have h2 : (if b = c then lexLe q s else decide (b < c)) = true := h2
    show (if a = c then lexLe r s else decide (a < c)) = true
    by_cases e1 : a = b
    · rw [if_pos e1] at h1
      by_cases e2 : b = c
      · rw [if_pos e2] at h2
        rw [if_pos (e1.trans e2)]; exact lexLe_trans r q s h1 h2
      · rw [if_neg e2] at h2
        have := of_decide_eq_true h2
        rw [if_neg (by omega)]; exact decide_eq_true (by omega)
    · rw [if_neg e1] at h1
      have d1 := of_decide_eq_true h1
      by_cases e2 : b = c
      · rw [if_neg (by omega)]; exact decide_eq_true (by omega)
      · rw [if_neg e2] at h2
        have := of_decide_eq_true h2
        rw [if_neg (by omega)]; exact decide_eq_true (by omega)
theorem lexLe_anti : ∀ {x y : List Int}, x.length = y.length → lexLe x y = true → lexLe y x = true → x = y
  | [], [], _, _, _ => rfl
  | [], _ :: _, h, _, _ => by simp at h
  | _ :: _, [], h, _, _ => by simp at h
  | a :: r, b :: q, hl, h1, h2 => by
    have h1 : (if a = b then lexLe r q else decide (a < b)) = true := h1
    have h2 : (if b = a then lexLe q r else decide (b < a)) = true := h2
    by_cases e : a = b
    · rw [if_pos e] at h1; rw [if_pos e.symm] at h2
      rw [e, lexLe_anti (by simpa using hl) h1 h2]
    · rw [if_neg e] at h1; rw [if_neg fun z => e z.symm] at h2
      have := of_decide_eq_true h1
      have := of_decide_eq_true h2
      omega
theorem insL_lex (x : List Int) : ∀ {xs : List (List Int)}, xs.Pairwise (fun a b => lexLe a b = true) → (insL x xs).Pairwise fun a b => lexLe a b = true
  | [], _ => by simp [insL]
  | y :: ys, h => by
    obtain ⟨h1, h2⟩ := List.pairwise_cons.mp h
    unfold insL
    by_cases c : lexLe x y = true
    · rw [if_pos c]
      refine List.pairwise_cons.mpr ⟨fun z hz => ?_, h⟩
      rcases List.mem_cons.mp hz with e | hz
      · rw [e]; exact c
      · exact lexLe_trans _ _ _ c (h1 z hz)
    · rw [if_neg c]
      refine List.pairwise_cons.mpr ⟨fun z hz => ?_, insL_lex x h2⟩
      rcases List.mem_cons.mp ((insL_perm x ys).mem_iff.mp hz) with e | hz
      · rw [e]; exact lexLe_total _ _ (by simpa using c)
      · exact h1 z hz
theorem sortL_lex : ∀ xs : List (List Int), (sortL xs).Pairwise fun a b => lexLe a b = true
  | [] => List.Pairwise.nil
  | x :: xs => insL_lex x (sortL_lex xs)
theorem sortL_isN {d : Nat} {xs ys : List (List Int)} (f : ∀ x ∈ xs, x.length = d) (p : ys.Perm xs) (h : ys.Pairwise fun a b => lexLe a b = true) : ys = sortL xs :=
  List.Perm.eq_of_pairwise (le := fun a b => lexLe a b = true) (fun a b ha hb h1 h2 => lexLe_anti (by rw [f a (p.mem_iff.mp ha), f b ((sortL_perm xs).mem_iff.mp hb)]) h1 h2) h (sortL_lex xs) (p.trans (sortL_perm xs).symm)
def okTupsN (kss : List (List Int)) : Bool := match kss with
  | [] => true
  | k :: _ => decide (1 ≤ k.length) && kss.all fun ks => ks.length == k.length
def sortedNL : List T → Option T
  | [.lst ts] => (tups ts).bind fun kss => if kss.length ≤ 4000 ∧ okTupsN kss = true then some (.lst ((sortL kss).map fun ks => .tup (ks.map .int))) else none
  | _ => none
section
variable {X : Cx} {e : Expr} {S0 : Addr → Prop} {H0 : Hp} {W : WX} {d : Lo → R T} {pos : Pos} {k : Nat}
def rSrtN (K : PySem.W.Frag) : List V → Hp → VK → Prop := fun vs H Q => ∃ d, 1 ≤ d ∧ rSortN K d vs H Q
theorem cr_srtN : CallR X (.builtin "sorted") (rSrtN X.K) := fun pins s σ H xs us Q I r h => by
  obtain ⟨d, hd, h⟩ := h
  exact cr_sortN hd pins s σ H xs us Q I r h
theorem b_sortedN : BOk X.K .f (rSrtN X.K) sortedNL := fun S H vs ts w Q hs p e z => by
  unfold sortedNL at e
  split at e
  · rename_i ts
    obtain ⟨v, rfl, q⟩ := one_w p
    obtain ⟨a, xs, rfl, g, r⟩ := q.lst
    cases et : tups ts with
    | none => rw [et] at e; cases e
    | some kss =>
      rw [et] at e
      obtain ⟨⟨hl, ho⟩, rfl⟩ := some_if (show (if kss.length ≤ 4000 ∧ okTupsN kss = true then some (T.lst ((sortL kss).map fun ks => .tup (ks.map .int))) else none) = some w from e)
      have := tups_is et
      subst this
      have fit : ∃ d, 1 ≤ d ∧ ∀ ks ∈ kss, ks.length = d := by
        cases kss with
        | nil => exact ⟨1, Nat.le_refl _, fun ks h => by cases h⟩
        | cons k0 kr =>
          unfold okTupsN at ho
          simp only [Bool.and_eq_true, decide_eq_true_eq, List.all_eq_true, beq_iff_eq] at ho
          exact ⟨k0.length, ho.1, fun ks hk => ho.2 ks hk⟩
      obtain ⟨d, hd, fit⟩ := fit
      refine ⟨d, hd, a, xs, rfl, .inl (.inl g), fun x hx => ?_, fun ys p' pm pw hn => ?_⟩
      · obtain ⟨i, hi⟩ := List.getElem?_of_mem hx
        obtain ⟨t, et, ht⟩ := r.getv hi
        obtain ⟨ks, hk, rfl⟩ := List.mem_map.mp (List.mem_of_getElem? et)
        exact ⟨ks, tup_of ht, fit ks hk⟩
      · obtain ⟨kss', p2, r2⟩ := perm_ts pm r
        have := sortL_isN fit p2 (pw_of (R := fun n m => lexLe n m = true) r2 pw)
        subst this
        exact z _ _ (same_upd hn) (new_lst hn r2)
  · cases e
theorem e_sortedN {p : Pos} (cn : Cn X W k) (hm : X.mg "sorted" = none) (ha : PE X e (tG .w X.K S0 H0 W d)) (hg : Gl X "sorted" := by rfl) (hs : starEach [e] X.env = (false, eval e X.env) :: starEach [] X.env := by rfl) :
    PE X (.Call (.Name "sorted" p) [e] [] pos) (tG .f X.K S0 H0 W (dBlt sortedNL (dCons d dNil))) := e_blt cr_srtN b_sortedN hm (by decide +kernel) (w_cons ha w_nil hs) hg (he := hs)
end
end DL
set_option maxHeartbeats 4000000
namespace Pg
open PySem PySem.Spec PyProof.Rows L2 DL
def b_is_whole : Lo → Fl := (sRet (dAndV (dBlt (isiL "int") (dCons (dVar 0) dNil)) (dNotV (dBlt (isiL "bool") (dCons (dVar 0) dNil)))))
def dn_is_whole : List T → R T := dFn 1 b_is_whole
theorem eq_is_whole (a0 : T) : dn_is_whole [a0] = fin (b_is_whole [some (a0, false)]) := rfl
def b_is_within : Lo → Fl := (sRet (dAndV (dCall dn_is_whole (dCons (dVar 0) dNil)) (dChain leT leT (dVar 1) (dVar 0) (dVar 2))))
def dn_is_within : List T → R T := dFn 3 b_is_within
theorem eq_is_within (a0 a1 a2 : T) : dn_is_within [a0, a1, a2] = fin (b_is_within [some (a0, false), some (a1, false), some (a2, false)]) := rfl
def b_is_number : Lo → Fl := (sRet (dCall dn_is_within (dCons (dVar 0) (dCons (dC (.int 0)) (dCons (dC (.int 1000000000)) dNil)))))
def dn_is_number : List T → R T := dFn 1 b_is_number
theorem eq_is_number (a0 : T) : dn_is_number [a0] = fin (b_is_number [some (a0, false)]) := rfl
def b__law_cell_at : Lo → Fl := (sSeq (sIf (dTest (d2 ltT (dVar 1) (dBlt lenL (dCons (dVar 0) dNil))))
 (sRet (d2 ixT (dVar 0) (dVar 1)))
 sNx)
 (sRet (dC (.int 0))))
def dn__law_cell_at : List T → R T := dFn 2 b__law_cell_at
theorem eq__law_cell_at (a0 a1 : T) : dn__law_cell_at [a0, a1] = fin (b__law_cell_at [some (a0, false), some (a1, false)]) := rfl
def b__law_numbers_p1 : Lo → Fl := (sWe [6, 7] (sIf (dAnd (dTest (d2 geX (dVar 3) (d2 powT (dC (.int 10)) (dC (.int 18))))) (dTest (d2 gtT (dVar 4) (dC (.int 0)))))
 (sSeq (sApp 5 (d2 modT (dVar 4) (d2 ixT (dVar 2) (dVar 6))))
 (sSet 4 (d2 divT (dVar 4) (d2 ixT (dVar 2) (dVar 6)))))
 (sSeq (sSet 7 (d2 modT (d2 powT (d2 addT (d2 addT (d2 modT (dVar 3) (dC (.int 2147483629))) (d2 mulT (dC (.int 7919)) (dVar 1))) (dC (.int 1))) (dC (.int 3))) (dC (.int 2147483647))))
 (sSeq (sSet 7 (d2 modT (d2 mulT (d2 addT (dVar 7) (d2 mulT (dC (.int 104729)) (d2 addT (dVar 6) (dC (.int 1))))) (d2 addT (dVar 6) (dC (.int 3)))) (dC (.int 2147483629))))
 (sSeq (sSet 7 (d2 modT (d2 mulT (d2 modT (d2 powT (dVar 7) (dC (.int 5))) (dC (.int 2147483647))) (dC (.int 48271))) (dC (.int 2147483629))))
 (sApp 5 (d2 modT (d2 divT (dVar 7) (dC (.int 16))) (d2 ixT (dVar 2) (dVar 6)))))))))
def b__law_numbers : Lo → Fl := (sSeq (sSet 3 (dBlt maxL (dCons (dVar 0) (dCons (d2 subT (d1 negT (dC (.int 1))) (dVar 0)) dNil))))
 (sSeq (sSet 4 (dVar 3))
 (sSeq (sSetF 5 (dList dNil))
 (sSeq (sWp [6, 7] (sFor (dRng1 (dBlt lenL (dCons (dVar 2) dNil))) (gNm 6) b__law_numbers_p1))
 (sRetO true 5)))))
def dn__law_numbers : List T → R T := dFn 8 b__law_numbers
theorem eq__law_numbers (a0 a1 a2 : T) : dn__law_numbers [a0, a1, a2] = fin (b__law_numbers [some (a0, false), some (a1, false), some (a2, false), none, none, none, none, none]) := rfl
def b_is_day : Lo → Fl := (sSeq (sIf (dOr (dNot (dTest (dBlt (isiL "tuple") (dCons (dVar 0) dNil)))) (dTest (d2 neT (dBlt lenL (dCons (dVar 0) dNil)) (dC (.int 4)))))
 (sRet (dC (.bl false)))
 sNx)
 (sRet (dAndV (dBlt allL (dCons (dComp [1] (dIter (dSlice (dVar 0) dPn (dPs (dC (.int 3))))) (gNm 1) dYes (dCall dn_is_number (dCons (dVar 1) dNil))) dNil)) (dOrV (d1 isNonT (d2 ixT (dVar 0) (dC (.int 3)))) (dCall dn_is_number (dCons (d2 ixT (dVar 0) (dC (.int 3))) dNil))))))
def dn_is_day : List T → R T := dFn 2 b_is_day
theorem eq_is_day (a0 : T) : dn_is_day [a0] = fin (b_is_day [some (a0, false), none]) := rfl
def b_are_lights : Lo → Fl := (sRet (dAndV (dBlt (isiL "list") (dCons (dVar 0) dNil)) (dAndV (dChain leT leT (dC (.int 1)) (dBlt lenL (dCons (dVar 0) dNil)) (dC (.int 40))) (dBlt allL (dCons (dComp [1] (dIter (dVar 0)) (gNm 1) dYes (dCall dn_is_number (dCons (dVar 1) dNil))) dNil)))))
def dn_are_lights : List T → R T := dFn 2 b_are_lights
theorem eq_are_lights (a0 : T) : dn_are_lights [a0] = fin (b_are_lights [some (a0, false), none]) := rfl
def b_is_frame : Lo → Fl := (sSeq (sIf (dOr (dNot (dTest (dBlt (isiL "tuple") (dCons (dVar 0) dNil)))) (dOr (dTest (d2 neT (dBlt lenL (dCons (dVar 0) dNil)) (dC (.int 3)))) (dNot (dTest (dCall dn_are_lights (dCons (d2 ixT (dVar 0) (dC (.int 0))) dNil))))))
 (sRet (dC (.bl false)))
 sNx)
 (sSeq (sIf (dAnd (dTest (d1 notNonT (d2 ixT (dVar 0) (dC (.int 1))))) (dNot (dTest (dCall dn_is_within (dCons (d2 ixT (dVar 0) (dC (.int 1))) (dCons (dC (.int 1)) (dCons (dC (.int 1000000000)) dNil)))))))
 (sRet (dC (.bl false)))
 sNx)
 (sRet (dAndV (dBlt (isiL "list") (dCons (d2 ixT (dVar 0) (dC (.int 2))) dNil)) (dChain leT leT (dC (.int 1)) (dBlt lenL (dCons (d2 ixT (dVar 0) (dC (.int 2))) dNil)) (dC (.int 2)))))))
def dn_is_frame : List T → R T := dFn 1 b_is_frame
theorem eq_is_frame (a0 : T) : dn_is_frame [a0] = fin (b_is_frame [some (a0, false)]) := rfl
def b_look_at_good_p1 : Lo → Fl := (sWe [3, 4] (sIf (dNot (dTest (dCall dn_is_day (dCons (dVar 4) dNil))))
 (sRaiseF "NoBakery" ["good", "day"] (dCons (dVar 0) (dCons (dVar 3) dNil)))
 sNx))
def b_look_at_good : Lo → Fl := (sSeq (sIf (dOr (dNot (dTest (dBlt (isiL "tuple") (dCons (dVar 1) dNil)))) (dOr (dTest (d2 neT (dBlt lenL (dCons (dVar 1) dNil)) (dC (.int 2)))) (dOr (dNot (dTest (dBlt (isiL "list") (dCons (d2 ixT (dVar 1) (dC (.int 0))) dNil)))) (dTest (d2 neT (dBlt lenL (dCons (d2 ixT (dVar 1) (dC (.int 0))) dNil)) (dVar 2))))))
 (sRaiseF "NoBakery" ["good", "day"] (dCons (dVar 0) (dCons (dC .non) dNil)))
 sNx)
 (sSeq (sIf (dAnd (dTest (d1 notNonT (d2 ixT (dVar 1) (dC (.int 1))))) (dNot (dTest (dCall dn_is_within (dCons (d2 ixT (dVar 1) (dC (.int 1))) (dCons (dC (.int 0)) (dCons (dC (.int 40)) dNil)))))))
 (sRaiseF "NoBakery" ["good", "day"] (dCons (dVar 0) (dCons (dC .non) dNil)))
 sNx)
 (sWp [3, 4] (sFor (dEnum (d2 ixT (dVar 1) (dC (.int 0)))) (gTp 2 (gCons (gNm 3) (gCons (gNm 4) gNil))) b_look_at_good_p1))))
def dn_look_at_good : List T → R T := dFn 5 b_look_at_good
theorem eq_look_at_good (a0 a1 a2 : T) : dn_look_at_good [a0, a1, a2] = fin (b_look_at_good [some (a0, false), some (a1, false), some (a2, false), none, none]) := rfl
def b_look_at_bakery_p1 : Lo → Fl := (sWe [1, 2] (sEx (dCall dn_look_at_good (dCons (dVar 1) (dCons (dVar 2) (dCons (dBlt lenL (dCons (d2 ixT (dVar 0) (dC (.int 0))) dNil)) dNil))))))
def b_look_at_bakery : Lo → Fl := (sSeq (sIf (dNot (dTest (dCall dn_is_frame (dCons (dVar 0) dNil))))
 (sRaiseF "NoBakery" ["good", "day"] (dCons (dC .non) (dCons (dC .non) dNil)))
 sNx)
 (sWp [1, 2] (sFor (dEnum (d2 ixT (dVar 0) (dC (.int 2)))) (gTp 2 (gCons (gNm 1) (gCons (gNm 2) gNil))) b_look_at_bakery_p1)))
def dn_look_at_bakery : List T → R T := dFn 3 b_look_at_bakery
theorem eq_look_at_bakery (a0 : T) : dn_look_at_bakery [a0] = fin (b_look_at_bakery [some (a0, false), none, none]) := rfl
def b_is_plain_one : Lo → Fl := (sRet (dAndV (d1 isNonT (d2 ixT (dVar 0) (dC (.int 1)))) (d2 eqT (dBlt lenL (dCons (d2 ixT (dVar 0) (dC (.int 2))) dNil)) (dC (.int 1)))))
def dn_is_plain_one : List T → R T := dFn 1 b_is_plain_one
theorem eq_is_plain_one (a0 : T) : dn_is_plain_one [a0] = fin (b_is_plain_one [some (a0, false)]) := rfl
def b_is_plain : Lo → Fl := (sSeq (sEx (dCall dn_look_at_bakery (dCons (dVar 0) dNil)))
 (sRet (dCall dn_is_plain_one (dCons (dVar 0) dNil))))
def dn_is_plain : List T → R T := dFn 1 b_is_plain
theorem eq_is_plain (a0 : T) : dn_is_plain [a0] = fin (b_is_plain [some (a0, false)]) := rfl
def b_nights_ahead : Lo → Fl := (sSeq (sIf (dAnd (dTest (d1 notNonT (dVar 1))) (dTest (d2 gtT (d2 subT (dVar 3) (dVar 2)) (dVar 1))))
 (sRet (dC .non))
 sNx)
 (sRet (dBlt sumL (dCons (dComp [4, 5, 6, 7] (dIter (dSlice (dVar 0) (dPs (dVar 2)) (dPs (dVar 3)))) (gTp 4 (gCons (gNm 4) (gCons (gNm 5) (gCons (gNm 6) (gCons (gNm 7) gNil))))) dYes (dVar 6)) dNil))))
def dn_nights_ahead : List T → R T := dFn 8 b_nights_ahead
theorem eq_nights_ahead (a0 a1 a2 a3 : T) : dn_nights_ahead [a0, a1, a2, a3] = fin (b_nights_ahead [some (a0, false), some (a1, false), some (a2, false), some (a3, false), none, none, none, none]) := rfl
def b_nights_behind : Lo → Fl := (sSeq (sFz 3 (sSetF 3 (dComp [4, 5, 6, 7] (dIter (dSlice (dVar 0) (dPs (dVar 2)) (dPs (dVar 1)))) (gTp 4 (gCons (gNm 4) (gCons (gNm 5) (gCons (gNm 6) (gCons (gNm 7) gNil))))) dYes (dVar 7))))
 (sSeq (sIf (dTest (d2 inT (dC .non) (dVar 3)))
 (sRet (dC .non))
 sNx)
 (sRet (dBlt sumL (dCons (dVar 3) dNil)))))
def dn_nights_behind : List T → R T := dFn 8 b_nights_behind
theorem eq_nights_behind (a0 a1 a2 : T) : dn_nights_behind [a0, a1, a2] = fin (b_nights_behind [some (a0, false), some (a1, false), some (a2, false), none, none, none, none, none]) := rfl
def b_price_of : Lo → Fl := (sSeq (sAsg (gTp 2 (gCons (gNm 3) (gCons (gNm 4) gNil))) (dVar 0))
 (sSeq (sIf (dTest (d2 leT (dVar 1) (dVar 2)))
 (sSet 5 (dCall dn_nights_ahead (dCons (dVar 3) (dCons (dVar 4) (dCons (dVar 1) (dCons (dVar 2) dNil))))))
 (sSet 5 (dCall dn_nights_behind (dCons (dVar 3) (dCons (dVar 1) (dCons (dVar 2) dNil))))))
 (sSeq (sIf (dTest (d1 isNonT (dVar 5)))
 (sRet (dC .non))
 sNx)
 (sRet (d2 addT (d2 ixT (d2 ixT (dVar 3) (dVar 1)) (dC (.int 1))) (dVar 5))))))
def dn_price_of : List T → R T := dFn 6 b_price_of
theorem eq_price_of (a0 a1 a2 : T) : dn_price_of [a0, a1, a2] = fin (b_price_of [some (a0, false), some (a1, false), some (a2, false), none, none, none]) := rfl
def b__law_price : Lo → Fl := (sSeq (sAsg (gTp 2 (gCons (gNm 3) (gCons (gNm 4) gNil))) (dVar 0))
 (sSeq (sIf (dTest (d2 gtT (dVar 1) (dVar 2)))
 (sSeq (sFz 5 (sSetF 5 (dComp [6] (dIter (dSlice (dVar 3) (dPs (dVar 2)) (dPs (dVar 1)))) (gNm 6) dYes (d2 ixT (dVar 6) (dC (.int 3))))))
 (sRet (dIf (dTest (d2 inT (dC .non) (dVar 5))) (dC .non) (d2 addT (d2 ixT (d2 ixT (dVar 3) (dVar 1)) (dC (.int 1))) (dBlt sumL (dCons (dVar 5) dNil))))))
 sNx)
 (sSeq (sIf (dAnd (dTest (d1 notNonT (dVar 4))) (dTest (d2 gtT (d2 subT (dVar 2) (dVar 1)) (dVar 4))))
 (sRet (dC .non))
 sNx)
 (sRet (d2 addT (d2 ixT (d2 ixT (dVar 3) (dVar 1)) (dC (.int 1))) (dBlt sumL (dCons (dComp [6] (dIter (dSlice (dVar 3) (dPs (dVar 1)) (dPs (dVar 2)))) (gNm 6) dYes (d2 ixT (dVar 6) (dC (.int 2)))) dNil)))))))
def dn__law_price : List T → R T := dFn 7 b__law_price
theorem eq__law_price (a0 a1 a2 : T) : dn__law_price [a0, a1, a2] = fin (b__law_price [some (a0, false), some (a1, false), some (a2, false), none, none, none, none]) := rfl
def b_look_at_plain : Lo → Fl := (sIf (dNot (dTest (dCall dn_is_plain (dCons (dVar 0) dNil))))
 (sRaise0 "NotPlain")
 sNx)
def dn_look_at_plain : List T → R T := dFn 1 b_look_at_plain
theorem eq_look_at_plain (a0 : T) : dn_look_at_plain [a0] = fin (b_look_at_plain [some (a0, false)]) := rfl
def b__law_day_2 : Lo → Fl := (sSeq (sAsg (gTp 7 (gCons (gNm 2) (gCons (gNm 3) (gCons (gNm 4) (gCons (gNm 5) (gCons (gNm 6) (gCons (gNm 7) (gCons (gNm 8) gNil)))))))) (dVar 0))
 (sRet (dTup (dCons (dVar 6) (dCons (dTup (dCons (d2 mulT (dVar 2) (dBlt intL (dCons (d2 gtT (dVar 7) (dC (.int 0))) dNil))) (dCons (dVar 3) (dCons (dVar 4) (dCons (d2 ixT (dList (dCons (dC .non) (dCons (dVar 5) dNil))) (dBlt intL (dCons (dAndV (dVar 1) (d2 gtT (dVar 8) (dC (.int 1)))) dNil))) dNil))))) dNil)))))
def dn__law_day_2 : List T → R T := dFn 9 b__law_day_2
theorem eq__law_day_2 (a0 a1 : T) : dn__law_day_2 [a0, a1] = fin (b__law_day_2 [some (a0, false), some (a1, false), none, none, none, none, none, none, none]) := rfl
def b__law_bakery_2_p1 : Lo → Fl := (sWe [7, 8, 9] (sSeq (sAsg (gTp 2 (gCons (gNm 8) (gCons (gNm 9) gNil))) (dCall dn__law_day_2 (dCons (dCall dn__law_numbers (dCons (dCall dn__law_cell_at (dCons (dVar 0) (dCons (dVar 7) dNil))) (dCons (d2 addT (dVar 2) (dVar 7)) (dCons (dVar 4) dNil)))) (dCons (d2 eqT (d2 ixT (dVar 3) (dC (.int 2))) (dC (.int 1))) dNil))))
 (sSeq (sApp 5 (dVar 8))
 (sApp 6 (dVar 9)))))
def b__law_bakery_2 : Lo → Fl := (sSeq (sSet 3 (dCall dn__law_numbers (dCons (dCall dn__law_cell_at (dCons (dVar 0) (dCons (dC (.int 0)) dNil))) (dCons (dVar 2) (dCons (dList (dCons (dC (.int 3)) (dCons (dC (.int 12)) (dCons (dC (.int 2)) dNil)))) dNil)))))
 (sSeq (sSet 4 (d2 addT (d2 ixT (dList (dCons (dList (dCons (dC (.int 5)) (dCons (dC (.int 6)) (dCons (dC (.int 4)) (dCons (dC (.int 4)) (dCons (dC (.int 13)) dNil)))))) (dCons (d2 mulT (dList (dCons (d2 addT (d2 powT (dC (.int 10)) (dC (.int 9))) (dC (.int 1))) dNil)) (dC (.int 5))) dNil))) (dBlt intL (dCons (d2 eqT (d2 ixT (dVar 3) (dC (.int 0))) (dC (.int 0))) dNil))) (dList (dCons (dC (.int 4)) (dCons (dC (.int 5)) dNil)))))
 (sSeq (sSetF 5 (dList dNil))
 (sSeq (sSetF 6 (dList dNil))
 (sSeq (sWp [7, 8, 9] (sFor (dRng2 (dCons (dC (.int 1)) (dCons (dBlt maxL (dCons (dC (.int 2)) (dCons (dBlt minL (dCons (dVar 1) (dCons (dBlt lenL (dCons (dVar 0) dNil)) dNil))) dNil))) dNil))) (gNm 7) b__law_bakery_2_p1))
 (sRel 5 (sRel 6 (sRet (dTup (dCons (dVar 5) (dCons (dC .non) (dCons (dList (dCons (dTup (dCons (dVar 6) (dCons (d2 ixT (dList (dCons (dC .non) (dCons (dC .non) (dCons (dC (.int 0)) (dCons (dC (.int 1)) (dCons (dC (.int 2)) (dCons (dC (.int 3)) (dCons (dC (.int 4)) (dCons (dC (.int 5)) (dCons (dC (.int 7)) (dCons (dC (.int 11)) (dCons (dC (.int 23)) (dCons (dC (.int 40)) dNil))))))))))))) (d2 ixT (dVar 3) (dC (.int 1)))) dNil))) dNil)) dNil))))))))))))
def dn__law_bakery_2 : List T → R T := dFn 10 b__law_bakery_2
theorem eq__law_bakery_2 (a0 a1 a2 : T) : dn__law_bakery_2 [a0, a1, a2] = fin (b__law_bakery_2 [some (a0, false), some (a1, false), some (a2, false), none, none, none, none, none, none, none]) := rfl
def b_is_dough_day : Lo → Fl := (sRet (dAndV (dBlt (isiL "tuple") (dCons (dVar 0) dNil)) (dAndV (d2 eqT (dBlt lenL (dCons (dVar 0) dNil)) (dC (.int 3))) (dBlt allL (dCons (dComp [1] (dIter (dVar 0)) (gNm 1) dYes (dCall dn_is_number (dCons (dVar 1) dNil))) dNil)))))
def dn_is_dough_day : List T → R T := dFn 2 b_is_dough_day
theorem eq_is_dough_day (a0 : T) : dn_is_dough_day [a0] = fin (b_is_dough_day [some (a0, false), none]) := rfl
def b_look_at_dough_list_p1 : Lo → Fl := (sWe [2, 3] (sIf (dNot (dTest (dCall dn_is_dough_day (dCons (dVar 3) dNil))))
 (sRaiseF "NoDoughs" ["day"] (dCons (dVar 2) dNil))
 sNx))
def b_look_at_dough_list : Lo → Fl := (sSeq (sIf (dOr (dNot (dTest (dBlt (isiL "list") (dCons (dVar 1) dNil)))) (dTest (d2 neT (dBlt lenL (dCons (dVar 1) dNil)) (dBlt lenL (dCons (d2 ixT (dVar 0) (dC (.int 0))) dNil)))))
 (sRaiseF "NoDoughs" ["day"] (dCons (dC .non) dNil))
 sNx)
 (sWp [2, 3] (sFor (dEnum (dVar 1)) (gTp 2 (gCons (gNm 2) (gCons (gNm 3) gNil))) b_look_at_dough_list_p1)))
def dn_look_at_dough_list : List T → R T := dFn 4 b_look_at_dough_list
theorem eq_look_at_dough_list (a0 a1 : T) : dn_look_at_dough_list [a0, a1] = fin (b_look_at_dough_list [some (a0, false), some (a1, false), none, none]) := rfl
def b_look_at_doughs : Lo → Fl := (sSeq (sEx (dCall dn_look_at_plain (dCons (dVar 0) dNil)))
 (sEx (dCall dn_look_at_dough_list (dCons (dVar 0) (dCons (dVar 1) dNil)))))
def dn_look_at_doughs : List T → R T := dFn 2 b_look_at_doughs
theorem eq_look_at_doughs (a0 a1 : T) : dn_look_at_doughs [a0, a1] = fin (b_look_at_doughs [some (a0, false), some (a1, false)]) := rfl
def b_is_batch : Lo → Fl := (sSeq (sIf (dOr (dNot (dTest (dBlt (isiL "tuple") (dCons (dVar 1) dNil)))) (dOr (dTest (d2 neT (dBlt lenL (dCons (dVar 1) dNil)) (dC (.int 4)))) (dOr (dNot (dTest (dCall dn_is_whole (dCons (d2 ixT (dVar 1) (dC (.int 3))) dNil)))) (dTest (d2 ltT (d2 ixT (dVar 1) (dC (.int 3))) (dC (.int 1)))))))
 (sRet (dC (.bl false)))
 sNx)
 (sSeq (sSet 2 (d2 subT (dBlt lenL (dCons (d2 ixT (dVar 0) (dC (.int 0))) dNil)) (dC (.int 1))))
 (sRet (dAndV (dBlt allL (dCons (dComp [3] (dIter (dSlice (dVar 1) dPn (dPs (dC (.int 3))))) (gNm 3) dYes (dCall dn_is_within (dCons (dVar 3) (dCons (dC (.int 0)) (dCons (dVar 2) dNil))))) dNil)) (d2 leT (d2 ixT (dVar 1) (dC (.int 0))) (d2 ixT (dVar 1) (dC (.int 1))))))))
def dn_is_batch : List T → R T := dFn 4 b_is_batch
theorem eq_is_batch (a0 a1 : T) : dn_is_batch [a0, a1] = fin (b_is_batch [some (a0, false), some (a1, false), none, none]) := rfl
def b_are_batches_p1 : Lo → Fl := (sWe [2] (sIf (dTest (d2 geX (dSlice (d2 ixT (dVar 1) (d2 subT (dVar 2) (dC (.int 1)))) dPn (dPs (dC (.int 3)))) (dSlice (d2 ixT (dVar 1) (dVar 2)) dPn (dPs (dC (.int 3))))))
 (sRet (dC (.bl false)))
 sNx))
def b_are_batches : Lo → Fl := (sSeq (sIf (dOr (dNot (dTest (dBlt (isiL "list") (dCons (dVar 1) dNil)))) (dNot (dTest (dBlt allL (dCons (dComp [7] (dIter (dVar 1)) (gNm 7) dYes (dCall dn_is_batch (dCons (dVar 0) (dCons (dVar 7) dNil)))) dNil)))))
 (sRet (dC (.bl false)))
 sNx)
 (sSeq (sWp [2] (sFor (dRng2 (dCons (dC (.int 1)) (dCons (dBlt lenL (dCons (dVar 1) dNil)) dNil))) (gNm 2) b_are_batches_p1))
 (sRet (d2 ninT (dC .non) (dComp [3, 4, 5, 6] (dIter (dVar 1)) (gTp 4 (gCons (gNm 3) (gCons (gNm 4) (gCons (gNm 5) (gCons (gNm 6) gNil))))) dYes (dCall dn_price_of (dCons (d2 ixT (d2 ixT (dVar 0) (dC (.int 2))) (dC (.int 0))) (dCons (dVar 4) (dCons (dVar 5) dNil)))))))))
def dn_are_batches : List T → R T := dFn 8 b_are_batches
theorem eq_are_batches (a0 a1 : T) : dn_are_batches [a0, a1] = fin (b_are_batches [some (a0, false), some (a1, false), none, none, none, none, none, none]) := rfl
def b_fits_doughs_p1 : Lo → Fl := (sWe [3, 4] (sIf (dTest (d2 neT (dBlt sumL (dCons (dComp [5, 6, 7, 8] (dIter (dVar 2)) (gTp 4 (gCons (gNm 5) (gCons (gNm 6) (gCons (gNm 7) (gCons (gNm 8) gNil))))) (dTest (d2 eqT (dVar 7) (dVar 3))) (dVar 8)) dNil)) (d2 ixT (dVar 4) (dC (.int 0)))))
 (sRet (dC (.bl false)))
 sNx))
def b_fits_doughs : Lo → Fl := (sSeq (sEx (dCall dn_look_at_doughs (dCons (dVar 0) (dCons (dVar 1) dNil))))
 (sSeq (sIf (dNot (dTest (dCall dn_are_batches (dCons (dVar 0) (dCons (dVar 2) dNil)))))
 (sRet (dC (.bl false)))
 sNx)
 (sSeq (sWp [3, 4] (sFor (dEnum (d2 ixT (d2 ixT (d2 ixT (dVar 0) (dC (.int 2))) (dC (.int 0))) (dC (.int 0)))) (gTp 2 (gCons (gNm 3) (gCons (gNm 4) gNil))) b_fits_doughs_p1))
 (sRet (dC (.bl true))))))
def dn_fits_doughs : List T → R T := dFn 9 b_fits_doughs
theorem eq_fits_doughs (a0 a1 a2 : T) : dn_fits_doughs [a0, a1, a2] = fin (b_fits_doughs [some (a0, false), some (a1, false), some (a2, false), none, none, none, none, none, none]) := rfl
def b__law_later_2 : Lo → Fl := (sRet (d2 divT (dVar 0) (d2 ixT (dList (dCons (dC (.int 1)) (dCons (d2 powT (dC (.int 10)) (dC (.int 45))) dNil))) (dBlt intL (dCons (d2 geX (dVar 0) (d2 powT (dC (.int 10)) (dC (.int 63)))) dNil)))))
def dn__law_later_2 : List T → R T := dFn 1 b__law_later_2
theorem eq__law_later_2 (a0 : T) : dn__law_later_2 [a0] = fin (b__law_later_2 [some (a0, false)]) := rfl
def b__law_doughs_p1 : Lo → Fl := (sWe [5, 6, 7] (sSeq (sSet 6 (dCall dn__law_later_2 (dCons (dCall dn__law_cell_at (dCons (dVar 0) (dCons (d2 addT (dC (.int 1)) (dVar 5)) dNil))) dNil)))
 (sSeq (sSet 7 (dCall dn__law_numbers (dCons (dVar 6) (dCons (d2 addT (d2 addT (dVar 2) (dC (.int 40))) (dVar 5)) (dCons (d2 ixT (dList (dCons (dList (dCons (dC (.int 13)) (dCons (dC (.int 5)) (dCons (dC (.int 4)) dNil)))) (dCons (d2 mulT (dList (dCons (d2 addT (d2 powT (dC (.int 10)) (dC (.int 9))) (dC (.int 1))) dNil)) (dC (.int 3))) dNil))) (dBlt intL (dCons (dVar 3) dNil))) dNil)))))
 (sApp 4 (dBlt tupleL (dCons (dVar 7) dNil))))))
def b__law_doughs : Lo → Fl := (sSeq (sSet 3 (d2 eqT (d2 ixT (dCall dn__law_numbers (dCons (dCall dn__law_cell_at (dCons (dVar 0) (dCons (dC (.int 0)) dNil))) (dCons (dVar 2) (dCons (dList (dCons (dC (.int 3)) dNil)) dNil)))) (dC (.int 0))) (dC (.int 0))))
 (sSeq (sSetF 4 (dList dNil))
 (sSeq (sWp [5, 6, 7] (sFor (dRng1 (dVar 1)) (gNm 5) b__law_doughs_p1))
 (sRetO true 4))))
def dn__law_doughs : List T → R T := dFn 8 b__law_doughs
theorem eq__law_doughs (a0 a1 a2 : T) : dn__law_doughs [a0, a1, a2] = fin (b__law_doughs [some (a0, false), some (a1, false), some (a2, false), none, none, none, none, none]) := rfl
def b__law_batches_p1 : Lo → Fl := (sWe [12, 13, 14, 15] (sSeq (sSet 14 (d2 ixT (dVar 10) (d2 modT (d2 ixT (dVar 9) (dVar 12)) (dBlt lenL (dCons (dVar 10) dNil)))))
 (sSeq (sSet 15 (dTup (dCons (d2 modT (d2 ixT (dVar 9) (d2 addT (dVar 12) (dC (.int 1)))) (d2 addT (dVar 14) (dC (.int 1)))) (dCons (dVar 14) (dCons (dVar 6) dNil)))))
 (sIf (dTest (d2 gtT (dVar 13) (dC (.int 0))))
 (sDPutT 3 (dVar 15) (d2 addT (dGet2 (dVarW 3) (dVar 15) (dC (.int 0))) (dVar 13)))
 sNx))))
def b__law_batches_p2 : Lo → Fl := (sWe [6, 7, 8, 9, 10, 11, 12, 13, 14, 15] (sSeq (sSet 8 (dCall dn__law_later_2 (dCons (dCall dn__law_cell_at (dCons (dVar 0) (dCons (d2 addT (dC (.int 1)) (dVar 6)) dNil))) dNil)))
 (sSeq (sSet 9 (dCall dn__law_numbers (dCons (dVar 8) (dCons (d2 addT (dVar 1) (dVar 6)) (dCons (dList (dCons (dC (.int 40)) (dCons (dC (.int 40)) (dCons (dC (.int 40)) (dCons (dC (.int 40)) (dCons (d2 addT (d2 powT (dC (.int 10)) (dC (.int 9))) (dC (.int 1))) dNil)))))) dNil)))))
 (sSeq (sFz 10 (sSetF 10 (dComp [14] (dRng1 (dBlt lenL (dCons (dVar 4) dNil))) (gNm 14) (dTest (d1 notNonT (dCall dn__law_price (dCons (dVar 2) (dCons (dVar 14) (dCons (dVar 6) dNil)))))) (dVar 14))))
 (sSeq (sSet 11 (d2 modT (d2 ixT (dVar 9) (dC (.int 4))) (d2 addT (d2 ixT (dVar 7) (dC (.int 0))) (dC (.int 1)))))
 (sWp [12, 13, 14, 15] (sFor (dIter (dList (dCons (dTup (dCons (dC (.int 0)) (dCons (d2 subT (d2 ixT (dVar 7) (dC (.int 0))) (dVar 11)) dNil))) (dCons (dTup (dCons (dC (.int 2)) (dCons (dVar 11) dNil))) dNil)))) (gTp 2 (gCons (gNm 12) (gCons (gNm 13) gNil))) b__law_batches_p1)))))))
def b__law_batches : Lo → Fl := (sSeq (sAsg (gTp 2 (gCons (gNm 4) (gCons (gNm 5) gNil))) (dVar 2))
 (sSeq (sSetF 3 (dC (.dit [])))
 (sSeq (sWp [6, 7, 8, 9, 10, 11, 12, 13, 14, 15] (sFor (dEnum (dVar 4)) (gTp 2 (gCons (gNm 6) (gCons (gNm 7) gNil))) b__law_batches_p2))
 (sRet (dComp [15] (dIter (dBlt sortedDT1L (dCons (dVarW 3) dNil))) (gNm 15) dYes (d2 addT (dVar 15) (dTup (dCons (d2 dgetT (dVarW 3) (dVar 15)) dNil))))))))
def dn__law_batches : List T → R T := dFn 16 b__law_batches
theorem eq__law_batches (a0 a1 a2 : T) : dn__law_batches [a0, a1, a2] = fin (b__law_batches [some (a0, false), some (a1, false), some (a2, false), none, none, none, none, none, none, none, none, none, none, none, none, none]) := rfl
def b__law_is_batch : Lo → Fl := (sSeq (sIf (dOr (dNot (dTest (dBlt (isiL "tuple") (dCons (dVar 1) dNil)))) (dOr (dTest (d2 neT (dBlt lenL (dCons (dVar 1) dNil)) (dC (.int 4)))) (dNot (dTest (dBlt allL (dCons (dComp [6] (dIter (dVar 1)) (gNm 6) dYes (dCall dn_is_whole (dCons (dVar 6) dNil))) dNil))))))
 (sRet (dC (.bl false)))
 sNx)
 (sSeq (sAsg (gTp 4 (gCons (gNm 2) (gCons (gNm 3) (gCons (gNm 4) (gCons (gNm 5) gNil))))) (dVar 1))
 (sSeq (sIf (dOr (dTest (d2 ltT (dBlt min3L (dCons (dVar 2) (dCons (dVar 3) (dCons (dVar 4) dNil)))) (dC (.int 0)))) (dOr (dTest (d2 geX (dBlt max3L (dCons (dVar 2) (dCons (dVar 3) (dCons (dVar 4) dNil)))) (dBlt lenL (dCons (d2 ixT (dVar 0) (dC (.int 0))) dNil)))) (dOr (dTest (d2 gtT (dVar 2) (dVar 3))) (dTest (d2 ltT (dVar 5) (dC (.int 1)))))))
 (sRet (dC (.bl false)))
 sNx)
 (sRet (d1 notNonT (dCall dn__law_price (dCons (d2 ixT (d2 ixT (dVar 0) (dC (.int 2))) (dC (.int 0))) (dCons (dVar 3) (dCons (dVar 4) dNil)))))))))
def dn__law_is_batch : List T → R T := dFn 7 b__law_is_batch
theorem eq__law_is_batch (a0 a1 : T) : dn__law_is_batch [a0, a1] = fin (b__law_is_batch [some (a0, false), some (a1, false), none, none, none, none, none]) := rfl
def b__law_fits_2_p1 : Lo → Fl := (sWe [4] (sSeq (sIf (dOr (dNot (dTest (dCall dn__law_is_batch (dCons (dVar 0) (dCons (dVar 4) dNil))))) (dTest (d2 leX (dSlice (dVar 4) dPn (dPs (dC (.int 3)))) (dVar 3))))
 (sRet (dC (.bl false)))
 sNx)
 (sSeq (sSet 3 (dSlice (dVar 4) dPn (dPs (dC (.int 3)))))
 (sSetIx 2 (d2 ixT (dVar 4) (dC (.int 2))) (d2 subT (d2 ixT (dVarW 2) (d2 ixT (dVar 4) (dC (.int 2)))) (d2 ixT (dVar 4) (dC (.int 3))))))))
def b__law_fits_2 : Lo → Fl := (sSeq (sIf (dNot (dTest (dBlt (isiL "list") (dCons (dVar 1) dNil))))
 (sRet (dC (.bl false)))
 sNx)
 (sSeq (sSetF 2 (dComp [5] (dIter (d2 ixT (d2 ixT (d2 ixT (dVar 0) (dC (.int 2))) (dC (.int 0))) (dC (.int 0)))) (gNm 5) dYes (d2 ixT (dVar 5) (dC (.int 0)))))
 (sSeq (sSet 3 (dTup (dCons (d1 negT (dC (.int 1))) (dCons (dC (.int 0)) (dCons (dC (.int 0)) dNil)))))
 (sSeq (sWp [4] (sFor (dIter (dVar 1)) (gNm 4) b__law_fits_2_p1))
 (sRet (d2 eqT (dVarW 2) (d2 mulT (dList (dCons (dC (.int 0)) dNil)) (dBlt lenL (dCons (dVarW 2) dNil)))))))))
def dn__law_fits_2 : List T → R T := dFn 6 b__law_fits_2
theorem eq__law_fits_2 (a0 a1 : T) : dn__law_fits_2 [a0, a1] = fin (b__law_fits_2 [some (a0, false), some (a1, false), none, none, none, none]) := rfl
end Pg
set_option maxHeartbeats 4000000
namespace K61
open PySem PySem.Spec PyProof.Rows L2 DL Pg
def b__law_bent_batch : Lo → Fl := (sSeq (sAsg (gTp 4 (gCons (gNm 4) (gCons (gNm 5) (gCons (gNm 6) (gCons (gNm 7) gNil))))) (dVar 0))
 (sSeq (sSet 2 (d2 subT (d2 modT (d2 ixT (dVar 1) (dC (.int 2))) (dC (.int 8))) (dC (.int 1))))
 (sSeq (sSet 3 (dList (dCons (dTup (dCons (dVar 4) (dCons (dVar 5) (dCons (dVar 6) (dCons (d2 addT (dVar 7) (dC (.int 1))) dNil))))) (dCons (dTup (dCons (dVar 4) (dCons (dVar 5) (dCons (dVar 6) (dCons (d2 subT (dVar 7) (dC (.int 1))) dNil))))) (dCons (dTup (dCons (dVar 2) (dCons (dVar 5) (dCons (dVar 6) (dCons (dVar 7) dNil))))) dNil)))))
 (sSeq (sSet 3 (d2 addT (dVar 3) (dList (dCons (dTup (dCons (dVar 4) (dCons (dVar 2) (dCons (dVar 6) (dCons (dVar 7) dNil))))) (dCons (dTup (dCons (dVar 4) (dCons (dVar 5) (dCons (dVar 2) (dCons (dVar 7) dNil))))) (dCons (dTup (dCons (d2 addT (dVar 5) (dC (.int 1))) (dCons (dVar 5) (dCons (dVar 6) (dCons (dVar 7) dNil))))) dNil))))))
 (sSeq (sSet 3 (d2 addT (dVar 3) (dList (dCons (dTup (dCons (dVar 4) (dCons (dVar 5) (dCons (dVar 6) (dCons (dC (.bl true)) dNil))))) (dCons (dTup (dCons (d2 eqT (dVar 4) (dC (.int 1))) (dCons (dVar 5) (dCons (dVar 6) (dCons (dVar 7) dNil))))) (dCons (dTup (dCons (dVar 4) (dCons (dVar 5) (dCons (dVar 6) (dCons (d2 subT (dC (.int 0)) (dVar 7)) dNil))))) dNil))))))
 (sSeq (sSet 3 (d2 addT (dVar 3) (dList (dCons (dBlt listL (dCons (dVar 0) dNil)) (dCons (dSlice (dVar 0) dPn (dPs (dC (.int 3)))) (dCons (d2 addT (dVar 0) (dTup (dCons (dC (.int 1)) dNil))) (dCons (dC .non) (dCons (dTup (dCons (dVar 4) (dCons (dVar 5) (dCons (dVar 6) (dCons (dBlt strL (dCons (dVar 7) dNil)) dNil))))) dNil))))))))
 (sSeq (sSet 3 (d2 addT (dVar 3) (dList (dCons (dTup (dCons (dC .non) (dCons (dVar 5) (dCons (dVar 6) (dCons (dVar 7) dNil))))) (dCons (dTup (dCons (dVar 4) (dCons (dVar 5) (dCons (dVar 6) (dCons (dC (.int 0)) dNil))))) (dCons (dTup (dCons (dList (dCons (dVar 4) dNil)) (dCons (dVar 5) (dCons (dVar 6) (dCons (dVar 7) dNil))))) dNil))))))
 (sSeq (sSet 3 (d2 addT (dVar 3) (dList (dCons (dTup (dCons (dVar 4) (dCons (dList (dCons (dVar 5) dNil)) (dCons (dVar 6) (dCons (dVar 7) dNil))))) (dCons (dTup (dCons (dVar 4) (dCons (dVar 5) (dCons (dC (.dic [])) (dCons (dVar 7) dNil))))) (dCons (dTup (dCons (dVar 4) (dCons (d2 eqT (dVar 5) (dC (.int 1))) (dCons (dVar 6) (dCons (dVar 7) dNil))))) dNil))))))
 (sRet (d2 ixT (dVar 3) (d2 ixT (dVar 1) (dC (.int 1)))))))))))))
def dn__law_bent_batch : List T → R T := dFn 8 b__law_bent_batch
theorem eq__law_bent_batch (a0 a1 : T) : dn__law_bent_batch [a0, a1] = fin (b__law_bent_batch [some (a0, false), some (a1, false), none, none, none, none, none, none]) := rfl
def b__law_bent_7 : Lo → Fl := (sSeq (sIf (dTest (d2 eqT (dVar 0) (dList dNil)))
 (sRet (d2 ixT (dList (dCons (dList (dCons (dTup (dCons (dC (.int 0)) (dCons (dC (.int 0)) (dCons (dC (.int 0)) (dCons (dC (.int 1)) dNil))))) dNil)) (dCons (dList (dCons (dC .non) dNil)) (dCons (dList (dCons (dTup dNil) dNil)) (dCons (dTup dNil) (dCons (dList (dCons (dTup (dCons (dC (.int 0)) (dCons (dC (.int 0)) (dCons (dC (.int 0)) (dCons (dC (.int 0)) dNil))))) dNil)) dNil)))))) (d2 modT (d2 ixT (dVar 1) (dC (.int 2))) (dC (.int 5)))))
 sNx)
 (sSeq (sSet 2 (d2 modT (d2 ixT (dVar 1) (dC (.int 3))) (dBlt lenL (dCons (dVar 0) dNil))))
 (sSeq (sIf (dTest (d2 eqT (d2 ixT (dVar 1) (dC (.int 0))) (dC (.int 0))))
 (sRet (d2 addT (dSlice (dVar 0) dPn (dPs (dVar 2))) (dSlice (dVar 0) (dPs (d2 addT (dVar 2) (dC (.int 1)))) dPn)))
 sNx)
 (sSeq (sIf (dTest (d2 eqT (d2 ixT (dVar 1) (dC (.int 0))) (dC (.int 1))))
 (sRet (d2 addT (dSlice (dVar 0) dPn (dPs (d2 addT (dVar 2) (dC (.int 1))))) (dSlice (dVar 0) (dPs (dVar 2)) dPn)))
 sNx)
 (sSeq (sIf (dTest (d2 eqT (d2 ixT (dVar 1) (dC (.int 0))) (dC (.int 2))))
 (sRet (d2 addT (dSlice (dVar 0) (dPs (dVar 2)) dPn) (dSlice (dVar 0) dPn (dPs (dVar 2)))))
 sNx)
 (sSeq (sIf (dTest (d2 eqT (d2 ixT (dVar 1) (dC (.int 0))) (dC (.int 3))))
 (sRet (d2 ixT (dList (dCons (dBlt tupleL (dCons (dVar 0) dNil)) (dCons (d2 addT (dVar 0) (dList (dCons (dC .non) dNil))) (dCons (d1 revT (dVar 0)) (dCons (dDisp1 0 (dVar 0)) dNil))))) (d2 modT (d2 ixT (dVar 1) (dC (.int 2))) (dC (.int 4)))))
 sNx)
 (sSeq (sIf (dTest (d2 eqT (d2 ixT (dVar 1) (dC (.int 0))) (dC (.int 4))))
 (sRet (dBlt sortedNL (dCons (d2 addT (d2 addT (dSlice (dVar 0) dPn (dPs (dVar 2))) (dList (dCons (dCall dn__law_bent_batch (dCons (d2 ixT (dVar 0) (dVar 2)) (dCons (dList (dCons (dC (.int 0)) (dCons (d2 modT (d2 ixT (dVar 1) (dC (.int 1))) (dC (.int 6))) (dCons (d2 ixT (dVar 1) (dC (.int 2))) dNil)))) dNil))) dNil))) (dSlice (dVar 0) (dPs (d2 addT (dVar 2) (dC (.int 1)))) dPn)) dNil)))
 sNx)
 (sSeq (sIf (dAnd (dTest (d2 eqT (d2 ixT (dVar 1) (dC (.int 0))) (dC (.int 5)))) (dTest (d2 gtT (d2 ixT (d2 ixT (dVar 0) (dVar 2)) (dC (.int 3))) (dC (.int 1)))))
 (sRet (d2 addT (d2 addT (dSlice (dVar 0) dPn (dPs (dVar 2))) (dList (dCons (d2 addT (dSlice (d2 ixT (dVar 0) (dVar 2)) dPn (dPs (dC (.int 3)))) (dTup (dCons (dC (.int 1)) dNil))) (dCons (d2 addT (dSlice (d2 ixT (dVar 0) (dVar 2)) dPn (dPs (dC (.int 3)))) (dTup (dCons (d2 subT (d2 ixT (d2 ixT (dVar 0) (dVar 2)) (dC (.int 3))) (dC (.int 1))) dNil))) dNil)))) (dSlice (dVar 0) (dPs (d2 addT (dVar 2) (dC (.int 1)))) dPn)))
 sNx)
 (sRet (d2 addT (d2 addT (dSlice (dVar 0) dPn (dPs (dVar 2))) (dList (dCons (dCall dn__law_bent_batch (dCons (d2 ixT (dVar 0) (dVar 2)) (dCons (dVar 1) dNil))) dNil))) (dSlice (dVar 0) (dPs (d2 addT (dVar 2) (dC (.int 1)))) dPn)))))))))))
def dn__law_bent_7 : List T → R T := dFn 3 b__law_bent_7
theorem eq__law_bent_7 (a0 a1 : T) : dn__law_bent_7 [a0, a1] = fin (b__law_bent_7 [some (a0, false), some (a1, false), none]) := rfl
def b__law_right_14 : Lo → Fl := (sSeq (sSet 3 (dBlt reprL (dCons (dList (dCons (dVar 0) (dCons (dVar 1) (dCons (dVar 2) dNil)))) dNil)))
 (sSeq (sSet 4 (dCall dn_fits_doughs (dCons (dVar 0) (dCons (dVar 1) (dCons (dVar 2) dNil)))))
 (sRet (dAndV (dBlt (isiL "bool") (dCons (dVar 4) dNil)) (dAndV (d2 eqT (dVar 4) (dCall dn__law_fits_2 (dCons (dVar 0) (dCons (dVar 2) dNil)))) (d2 eqT (dBlt reprL (dCons (dList (dCons (dVar 0) (dCons (dVar 1) (dCons (dVar 2) dNil)))) dNil)) (dVar 3)))))))
def dn__law_right_14 : List T → R T := dFn 5 b__law_right_14
theorem eq__law_right_14 (a0 a1 a2 : T) : dn__law_right_14 [a0, a1, a2] = fin (b__law_right_14 [some (a0, false), some (a1, false), some (a2, false), none, none]) := rfl
def b_law_k61_p1 : Lo → Fl := (sWe [5] (sIf (dNot (dTest (dCall dn__law_right_14 (dCons (dVar 2) (dCons (dVar 3) (dCons (dVar 5) dNil))))))
 (sRet (dC (.bl false)))
 sNx))
def b_law_k61_p2 : Lo → Fl := (sWe [6, 7, 8] (sSeq (sSet 8 (dCall dn__law_numbers (dCons (dVar 7) (dCons (d2 addT (dC (.int 6130)) (dVar 6)) (dCons (dList (dCons (dC (.int 9)) (dCons (dC (.int 20)) (dCons (d2 powT (dC (.int 10)) (dC (.int 9))) (dCons (dC (.int 97)) dNil))))) dNil)))))
 (sIf (dNot (dTest (dCall dn__law_right_14 (dCons (dVar 2) (dCons (dVar 3) (dCons (dCall dn__law_bent_7 (dCons (dVar 4) (dCons (dVar 8) dNil))) dNil))))))
 (sRet (dC (.bl false)))
 sNx)))
def b_law_k61 : Lo → Fl := (sSeq (sSet 1 (d2 eqT (d2 ixT (dCall dn__law_numbers (dCons (dCall dn__law_cell_at (dCons (dVar 0) (dCons (dC (.int 0)) dNil))) (dCons (dC (.int 6105)) (dCons (dList (dCons (dC (.int 4)) dNil)) dNil)))) (dC (.int 0))) (dC (.int 0))))
 (sSeq (sSet 2 (dCall dn__law_bakery_2 (dCons (dVar 0) (dCons (d2 ixT (dList (dCons (dC (.int 7)) (dCons (dC (.int 41)) dNil))) (dBlt intL (dCons (dVar 1) dNil))) (dCons (dC (.int 6100)) dNil)))))
 (sSeq (sSet 3 (dCall dn__law_doughs (dCons (dVar 0) (dCons (dBlt lenL (dCons (d2 ixT (dVar 2) (dC (.int 0))) dNil)) (dCons (dC (.int 6110)) dNil)))))
 (sSeq (sSet 4 (dCall dn__law_batches (dCons (dVar 0) (dCons (dC (.int 6170)) (dCons (d2 ixT (d2 ixT (dVar 2) (dC (.int 2))) (dC (.int 0))) dNil)))))
 (sSeq (sIf (dOr (dTest (d2 (isBT not) (dCall dn_fits_doughs (dCons (dVar 2) (dCons (dVar 3) (dCons (dVar 4) dNil)))) (dC (.bl true)))) (dNot (dTest (dCall dn__law_right_14 (dCons (dVar 2) (dCons (dVar 3) (dCons (dVar 4) dNil)))))))
 (sRet (dC (.bl false)))
 sNx)
 (sSeq (sWp [6, 7, 8] (sFor (dEnum (d2 addT (dList (dCons (dC (.int 4)) dNil)) (dSlice (dVar 0) (dPs (dC (.int 7))) (dPs (dC (.int 37)))))) (gTp 2 (gCons (gNm 6) (gCons (gNm 7) gNil))) b_law_k61_p2))
 (sSeq (sWp [5] (sFor (dIter (dList (dCons (dC .non) (dCons (dC (.int 5)) (dCons (dC (.str "[]")) (dCons (dTup dNil) (dCons (dC (.dic [])) (dCons (dC (.bl true)) (dCons (dList (dCons (dList dNil) dNil)) (dCons (dList (dCons (dTup (dCons (dC (.str "0")) (dCons (dC (.int 0)) (dCons (dC (.int 0)) (dCons (dC (.int 1)) dNil))))) dNil)) (dCons (dList (dCons (dTup (dCons (dC (.int 0)) (dCons (dC (.int 0)) (dCons (dC (.int 0)) dNil)))) dNil)) dNil))))))))))) (gNm 5) b_law_k61_p1))
 (sRet (d2 (isBT id) (dCall dn_fits_doughs (dCons (dVar 2) (dCons (dVar 3) (dCons (dVar 4) dNil)))) (dC (.bl true)))))))))))
def dn_law_k61 : List T → R T := dFn 9 b_law_k61
theorem eq_law_k61 (a0 : T) : dn_law_k61 [a0] = fin (b_law_k61 [some (a0, false), none, none, none, none, none, none, none, none]) := rfl
end K61
set_option maxHeartbeats 2000000
namespace DL
open PySem PySem.Spec PyProof.Rows L2
theorem log_lt {n k : Nat} (h : n < 2 ^ k) (hk : 0 < k) : n.log2 < k := by
  by_cases e : n = 0
  · subst e; simpa using hk
  · exact (Nat.log2_lt e).mpr h
@[simp] theorem mulT_ok {a b : Int} (h : -(1000000000000000000000000000000000000000000000000000000000000000000000000000000000000000000) < a ∧ a < 1000000000000000000000000000000000000000000000000000000000000000000000000000000000000000000 ∧ -(1000000000000000000000000000000000000000000000000000000000000000000000000000000000000000000) < b ∧ b < 1000000000000000000000000000000000000000000000000000000000000000000000000000000000000000000) : mulT (.int a) (.int b) = some (.int (a * b)) := by
  have h1 : a.natAbs.log2 < 300 := log_lt (Nat.lt_of_lt_of_le (m := 1000000000000000000000000000000000000000000000000000000000000000000000000000000000000000000) (by omega) (by decide +kernel)) (by decide)
  have h2 : b.natAbs.log2 < 300 := log_lt (Nat.lt_of_lt_of_le (m := 1000000000000000000000000000000000000000000000000000000000000000000000000000000000000000000) (by omega) (by decide +kernel)) (by decide)
  rw [mulT_int, if_pos (by omega)]
@[simp] theorem divT_ok {a b : Int} (h : 0 < b ∧ b < 1000000000000000000000000000000000000000000000000000000000000000000000000000000000000000000) : divT (.int a) (.int b) = some (.int (a / b)) := by
  have h2 : b.natAbs.log2 < 300 := log_lt (Nat.lt_of_lt_of_le (m := 1000000000000000000000000000000000000000000000000000000000000000000000000000000000000000000) (by omega) (by decide +kernel)) (by decide)
  rw [divT_int, if_pos ⟨h.1, by omega⟩]
@[simp] theorem modT_ok {a b : Int} (h : 0 < b) : modT (.int a) (.int b) = some (.int (a % b)) := by rw [modT_int, if_pos h]
@[simp] theorem powT_ok {a b : Int} (h : 0 ≤ b ∧ b ≤ 1000000 ∧ -18446744073709551616 < a ∧ a < 18446744073709551616) : powT (.int a) (.int b) = some (.int (a ^ b.toNat)) := by
  rw [powT_int, if_pos ⟨h.1, h.2.1, by omega⟩]
@[simp] theorem rng1_ok {a : Int} (h : -1000000000 ≤ a ∧ a ≤ 1000000000) : rng1 (.int a) = some (rngT a.toNat) := by rw [rng1_int, if_pos (by omega)]
@[simp] theorem rng2_ok {a b : Int} (h : -1000000000 ≤ a ∧ a ≤ 1000000000 ∧ -1000000000 ≤ b ∧ b ≤ 1000000000) : rng2 [.int a, .int b] = some (rngF a (b - a).toNat) := by rw [rng2_int, if_pos (by omega)]
@[simp] theorem mulT_lk {ts : List T} {k : Int} (h : -1000000000 ≤ k ∧ k ≤ 1000000000) (hl : ts.length * k.toNat ≤ 10000) : mulT (.lst ts) (.int k) = some (.lst (List.replicate k.toNat ts).flatten) := by rw [mulT_lst, if_pos ⟨by omega, by omega, Nat.le_trans hl (by decide)⟩]
theorem size_le {n : Nat} (h : n ≤ 100000) : n ≤ sizeLine := Nat.le_trans h (by decide)
theorem size_lt {n : Nat} (h : n ≤ 100000) : n < sizeLine := Nat.lt_of_le_of_lt h (by decide)
@[simp] theorem size_leE {n : Nat} (h : n ≤ 100000) : (n ≤ sizeLine) = True := eq_true (size_le h)
@[simp] theorem size_ltE {n : Nat} (h : n ≤ 100000) : (n < sizeLine) = True := eq_true (size_lt h)
theorem range_at {α : Type} (f : Nat → α) {n i : Nat} (h : i < n) : ((List.range n).map f)[i]? = some (f i) := by
  rw [List.getElem?_map, List.getElem?_range h]; rfl
theorem rngT_eq (n : Nat) : rngT n = (List.range n).map fun (i : Nat) => T.int (i : Int) := rfl
theorem rngF_eq (a : Int) (n : Nat) : rngF a n = (List.range n).map fun (i : Nat) => T.int (a + (i : Int)) := rfl
end DL
namespace Pg
open PySem L2 DL
def rnd (n s : Int) (i : Nat) : Int := (((n % 2147483629 + 7919 * s + 1) ^ 3 % 2147483647 + 104729 * ((i : Int) + 1)) * ((i : Int) + 3) % 2147483629) ^ 5 % 2147483647 * 48271 % 2147483629 / 16
def drawStep (zs : List Int) (n s : Int) (st : Int × List Int) (i : Nat) : Int × List Int :=
  if 1000000000000000000 ≤ n ∧ 0 < st.1 then (st.1 / zs.getD i 1, st.2 ++ [st.1 % zs.getD i 1]) else (st.1, st.2 ++ [rnd n s i % zs.getD i 1])
def cellN (c : Int) : Int := if -1 - c > c then -1 - c else c
def drawn (c s : Int) (zs : List Int) : List Int := ((List.range zs.length).foldl (drawStep zs (cellN c) s) (cellN c, [])).2
theorem drawn_step {c s : Int} {zs : List Int} (hz : ∀ z ∈ zs, 0 < z) : ∀ k, k ≤ zs.length → ∃ left ds, (List.range k).foldl (drawStep zs (cellN c) s) (cellN c, []) = (left, ds) ∧ ds.length = k ∧ ∀ i (h : i < ds.length) (h2 : i < zs.length), 0 ≤ ds[i] ∧ ds[i] < zs[i]
  | 0, _ => ⟨_, _, rfl, rfl, fun i h => by simp at h⟩
  | k + 1, hk => by
    obtain ⟨left, ds, e, hl, hb⟩ := drawn_step (c := c) (s := s) hz k (by omega)
    rw [List.range_succ, List.foldl_append, e]
    have hz' := hz zs[k] (List.getElem_mem (by omega))
    have eg : zs.getD k 1 = zs[k] := by rw [List.getD_eq_getElem?_getD, List.getElem?_eq_getElem (by omega)]; rfl
    have app : ∀ d : Int, 0 ≤ d → d < zs[k] → ∀ i (h : i < (ds ++ [d]).length) (h2 : i < zs.length), 0 ≤ (ds ++ [d])[i] ∧ (ds ++ [d])[i] < zs[i] := fun d d1 d2 i h h2 => by
      by_cases hi : i < ds.length
      · rw [List.getElem_append_left hi]; exact hb i hi h2
      · have : i = k := by simp at h; omega
        subst this
        rw [List.getElem_append_right (by omega)]
        simp [hl]; exact ⟨d1, d2⟩
    show ∃ left' ds', drawStep zs (cellN c) s (left, ds) k = (left', ds') ∧ _
    unfold drawStep
    rw [eg]
    split
    · exact ⟨_, _, rfl, by simp [hl], app _ (Int.emod_nonneg _ (by omega)) (Int.emod_lt_of_pos _ hz')⟩
    · exact ⟨_, _, rfl, by simp [hl], app _ (Int.emod_nonneg _ (by omega)) (Int.emod_lt_of_pos _ hz')⟩
theorem drawn_len {c s : Int} {zs : List Int} (hz : ∀ z ∈ zs, 0 < z) : (drawn c s zs).length = zs.length := by
  obtain ⟨left, ds, e, hl, hb⟩ := drawn_step (c := c) (s := s) hz zs.length (Nat.le_refl _)
  unfold drawn; rw [e]; exact hl
theorem drawn_lt {c s : Int} {zs : List Int} (hz : ∀ z ∈ zs, 0 < z) {i : Nat} (h : i < (drawn c s zs).length) (h2 : i < zs.length) : 0 ≤ (drawn c s zs)[i] ∧ (drawn c s zs)[i] < zs[i] := by
  obtain ⟨left, ds, e, hl, hb⟩ := drawn_step (c := c) (s := s) hz zs.length (Nat.le_refl _)
  have e2 : drawn c s zs = ds := by unfold drawn; rw [e]
  have h' : i < ds.length := by rw [← e2]; exact h
  have := hb i h' h2
  simp only [e2]
  exact this
theorem drawn_at {c s : Int} {zs : List Int} (hz : ∀ z ∈ zs, 0 < z) (i : Nat) (h : i < zs.length) : 0 ≤ (drawn c s zs).getD i 0 ∧ (drawn c s zs).getD i 0 < zs.getD i 0 := by
  have hl := drawn_len (c := c) (s := s) hz
  have := drawn_lt (c := c) (s := s) hz (i := i) (by omega) h
  rw [List.getD_eq_getElem?_getD, List.getD_eq_getElem?_getD, List.getElem?_eq_getElem (by omega), List.getElem?_eq_getElem h]
  exact this
theorem numbers_eq (c s : Int) (zs : List Int) (hs : -1000000 ≤ s ∧ s ≤ 1000000) (hz : ∀ z ∈ zs, 0 < z ∧ z < 1000000000000000000000000000000000000000000000000000000000000000000000000000000000000000000) (hl : zs.length ≤ 1000) :
    dn__law_numbers [.int c, .int s, .lst (zs.map .int)] = .ok (.lst ((drawn c s zs).map .int)) := by
  have hz1 : ∀ z ∈ zs, 0 < z := fun z h => (hz z h).1
  rw [eq__law_numbers]
  unfold b__law_numbers
  simp (disch := omega)
  have e1 : (if c < -1 - c then -1 - c else c) = cellN c := by unfold cellN; rfl
  rw [e1, rngT_eq]
  have F := forL_foldN (g := gNm 6) (body := b__law_numbers_p1) (fun (i : Nat) => T.int (i : Int)) (fun st : Int × List Int => [some (.int c, false), some (.int s, false), some (.lst (zs.map .int), false), some (.int (cellN c), false), some (.int st.1, false), some (.lst (st.2.map .int), true), none, none])
    (drawStep zs (cellN c) s) (fun k st => st.2.length = k) (n := zs.length) (s0 := (cellN c, [])) rfl fun k st hst hk => ?_
  · have F1 := F.1
    simp only [List.map_nil] at F1
    rw [F1]
    simp [drawn]
  · obtain ⟨left, ds⟩ := st
    have hst : ds.length = k := hst
    have hz' := hz zs[k] (List.getElem_mem hk)
    have eg : zs.getD k 1 = zs[k] := by rw [List.getD_eq_getElem?_getD, List.getElem?_eq_getElem (by omega)]; rfl
    have ei : (zs.map T.int)[k]? = some (T.int zs[k]) := by rw [List.getElem?_map, List.getElem?_eq_getElem hk]; rfl
    have hsz : ds.length < sizeLine := size_lt (by omega)
    unfold drawStep b__law_numbers_p1
    rw [eg]
    generalize zs[k] = z at *
    clear hz hz1
    by_cases hc : (1000000000000000000 : Int) ≤ cellN c
    · by_cases hc2 : 0 < left
      · simp (disch := omega) [ei, hc, hc2, hst]
      · simp (disch := omega) [ei, hc, hc2, hst, rnd]
    · simp (disch := omega) [ei, hc, hst, rnd]
end Pg
namespace BK
def oadd : Option Int → Option Int → Option Int
  | some a, some b => some (a + b)
  | _, _ => none
def omin : Option Int → Option Int → Option Int
  | none, b => b
  | a, none => a
  | some a, some b => some (if b < a then b else a)
def Le (a b : Option Int) : Prop := ∀ y, b = some y → ∃ x, a = some x ∧ x ≤ y
theorem Le.refl (a : Option Int) : Le a a := fun y h => ⟨y, h, Int.le_refl _⟩
theorem Le.trans {a b c : Option Int} (h : Le a b) (k : Le b c) : Le a c := fun y e => by
  obtain ⟨x, e1, h1⟩ := k y e
  obtain ⟨z, e2, h2⟩ := h x e1
  exact ⟨z, e2, by omega⟩
theorem Le.nn (a : Option Int) : Le a Option.none := fun y h => by cases h
theorem Le.sm {a b : Int} (h : a ≤ b) : Le (some a) (some b) := fun y e => by cases e; exact ⟨a, rfl, h⟩
def osum (f : Nat → Option Int) (a : Nat) : Nat → Option Int
  | 0 => some 0
  | n + 1 => oadd (osum f a n) (f (a + n))
section
variable (L : Nat → Int) (z : Nat → Bool) (c : Nat → Nat → Option Int)
def Tb (R : Nat → Option Int) (i : Nat) : Nat → Option Int
  | 0 => none
  | j + 1 => oadd (omin (Tb R i j) (R j)) (c i j)
def R0 : Nat → Option Int
  | 0 => some 0
  | j + 1 => if z j = true then R0 j else none
def Rw : Nat → Nat → Option Int
  | 0 => R0 z
  | i + 1 => fun j => omin (Rw i j) (oadd (Tb c (Rw i) i j) (some (L i)))
def mn (S : Nat → Bool) : Nat → Nat → Option Int
  | 0, v => if z v = true then some 0 else none
  | i + 1, v => if S i = true then omin (mn S i v) (c i v) else mn S i v
def lt (S : Nat → Bool) : Nat → Int
  | 0 => 0
  | i + 1 => lt S i + if S i = true then L i else 0
variable {L z c}
end
end BK
namespace BK
structure Day where
  want : Int
  loaf : Int
  keep : Int
  fine : Option Int
structure Good where
  days : List Day
  life : Option Int
instance : Inhabited Day := ⟨⟨0, 0, 0, none⟩⟩
def Day.ok (d : Day) : Prop := 0 ≤ d.want ∧ d.want ≤ 1000000000 ∧ 0 ≤ d.loaf ∧ d.loaf ≤ 1000000000 ∧ 0 ≤ d.keep ∧ d.keep ≤ 1000000000 ∧ ∀ f, d.fine = some f → 0 ≤ f ∧ f ≤ 1000000000
def Good.ok (g : Good) (n : Nat) : Prop := g.days.length = n ∧ (∀ d ∈ g.days, d.ok) ∧ ∀ l, g.life = some l → 0 ≤ l ∧ l ≤ 40
def slice {α : Type} (xs : List α) (a b : Nat) : List α := (xs.drop a).take (b - a)
def osumL (xs : List (Option Int)) : Option Int := if none ∈ xs then none else some (xs.map fun x => x.getD 0).sum
def Good.keeps (g : Good) (b v : Nat) : Int := ((slice g.days b v).map Day.keep).sum
def Good.fines (g : Good) (b v : Nat) : Option Int := osumL ((slice g.days v b).map Day.fine)
def longB (life : Option Int) (x : Int) : Bool := match life with
  | none => false
  | some l => decide (l < x)
def Good.nights (g : Good) (b v : Nat) : Option Int :=
  if b ≤ v then (if longB g.life ((v : Int) - b) = true then none else some (g.keeps b v)) else g.fines b v
def Good.day (g : Good) (i : Nat) : Day := g.days.getD i default
def Good.price (g : Good) (b v : Nat) : Option Int := (g.nights b v).map fun n => (g.day b).loaf + n
def pre (f : Day → Int) (xs : List Day) (i : Nat) : Int := ((xs.take i).map f).sum
def Good.pres (g : Good) (v b : Nat) : Prop := ∀ i d, v ≤ i → i < b → g.days[i]? = some d → d.fine ≠ none
inductive Good.Pr (g : Good) (b v : Nat) : Option Int → Prop
  | ahead (h : b ≤ v) (hl : ∀ l, g.life = some l → (v : Int) - b ≤ l) : Good.Pr g b v (some ((g.day b).loaf + (pre Day.keep g.days v - pre Day.keep g.days b)))
  | old (h : b ≤ v) (l : Int) (hl : g.life = some l) (hx : l < (v : Int) - b) : Good.Pr g b v none
  | late (h : v < b) (hp : g.pres v b) : Good.Pr g b v (some ((g.day b).loaf + (pre (fun d => d.fine.getD 0) g.days b - pre (fun d => d.fine.getD 0) g.days v)))
  | never (h : v < b) (hp : ¬ g.pres v b) : Good.Pr g b v none
end BK
set_option maxHeartbeats 2000000
namespace Pg
open PySem L2 DL
def wholeB : T → Bool
  | .int _ => true
  | _ => false
def withinB (t : T) (a b : Int) : Bool := match t with
  | .int i => decide (a ≤ i) && decide (i ≤ b)
  | _ => false
def kn : T → Bool
  | .non => true
  | .bl _ => true
  | .int _ => true
  | .str _ => true
  | .lst _ => true
  | .tup _ => true
  | .dic _ => true
  | .scr _ => true
  | _ => false
section
variable {i : Int} {o : Bool} {z : Str} {ts : List T} {ns : List Int} {kd : List (Key × T)} {x : Option Int}
@[simp] theorem kn_non : kn .non = true := Eq.trans rfl rfl
@[simp] theorem kn_bl : kn (.bl o) = true := Eq.trans rfl rfl
@[simp] theorem kn_int : kn (.int i) = true := Eq.trans rfl rfl
@[simp] theorem kn_str : kn (.str z) = true := Eq.trans rfl rfl
@[simp] theorem kn_lst : kn (.lst ts) = true := Eq.trans rfl rfl
@[simp] theorem kn_tup : kn (.tup ts) = true := Eq.trans rfl rfl
@[simp] theorem kn_dic : kn (.dic kd) = true := Eq.trans rfl rfl
@[simp] theorem kn_scr : kn (.scr ns) = true := Eq.trans rfl rfl
@[simp] theorem kn_eO : kn (eO x) = true := by cases x <;> rfl
@[simp] theorem whole_int : wholeB (.int i) = true := Eq.trans rfl rfl
@[simp] theorem whole_non : wholeB .non = false := Eq.trans rfl rfl
@[simp] theorem whole_bl : wholeB (.bl o) = false := Eq.trans rfl rfl
@[simp] theorem whole_str : wholeB (.str z) = false := Eq.trans rfl rfl
@[simp] theorem whole_lst : wholeB (.lst ts) = false := Eq.trans rfl rfl
@[simp] theorem whole_tup : wholeB (.tup ts) = false := Eq.trans rfl rfl
@[simp] theorem whole_dic : wholeB (.dic kd) = false := Eq.trans rfl rfl
@[simp] theorem whole_scr : wholeB (.scr ns) = false := Eq.trans rfl rfl
@[simp] theorem within_int {a b : Int} : withinB (.int i) a b = (decide (a ≤ i) && decide (i ≤ b)) := Eq.trans rfl rfl
@[simp] theorem within_non {a b : Int} : withinB .non a b = false := Eq.trans rfl rfl
@[simp] theorem within_bl {a b : Int} : withinB (.bl o) a b = false := Eq.trans rfl rfl
@[simp] theorem within_str {a b : Int} : withinB (.str z) a b = false := Eq.trans rfl rfl
@[simp] theorem within_lst {a b : Int} : withinB (.lst ts) a b = false := Eq.trans rfl rfl
@[simp] theorem within_tup {a b : Int} : withinB (.tup ts) a b = false := Eq.trans rfl rfl
@[simp] theorem within_dic {a b : Int} : withinB (.dic kd) a b = false := Eq.trans rfl rfl
@[simp] theorem within_scr {a b : Int} : withinB (.scr ns) a b = false := Eq.trans rfl rfl
end
theorem is_whole_eq {t : T} (h : kn t = true) : dn_is_whole [t] = .ok (.bl (wholeB t)) := by
  rw [eq_is_whole]; unfold b_is_whole
  cases t <;> first | (simp; done) | exact Bool.noConfusion h
theorem is_within_eq {t : T} (h : kn t = true) (a b : Int) : dn_is_within [t, .int a, .int b] = .ok (.bl (withinB t a b)) := by
  rw [eq_is_within]; unfold b_is_within
  cases t <;> first
    | (simp [is_whole_eq]; done)
    | (rename_i i; by_cases h1 : a ≤ i <;> simp [is_whole_eq, h1]; done)
    | exact Bool.noConfusion h
theorem is_number_eq {t : T} (h : kn t = true) : dn_is_number [t] = .ok (.bl (withinB t 0 1000000000)) := by
  rw [eq_is_number]; unfold b_is_number
  simp [is_within_eq h]
def cel (ns : List Int) (k : Nat) : Int := ns.getD k 0
theorem cell_at_eq (ns : List Int) (k : Nat) : dn__law_cell_at [.scr ns, .int k] = .ok (.int (cel ns k)) := by
  rw [eq__law_cell_at]; unfold b__law_cell_at cel
  by_cases h : k < ns.length
  · have e : ns[k]? = some ns[k] := List.getElem?_eq_getElem h
    have h2 : (k : Int) < ns.length := by omega
    simp [h2, e, h]
  · have h2 : ¬ (k : Int) < ns.length := by omega
    simp [h2, h]
theorem cell_at_eqL (ns : List Int) (k : Nat) : dn__law_cell_at [.lst (ns.map .int), .int k] = .ok (.int (cel ns k)) := by
  rw [eq__law_cell_at]; unfold b__law_cell_at cel
  by_cases h : k < ns.length
  · have e : ns[k]? = some ns[k] := List.getElem?_eq_getElem h
    have h2 : (k : Int) < ns.length := by omega
    simp [h2, e, h]
  · have h2 : ¬ (k : Int) < ns.length := by omega
    simp [h2, h]
end Pg
set_option maxHeartbeats 2000000
namespace BK
structure Bakery where
  lights : List Int
  bound : Option Int
  goods : List Good
def numOk (i : Int) : Prop := 0 ≤ i ∧ i ≤ 1000000000
structure Bakery.ok (b : Bakery) : Prop where
  l1 : 1 ≤ b.lights.length
  l2 : b.lights.length ≤ 40
  ls : ∀ l ∈ b.lights, numOk l
  bd : ∀ k, b.bound = some k → 1 ≤ k ∧ k ≤ 1000000000
  g1 : 1 ≤ b.goods.length
  g2 : b.goods.length ≤ 2
  gs : ∀ g ∈ b.goods, g.ok b.lights.length
end BK
namespace Pg
open PySem L2 DL BK
def eD (d : Day) : T := .tup [.int d.want, .int d.loaf, .int d.keep, eO d.fine]
def eG (g : Good) : T := .tup [.lst (g.days.map eD), eO g.life]
def eB (b : Bakery) : T := .tup [.lst (b.lights.map .int), eO b.bound, .lst (b.goods.map eG)]
section
variable {g : Good} {b : Bakery} {d : Day}
@[simp] theorem isMut_eD : isMut (eD d) = false := Eq.trans rfl rfl
@[simp] theorem isMut_eG : isMut (eG g) = false := Eq.trans rfl rfl
@[simp] theorem isMut_eB : isMut (eB b) = false := Eq.trans rfl rfl
@[simp] theorem kn_eD : kn (eD d) = true := Eq.trans rfl rfl
@[simp] theorem kn_eG : kn (eG g) = true := Eq.trans rfl rfl
@[simp] theorem kn_eB : kn (eB b) = true := Eq.trans rfl rfl
end
inductive Scr : T → List Int → Prop
  | scr (ns : List Int) : Scr (.scr ns) ns
  | lst (ns : List Int) : Scr (.lst (ns.map .int)) ns
theorem Scr.cell {S : T} {ns : List Int} (h : Scr S ns) (k : Nat) : dn__law_cell_at [S, .int k] = .ok (.int (cel ns k)) := by
  cases h with
  | scr => exact cell_at_eq ns k
  | lst => exact cell_at_eqL ns k
theorem Scr.len {S : T} {ns : List Int} (h : Scr S ns) : lenL [S] = some (.int ns.length) := by
  cases h with
  | scr => rfl
  | lst => simp
def daysMany (ns : List Int) (upto : Nat) : Nat := max 2 (min upto ns.length) - 1
end Pg
set_option maxHeartbeats 2000000
namespace Pg
open PySem L2 DL BK
theorem drawn_ex (c s : Int) (zs : List Int) (hz : ∀ z ∈ zs, 0 < z) : ∃ ds, drawn c s zs = ds ∧ ds.length = zs.length ∧ ∀ i, i < zs.length → 0 ≤ ds.getD i 0 ∧ ds.getD i 0 < zs.getD i 0 :=
  ⟨_, rfl, drawn_len hz, fun i h => drawn_at hz i h⟩
def livesL : List T := [.non, .non, .int 0, .int 1, .int 2, .int 3, .int 4, .int 5, .int 7, .int 11, .int 23, .int 40]
theorem lives_ok (j : Int) (h0 : 0 ≤ j) (h1 : j < 12) : ∃ life : Option Int, atI livesL j = some (eO life) ∧ ∀ l, life = some l → 0 ≤ l ∧ l ≤ 40 := by
  have : j = 0 ∨ j = 1 ∨ j = 2 ∨ j = 3 ∨ j = 4 ∨ j = 5 ∨ j = 6 ∨ j = 7 ∨ j = 8 ∨ j = 9 ∨ j = 10 ∨ j = 11 := by omega
  rcases this with e | e | e | e | e | e | e | e | e | e | e | e <;> subst e
  · exact ⟨none, rfl, fun l h => by cases h⟩
  · exact ⟨none, rfl, fun l h => by cases h⟩
  all_goals exact ⟨some _, rfl, fun l h => by cases h; decide⟩
theorem daysMany_pos (ns : List Int) (upto : Nat) : 1 ≤ daysMany ns upto := by unfold daysMany; omega
theorem daysMany_le (ns : List Int) (upto k : Nat) (h : upto ≤ k + 1) (hk : 1 ≤ k) : daysMany ns upto ≤ k := by unfold daysMany; omega
end Pg
set_option maxHeartbeats 2000000
namespace Pg
open PySem L2 DL BK
theorem num_ok {i : Int} (h : numOk i) : withinB (.int i) 0 1000000000 = true := by
  have := h.1
  have := h.2
  simp; omega
theorem is_number_ok {i : Int} (h : numOk i) : dn_is_number [.int i] = .ok (.bl true) := by rw [is_number_eq (by simp), num_ok h]
theorem is_day_ok {d : Day} (h : d.ok) : dn_is_day [eD d] = .ok (.bl true) := by
  obtain ⟨h1, h2, h3, h4, h5, h6, h7⟩ := h
  have w1 := num_ok ⟨h1, h2⟩
  have w2 := num_ok ⟨h3, h4⟩
  have w3 := num_ok ⟨h5, h6⟩
  rw [eq_is_day]; unfold b_is_day eD
  have hc : compL (gNm 1) dYes (dCall dn_is_number (dCons (dVar 1) dNil)) [some (T.tup [T.int d.want, T.int d.loaf, T.int d.keep, eO d.fine], false), none] [T.int d.want, T.int d.loaf, T.int d.keep] = .ok [.bl true, .bl true, .bl true] := by
    refine compL_c1 ?_ (compL_c1 ?_ (compL_c1 ?_ compL_nil))
    · rw [cturn_ap]; simp [is_number_eq, w1, -within_int]
    · rw [cturn_ap]; simp [is_number_eq, w2, -within_int]
    · rw [cturn_ap]; simp [is_number_eq, w3, -within_int]
  cases e : d.fine with
  | none => rw [e] at hc; simp at hc; simp (disch := omega) [hc]
  | some f =>
    have w4 := is_number_ok (h7 f e)
    rw [e] at hc; simp at hc; simp (disch := omega) [hc, w4]
theorem are_lights_ok {ls : List Int} (h1 : 1 ≤ ls.length) (h2 : ls.length ≤ 40) (h : ∀ l ∈ ls, numOk l) : dn_are_lights [.lst (ls.map .int)] = .ok (.bl true) := by
  rw [eq_are_lights]; unfold b_are_lights
  have a1 : (1 : Int) ≤ ls.length := by omega
  have a2 : (ls.length : Int) ≤ 40 := by omega
  simp [a1, a2]
  rw [compL_map T.int (fun _ => T.bl true)]
  · have e : (ls.map fun _ => T.bl true) = ls.map fun x => T.bl ((fun _ => true) x) := rfl
    rw [fitL_ok (by simp; omega)]
    simp [e]
  · intro x hx
    rw [cturn_ap]
    simp [is_number_eq, num_ok (h x hx), -within_int]
theorem is_frame_ok {B : Bakery} (h : B.ok) : dn_is_frame [eB B] = .ok (.bl true) := by
  rw [eq_is_frame]; unfold b_is_frame eB
  have l := are_lights_ok h.l1 h.l2 h.ls
  have a1 : (1 : Int) ≤ B.goods.length := by have := h.g1; omega
  have a2 : (B.goods.length : Int) ≤ 2 := by have := h.g2; omega
  cases e : B.bound with
  | none => simp [l, a1, a2]
  | some k =>
    have := h.bd k e
    have w : withinB (.int k) 1 1000000000 = true := by simp; omega
    simp [l, a1, a2, is_within_eq, w, -within_int]
theorem look_at_good_ok {g : Good} {n : Nat} (h : g.ok n) (j : Int) : dn_look_at_good [.int j, eG g, .int n] = .ok .non := by
  rw [eq_look_at_good]; unfold b_look_at_good eG
  obtain ⟨h1, h2, h3⟩ := h
  have F : ∀ ev : Lo, (∃ a b, ev = [some (T.int j, false), some (T.tup [T.lst (g.days.map eD), eO g.life], false), some (T.int n, false), a, b]) → True := fun _ _ => trivial
  have L : forL (gTp 2 (DL.gCons (gNm 3) (DL.gCons (gNm 4) DL.gNil))) b_look_at_good_p1 (enumL (g.days.map eD)) [some (T.int j, false), some (T.tup [T.lst (g.days.map eD), eO g.life], false), some (T.int n, false), none, none]
      = .nx [some (T.int j, false), some (T.tup [T.lst (g.days.map eD), eO g.life], false), some (T.int n, false), none, none] := by
    rw [enumL_map]
    apply forL_same
    intro t ht
    obtain ⟨⟨d, k⟩, hd, rfl⟩ := List.mem_map.mp ht
    have hd2 : d ∈ g.days := List.fst_mem_of_mem_zipIdx hd
    unfold b_look_at_good_p1
    simp [is_day_ok (h2 d hd2)]
  cases e : g.life with
  | none => rw [e] at L; simp at L; simp [h1, L]
  | some l =>
    have := h3 l e
    have w : withinB (.int l) 0 40 = true := by simp; omega
    rw [e] at L; simp at L; simp [h1, L, is_within_eq, w, -within_int]
theorem look_at_bakery_ok {B : Bakery} (h : B.ok) : dn_look_at_bakery [eB B] = .ok .non := by
  rw [eq_look_at_bakery]; unfold b_look_at_bakery
  have fr := is_frame_ok h
  have L : forL (gTp 2 (DL.gCons (gNm 1) (DL.gCons (gNm 2) DL.gNil))) b_look_at_bakery_p1 (enumL (B.goods.map eG)) [some (eB B, false), none, none] = .nx [some (eB B, false), none, none] := by
    rw [enumL_map]
    apply forL_same
    intro t ht
    obtain ⟨⟨g, k⟩, hd, rfl⟩ := List.mem_map.mp ht
    have hg : g ∈ B.goods := List.fst_mem_of_mem_zipIdx hd
    have q := look_at_good_ok (h.gs g hg) k
    unfold b_look_at_bakery_p1
    unfold eB
    simp [q]
  simp [fr]
  unfold eB at L ⊢
  simp [L]
theorem is_plain_ok {B : Bakery} (h : B.ok) : dn_is_plain [eB B] = .ok (.bl (B.bound.isNone && decide (B.goods.length = 1))) := by
  rw [eq_is_plain]; unfold b_is_plain
  have e : dn_is_plain_one [eB B] = .ok (.bl (B.bound.isNone && decide (B.goods.length = 1))) := by
    rw [eq_is_plain_one]; unfold b_is_plain_one eB
    cases e : B.bound with
    | none => simp; congr 1; omega
    | some k => simp
  simp [look_at_bakery_ok h, e]
theorem look_at_plain_ok {ls : List Int} {g : Good} (h : (⟨ls, none, [g]⟩ : Bakery).ok) : dn_look_at_plain [eB ⟨ls, none, [g]⟩] = .ok .non := by
  rw [eq_look_at_plain]; unfold b_look_at_plain
  simp [is_plain_ok h]
end Pg
set_option maxHeartbeats 2000000
namespace Pg
open PySem L2 DL BK
theorem slice_map (f : Day → T) (xs : List Day) (a b : Nat) : List.take (b - a) (List.drop a (List.map f xs)) = (slice xs a b).map f := by unfold slice; rw [List.map_take, List.map_drop]
theorem slice_len {α : Type} (xs : List α) (a b : Nat) : (slice xs a b).length ≤ xs.length := by unfold slice; simp; omega
theorem nights_ahead_eq (g : Good) (b v : Nat) (hl : g.days.length ≤ 1000) : dn_nights_ahead [.lst (g.days.map eD), eO g.life, .int b, .int v] = .ok (eO (if longB g.life ((v : Int) - b) = true then none else some (g.keeps b v))) := by
  rw [eq_nights_ahead]; unfold b_nights_ahead
  have hc : compL (gTp 4 (DL.gCons (gNm 4) (DL.gCons (gNm 5) (DL.gCons (gNm 6) (DL.gCons (gNm 7) DL.gNil))))) dYes (dVar 6) [some (T.lst (g.days.map eD), false), some (eO g.life, false), some (.int b, false), some (.int v, false), none, none, none, none] ((slice g.days b v).map eD) = .ok ((slice g.days b v).map fun d => .int d.keep) := by
    apply compL_map
    intro d hd
    rw [cturn_ap]
    simp [eD]
  have hlen := slice_len g.days b v
  cases e : g.life with
  | none =>
    rw [e] at hc
    simp at hc
    simp (disch := omega) [slice_map, hc, longB, Good.keeps]
  | some l =>
    rw [e] at hc
    simp at hc
    by_cases hx : l < (v : Int) - b
    · simp [hx, longB]
    · simp (disch := omega) [slice_map, hc, longB, hx, Good.keeps]
theorem nums_eO : ∀ fs : List (Option Int), none ∉ fs → nums (fs.map eO) = some (fs.map fun x => x.getD 0)
  | [], _ => rfl
  | none :: fs, h => by simp at h
  | some x :: fs, h => by
    rw [List.map_cons, eO_some, nums_cons, nums_eO fs (fun z => h (by simp [z]))]; rfl
theorem nights_behind_eq (g : Good) (b v : Nat) (hl : g.days.length ≤ 1000) : dn_nights_behind [.lst (g.days.map eD), .int b, .int v] = .ok (eO (g.fines b v)) := by
  rw [eq_nights_behind]; unfold b_nights_behind
  have hc : compL (gTp 4 (DL.gCons (gNm 4) (DL.gCons (gNm 5) (DL.gCons (gNm 6) (DL.gCons (gNm 7) DL.gNil))))) dYes (dVar 7) [some (T.lst (g.days.map eD), false), some (.int b, false), some (.int v, false), none, none, none, none, none] ((slice g.days v b).map eD) = .ok (((slice g.days v b).map Day.fine).map eO) := by
    rw [List.map_map]
    apply compL_map
    intro d hd
    rw [cturn_ap]
    simp [eD]
  have hlen := slice_len g.days v b
  simp at hc
  simp (disch := omega) [slice_map, hc]
  have e2 : List.map (eO ∘ Day.fine) (slice g.days v b) = ((slice g.days v b).map Day.fine).map eO := by rw [List.map_map]
  rw [e2, inT_non]
  unfold Good.fines osumL
  by_cases h : none ∈ (slice g.days v b).map Day.fine
  · rw [decide_eq_true h, if_pos h]; simp
  · rw [decide_eq_false h, if_neg h]
    have n := nums_eO _ h
    simp at n
    simp [n]
theorem price_of_eq (g : Good) (b v : Nat) (hl : g.days.length ≤ 1000) (hb : b < g.days.length) : dn_price_of [eG g, .int b, .int v] = .ok (eO (g.price b v)) := by
  rw [eq_price_of]; unfold b_price_of eG
  have a := nights_ahead_eq g b v hl
  have f := nights_behind_eq g b v hl
  have hd : (g.days.map eD)[b]? = some (eD (g.day b)) := by
    unfold Good.day
    rw [List.getElem?_map, List.getD_eq_getElem?_getD, List.getElem?_eq_getElem hb]; rfl
  have hd2 : g.days[b]? = some (g.day b) := by
    unfold Good.day
    rw [List.getD_eq_getElem?_getD, List.getElem?_eq_getElem hb]; rfl
  unfold Good.price Good.nights
  by_cases h : b ≤ v
  · have h' : (b : Int) ≤ v := by omega
    rw [if_pos h]
    generalize (if longB g.life ((v : Int) - b) = true then none else some (g.keeps b v)) = o at *
    cases o with
    | none => simp [h', h, a]
    | some n => simp [h', h, a, hd2, eD]
  · have h' : ¬ (b : Int) ≤ v := by omega
    rw [if_neg h]
    generalize g.fines b v = o at *
    cases o with
    | none => simp [h', h, f]
    | some n => simp [h', h, f, hd2, eD]
end Pg
set_option maxHeartbeats 2000000
namespace DL
open PySem L2
section
variable {g : T → Lo → Option Lo} {body : Lo → Fl} {α : Type}
theorem enum_range (f : Nat → T) (n : Nat) : enumL ((List.range n).map f) = (List.range n).map fun k => .tup [.int k, f k] := by
  unfold enumL
  apply List.ext_getElem
  · simp
  · intro i h1 h2; simp
theorem map_range (f : α → T) (xs : List α) (d : α) : xs.map f = (List.range xs.length).map fun k => f (xs.getD k d) := by
  apply List.ext_getElem
  · simp
  · intro i h1 h2
    have hi : i < xs.length := by simpa using h1
    simp [hi]
end
end DL
set_option maxHeartbeats 2000000
namespace Pg
open PySem L2 DL BK
theorem day_ok {g : Good} {n : Nat} (ok : g.ok n) {i : Nat} (h : i < n) : (g.day i).ok := by
  unfold Good.day
  have : i < g.days.length := by rw [ok.1]; exact h
  rw [List.getD_eq_getElem?_getD, List.getElem?_eq_getElem this]
  exact ok.2.1 _ (List.getElem_mem this)
theorem days_range (g : Good) : g.days.map eD = (List.range g.days.length).map fun k => eD (g.day k) := map_range eD g.days default
end Pg
set_option maxHeartbeats 2000000
namespace DL
open PySem L2
theorem textFrom_le : ∀ (ts : List Str) (k : Nat) (acc : Str), (textFrom k acc ts).length ≤ acc.length + piled ts
  | [], k, acc => Nat.le_add_right _ _
  | t :: r, k, acc => by
    have h := textFrom_le r (k + 1) (acc ++ (if k > 0 then ", " else "" : String) ++ t)
    have e : (acc ++ (if k > 0 then ", " else "" : String) ++ t).length ≤ acc.length + 2 + t.length := by
      rw [strLen_append, strLen_append]
      have : (Str.ofString (if k > 0 then ", " else "")).length ≤ 2 := by split <;> decide
      omega
    rw [piled_cons]
    show (textFrom (k + 1) _ r).length ≤ _
    omega
theorem listText_le (ts : List Str) : (listText ts).length ≤ piled ts + 2 := by
  have h := textFrom_le ts 0 "["
  unfold listText
  rw [strLen_append]
  have e1 : (Str.ofString "[").length = 1 := by decide
  have e2 : (Str.ofString "]").length = 1 := by decide
  omega
theorem tupleText_le (ts : List Str) : (tupleText ts).length ≤ piled ts + 3 := by
  unfold tupleText
  rw [strLen_append, strLen_append]
  have e1 : (Str.ofString "(").length = 1 := by decide
  have e2 : (Str.ofString (if ts.length == 1 then ",)" else ")")).length ≤ 2 := by split <;> decide
  have e3 : (Str.join ", " ts).length ≤ piled ts := by
    cases ts with
    | nil => decide
    | cons t r => have := join_length_add (t :: r) (by simp); omega
  omega
structure Sh (t : T) (n w : Nat) : Prop where
  pl : plR t = true
  sh : (py t).showable = true
  dp : (py t).depth ≤ n
  ln : (py t).shown.length ≤ w
theorem Sh.okR {t : T} {n w : Nat} (h : Sh t n w) (hn : n ≤ 60) (hw : w ≤ 16000000) : okR t = true := by
  unfold DL.okR
  have := h.dp
  have := h.ln
  have e : w ≤ sizeLine := Nat.le_trans hw (by decide)
  simp [h.pl, h.sh]
  exact ⟨by omega, by omega⟩
theorem Sh.mono {t : T} {n w n' w' : Nat} (h : Sh t n w) (hn : n ≤ n' := by omega) (hw : w ≤ w' := by omega) : Sh t n' w' := ⟨h.pl, h.sh, Nat.le_trans h.dp hn, Nat.le_trans h.ln hw⟩
theorem Sh.int {i : Int} (h : i.natAbs < 10 ^ 100) : Sh (.int i) 0 101 where
  pl := rfl
  sh := by
    show decide (i.natAbs.log2 < 1920) = true
    have : i.natAbs.log2 < 1920 := by
      by_cases e : i.natAbs = 0
      · rw [e]; decide
      · exact (Nat.log2_lt e).mpr (Nat.lt_of_lt_of_le h (by decide +kernel))
    simpa using this
  dp := Nat.le_refl _
  ln := by
    show (Str.ofString (toString i)).length ≤ 101
    rw [ofString_length]
    exact int_text_length_le10 (k := 100) (by decide) h
theorem Sh.non : Sh .non 0 101 := ⟨rfl, rfl, Nat.le_refl _, by decide⟩
theorem Sh.bl (b : Bool) : Sh (.bl b) 0 101 := ⟨rfl, rfl, Nat.le_refl _, by cases b <;> decide⟩
theorem Sh.dic : Sh (.dic []) 1 101 := ⟨rfl, rfl, by decide, by decide⟩
theorem Sh.str {x : Str} {w : Nat} (h : ((py (.str x)).shown).length ≤ w) : Sh (.str x) 0 w := ⟨rfl, rfl, Nat.le_refl _, h⟩
theorem Sh.eO {x : Option Int} (h : ∀ i, x = some i → i.natAbs < 10 ^ 100) : Sh (eO x) 0 101 := by
  cases x with
  | none => exact .non
  | some i => exact .int (h i rfl)
theorem Sh.all {ts : List T} {n w : Nat} (h : ∀ t ∈ ts, Sh t n w) : plRs ts = true ∧ PyData.showableAll (pys ts) = true ∧ PyData.depthAll (pys ts) ≤ n ∧ piled (PyData.shownAll (pys ts)) ≤ ts.length * (w + 2) := by
  induction ts with
  | nil => exact ⟨rfl, rfl, Nat.zero_le _, Nat.zero_le _⟩
  | cons t ts ih =>
    obtain ⟨a, b, d, e⟩ := ih fun u hu => h u (by simp [hu])
    have k := h t (by simp)
    unfold plRs pys PyData.showableAll PyData.depthAll PyData.shownAll
    rw [k.pl, a, k.sh, b, piled_cons]
    refine ⟨rfl, rfl, Nat.max_le.mpr ⟨k.dp, d⟩, ?_⟩
    have := k.ln
    rw [List.length_cons, Nat.add_mul, Nat.one_mul]
    omega
theorem Sh.lst {ts : List T} {n w : Nat} (h : ∀ t ∈ ts, Sh t n w) : Sh (.lst ts) (n + 1) (ts.length * (w + 2) + 2) := by
  obtain ⟨a, b, d, e⟩ := Sh.all h
  refine ⟨by unfold plR; exact a, by unfold py PyData.showable; exact b, by unfold py PyData.depth; omega, ?_⟩
  unfold py PyData.shown
  have := listText_le (PyData.shownAll (pys ts))
  omega
theorem Sh.tup {ts : List T} {n w : Nat} (h : ∀ t ∈ ts, Sh t n w) : Sh (.tup ts) (n + 1) (ts.length * (w + 2) + 3) := by
  obtain ⟨a, b, d, e⟩ := Sh.all h
  refine ⟨by unfold plR; exact a, by unfold py PyData.showable; exact b, by unfold py PyData.depth; omega, ?_⟩
  unfold py PyData.shown
  have := tupleText_le (PyData.shownAll (pys ts))
  omega
theorem repr_of {t : T} {n w : Nat} (h : Sh t n w) (hn : n ≤ 60) (hw : w ≤ 16000000) : reprL [t] = some (.str (py t).shown) := by
  show (if DL.okR t = true then some (T.str (py t).shown) else none) = _
  rw [if_pos (h.okR hn hw)]
end DL
namespace Pg
open PySem L2 DL BK
theorem small {i : Int} (h : -1000000000000 ≤ i ∧ i ≤ 1000000000000) : i.natAbs < 10 ^ 100 := Nat.lt_of_le_of_lt (m := 1000000000000) (by omega) (by decide +kernel)
theorem Sh.day {d : Day} (h : d.ok) : Sh (eD d) 1 420 := by
  obtain ⟨h1, h2, h3, h4, h5, h6, h7⟩ := h
  refine (Sh.tup (n := 0) (w := 101) fun t ht => ?_).mono (by omega) (by simp)
  simp at ht
  rcases ht with e | e | e | e <;> subst e
  · exact .int (small (by omega))
  · exact .int (small (by omega))
  · exact .int (small (by omega))
  · exact .eO fun i e => by have := h7 i e; exact small (by omega)
theorem Sh.good {g : Good} {n : Nat} (h : g.ok n) (hn : n ≤ 41) : Sh (eG g) 3 40000 := by
  obtain ⟨h1, h2, h3⟩ := h
  have a : Sh (.lst (g.days.map eD)) 2 17500 := (Sh.lst (n := 1) (w := 420) fun t ht => by
    obtain ⟨d, hd, rfl⟩ := List.mem_map.mp ht
    exact Sh.day (h2 d hd)).mono (by omega) (by rw [List.length_map, h1]; omega)
  refine (Sh.tup (n := 2) (w := 17500) fun t ht => ?_).mono (by omega) (by simp)
  simp at ht
  rcases ht with e | e <;> subst e
  · exact a
  · exact (Sh.eO fun i e => by have := h3 i e; exact small (by omega)).mono
theorem Sh.bakery {B : Bakery} (h : B.ok) : Sh (eB B) 5 1000000 := by
  have a : Sh (.lst (B.lights.map .int)) 4 100000 := (Sh.lst (n := 0) (w := 101) fun t ht => by
    obtain ⟨d, hd, rfl⟩ := List.mem_map.mp ht
    have := h.ls d hd
    exact .int (small ⟨by have := this.1; omega, by have := this.2; omega⟩)).mono (by omega) (by rw [List.length_map]; have := h.l2; omega)
  have c : Sh (.lst (B.goods.map eG)) 4 100000 := (Sh.lst (n := 3) (w := 40000) fun t ht => by
    obtain ⟨g, hg, rfl⟩ := List.mem_map.mp ht
    exact Sh.good (h.gs g hg) (by have := h.l2; omega)).mono (by omega) (by rw [List.length_map]; have := h.g2; omega)
  refine (Sh.tup (n := 4) (w := 100000) fun t ht => ?_).mono (by omega) (by simp)
  simp at ht
  rcases ht with e | e | e <;> subst e
  · exact a
  · exact (Sh.eO fun i e => by have := h.bd i e; exact small (by omega)).mono
  · exact c
end Pg
namespace BK
section
variable {L L' : Nat → Int} {z z' : Nat → Bool} {c c' : Nat → Nat → Option Int}
end
def Good.take (g : Good) (k : Nat) : Good := ⟨g.days.take k, g.life⟩
theorem own_price {g : Good} {n : Nat} (ok : g.ok n) (v : Nat) : g.price v v = some (g.day v).loaf := by
  unfold Good.price Good.nights
  have h : longB g.life ((v : Int) - v) = false := by
    unfold longB
    cases e : g.life with
    | none => rfl
    | some l => have := ok.2.2 l e; simp; omega
  rw [if_pos (Nat.le_refl _), h]
  unfold Good.keeps slice
  simp
end BK
set_option maxHeartbeats 2000000
namespace Pg
open PySem L2 DL BK
@[simp] theorem kT_eD {d : Day} {n : Nat} : kT (n + 1) (eD d) = true := by simp [eD]
abbrev Pl (ls : List Int) (g : Good) : Bakery := ⟨ls, none, [g]⟩
section
variable {ls : List Int} {g : Good}
theorem pl_g (ok : (Pl ls g).ok) : g.ok ls.length := ok.gs g (by simp)
end
end Pg
namespace BK
section
variable {c : Nat → Option Int} {p : Nat → Int}
end
section
variable {L : Nat → Int} {z : Nat → Bool} {c : Nat → Nat → Option Int} {p : Nat → Int}
end
end BK
set_option maxHeartbeats 2000000
namespace Pg
open PySem L2 DL BK
theorem law_price_eq (g : Good) (b v : Nat) (hl : g.days.length ≤ 1000) (hb : b < g.days.length) : dn__law_price [eG g, .int b, .int v] = .ok (eO (g.price b v)) := by
  rw [eq__law_price]; unfold b__law_price eG
  have hd2 : g.days[b]? = some (g.day b) := by
    unfold Good.day
    rw [List.getD_eq_getElem?_getD, List.getElem?_eq_getElem hb]; rfl
  unfold Good.price Good.nights
  by_cases h : b ≤ v
  · have h' : ¬ ((v : Int) < b) := by omega
    rw [if_pos h]
    have hc : ∀ ev : Lo, ev.length = 7 → compL (gNm 6) dYes (d2 ixT (dVar 6) (dC (.int 2))) ev ((slice g.days b v).map eD) = .ok ((slice g.days b v).map fun d => .int d.keep) := fun ev hev => by
      match ev, hev with
      | [v0, v1, v2, v3, v4, v5, v6], _ =>
        apply compL_map
        intro d hd
        rw [cturn_ap]
        simp [eD]
    have hlen := slice_len g.days b v
    cases e : g.life with
    | none =>
      have hc1 := hc [some (T.tup [T.lst (g.days.map eD), .non], false), some (.int b, false), some (.int v, false), some (.lst (g.days.map eD), false), some (.non, false), none, none] rfl
      simp (disch := omega) [h', slice_map, hc1, longB, Good.keeps, hd2, eD, -getElem?_pos]
    | some l =>
      have hc1 := hc [some (T.tup [T.lst (g.days.map eD), .int l], false), some (.int b, false), some (.int v, false), some (.lst (g.days.map eD), false), some (.int l, false), none, none] rfl
      by_cases hx : l < (v : Int) - b
      · simp [h', hx, longB]
      · simp (disch := omega) [h', slice_map, hc1, longB, hx, Good.keeps, hd2, eD, -getElem?_pos]
  · have h' : (v : Int) < b := by omega
    rw [if_neg h]
    have hc : ∀ ev : Lo, ev.length = 7 → compL (gNm 6) dYes (d2 ixT (dVar 6) (dC (.int 3))) ev ((slice g.days v b).map eD) = .ok (((slice g.days v b).map Day.fine).map eO) := fun ev hev => by
      match ev, hev with
      | [v0, v1, v2, v3, v4, v5, v6], _ =>
        rw [List.map_map]
        apply compL_map
        intro d hd
        rw [cturn_ap]
        simp [eD]
    have hlen := slice_len g.days v b
    have hc1 := hc [some (T.tup [T.lst (g.days.map eD), eO g.life], false), some (.int b, false), some (.int v, false), some (.lst (g.days.map eD), false), some (eO g.life, false), none, none] rfl
    simp at hc1
    simp (disch := omega) [h', slice_map, hc1]
    have e2 : List.map (eO ∘ Day.fine) (slice g.days v b) = ((slice g.days v b).map Day.fine).map eO := by rw [List.map_map]
    rw [e2, inT_non]
    unfold Good.fines osumL
    by_cases hm : none ∈ (slice g.days v b).map Day.fine
    · rw [decide_eq_true hm, if_pos hm]; simp
    · rw [decide_eq_false hm, if_neg hm]
      have n := nums_eO _ hm
      simp at n
      simp [n, hd2, eD]
section
variable {ls : List Int} {g : Good}
end
end Pg
set_option maxHeartbeats 2000000
namespace BK
end BK
namespace DL
open PySem L2
theorem flSetIx_in {i : Nat} {u : T} {ts : List T} {j : Nat} {ev : Lo} (h : j < ts.length) : flSetIx i (.ok u) (some (some (.lst ts, true))) (.ok (.int j)) ev = .nx (ev.set i (some (.lst (ts.set j u), true))) := by
  have : L2.ixN ts.length (j : Int) = some j := by
    unfold L2.ixN
    rw [if_pos (by omega), if_pos (by omega)]; simp
  show (match L2.ixN ts.length (j : Int) with
      | some n => Fl.nx (ev.set i (some (.lst (ts.set n u), true)))
      | none => .bad) = _
  rw [this]
end DL
namespace Pg
open PySem L2 DL BK
section
variable {ls : List Int} {g : Good}
end
end Pg
set_option maxHeartbeats 2000000
namespace DL
open PySem L2
end DL
namespace Pg
open PySem L2 DL BK
section
variable {ls : List Int} {g : Good}
end
end Pg
set_option maxHeartbeats 2000000
namespace BK
def Good.there (g : Good) (v : Nat) : List Nat := (List.range g.days.length).filter fun b => (g.price b v).isSome
def Good.rl (g : Good) (v : Nat) : Nat := (g.there v).getLast?.getD 0
end BK
namespace Pg
open PySem L2 DL BK
end Pg
set_option maxHeartbeats 2000000
namespace DL
open PySem L2
section
variable {g : T → Lo → Option Lo} {body : Lo → Fl} {α : Type} {ev : Lo}
end
end DL
set_option maxHeartbeats 2000000
namespace Pg
open PySem L2 DL BK
def room (dk : List Int) (f l : Nat) : Nat := ((List.range (l + 1 - f)).filter fun (i : Nat) => !decide (((f : Int) + (i : Int)) ∈ dk)).length
def dkT (ds : List Nat) : List T := ds.map fun (i : Nat) => T.int (i : Int)
end Pg
set_option maxHeartbeats 2000000
namespace BK
def pm (f : Nat → Option Int) (S : Nat → Bool) : Nat → Option Int
  | 0 => none
  | i + 1 => if S i = true then omin (pm f S i) (f i) else pm f S i
end BK
namespace DL
open PySem L2 BK
end DL
namespace Pg
open PySem L2 DL BK
section
variable {ls : List Int} {g : Good}
end
end Pg
namespace BK
def Ch (z : Nat → Bool) (c : Nat → Nat → Option Int) (n : Nat) : Nat → List (Nat × Nat × Nat) → Prop
  | u, [] => u = n
  | u, q :: r => q.2.1 = u ∧ q.2.1 < q.2.2 ∧ Ch z c n q.2.2 r ∧ (∀ s ∈ r, q.1 < s.1) ∧ q.1 < n ∧ (∃ x, osum (c q.1) q.2.1 (q.2.2 - q.2.1) = some x) ∧ ∃ v, q.2.1 ≤ v ∧ v < q.2.2 ∧ z v = false
section
variable {L : Nat → Int} {z : Nat → Bool} {c : Nat → Nat → Option Int} {n : Nat}
theorem Ch.le : ∀ {lots : List (Nat × Nat × Nat)} {u : Nat}, Ch z c n u lots → u ≤ n
  | [], u, h => Nat.le_of_eq h
  | q :: r, u, h => by
    obtain ⟨h1, h2, h3, _⟩ := h
    have := Ch.le h3
    omega
end
end BK
set_option maxHeartbeats 2000000
namespace DL
open PySem L2
section
variable {g : T → Lo → Option Lo} {body : Lo → Fl} {α σ : Type}
theorem forL_inv (enc : Nat → T) (E : σ → Lo) (I : Nat → σ → Prop) {n : Nat} {s0 : σ} (h0 : I 0 s0) (h : ∀ k s, k < n → I k s → ∃ s', turn g body (enc k) (E s) = .nx (E s') ∧ I (k + 1) s') :
    ∃ s', forL g body ((List.range n).map enc) (E s0) = .nx (E s') ∧ I n s' := by
  have go : ∀ m k s, k + m = n → I k s → ∃ s', forL g body (((List.range n).drop k).map enc) (E s) = .nx (E s') ∧ I n s' := fun m => by
    induction m with
    | zero => intro k s e hs; have : k = n := by omega
              subst this; rw [List.drop_of_length_le (by simp)]; exact ⟨s, rfl, hs⟩
    | succ m ih =>
      intro k s e hs
      rw [List.drop_eq_getElem_cons (by simp; omega), List.map_cons, forL_cons]
      have eg : (List.range n)[k]'(by simp; omega) = k := by simp
      rw [eg]
      obtain ⟨s', h1, h2⟩ := h k s (by omega) hs
      rw [h1]; exact ih (k + 1) s' (by omega) h2
  have := go n 0 s0 (by omega) h0
  rwa [List.drop_zero] at this
end
def encL (ks : List Int) : T := .tup (ks.map .int)
theorem tups_map : ∀ kss : List (List Int), tups (kss.map encL) = some kss
  | [] => rfl
  | ks :: kss => by
    show (match nums (ks.map .int), tups (kss.map encL) with
      | some ks, some kss => some (ks :: kss)
      | _, _ => none) = _
    rw [nums_ints, tups_map kss]
theorem sortL_same {kss : List (List Int)} (h : kss.Pairwise fun a b => lexLe a b = true) : sortL kss = kss := by
  induction kss with
  | nil => rfl
  | cons ks kss ih =>
    obtain ⟨h1, h2⟩ := List.pairwise_cons.mp h
    show insL ks (sortL kss) = _
    rw [ih h2]
    cases kss with
    | nil => rfl
    | cons y ys => show (if lexLe ks y = true then _ else _) = _; rw [if_pos (h1 y (by simp))]
theorem sorted_tups {kss : List (List Int)} (h : kss.Pairwise fun a b => lexLe a b = true) (hl : kss.length ≤ 4000) (ho : okTups kss = true) : sorted1L [.lst (kss.map encL)] = some (.lst (kss.map encL)) := by
  have : (tups (kss.map encL)).bind (fun kss => if kss.length ≤ 4000 ∧ okTups kss = true then some (T.lst ((sortL kss).map fun ks => .tup (ks.map .int))) else none) = some (.lst (kss.map encL)) := by
    rw [tups_map, Option.bind_some, if_pos ⟨hl, ho⟩, sortL_same h]; rfl
  cases kss with
  | nil => rfl
  | cons ks kss =>
    show (match nums (encL ks :: kss.map encL) with
      | some ns => some (T.lst ((sortI ns).map .int))
      | none => _) = _
    exact this
theorem okTups_of {d : Nat} (hd : 1 ≤ d) {kss : List (List Int)} (h : ∀ ks ∈ kss, ks.length = d ∧ ∀ i ∈ ks, 0 ≤ i ∧ i < 1000000000000000000000000000000) : okTups kss = true := by
  cases kss with
  | nil => rfl
  | cons k kr =>
    unfold okTups
    have h0 := h k (by simp)
    simp only [Bool.and_eq_true, decide_eq_true_eq, List.all_eq_true, beq_iff_eq]
    exact ⟨by omega, fun ks hk => ⟨by rw [(h ks hk).1, h0.1], fun i hi => (h ks hk).2 i hi⟩⟩
end DL
namespace Pg
open PySem L2 DL BK
section
variable {ls : List Int} {g : Good}
end
end Pg
set_option maxHeartbeats 1000000
namespace DL
open PySem L2
@[simp] theorem geX_tup {ts us : List T} : geX (.tup ts) (.tup us) = (match nums ts, nums us with
    | some a, some b => some (.bl (lexLe b a))
    | _, _ => none) := Eq.trans rfl rfl
end DL
set_option maxHeartbeats 1000000
namespace DL
open PySem L2
section
variable {c C f : Str} {cs Cs fs : List Str} {ev e : Lo} {ds : Lo → R (List T)} {d1 d2 : Lo → Fl} {i : Nat} {t : T} {ts : List T} {xs : List (Str × T)} {a b : Lo → R T}
@[simp] theorem ap_sRaise0 : sRaise0 c ev = .ex c [] ev := Eq.trans rfl rfl
def flRz (c : Str) (fs : List Str) : R (List T) → Lo → Fl
  | .ok ts, ev => if ts.length = fs.length then .ex c (fs.zip ts).reverse ev else .bad
  | .ex c xs, ev => .ex c xs ev
  | .bad, _ => .bad
@[simp] theorem ap_sRaiseF : sRaiseF c fs ds ev = flRz c fs (ds ev) ev := by unfold sRaiseF flRz; cases ds ev <;> rfl
@[simp] theorem flRz_ok : flRz c fs (.ok ts) ev = if ts.length = fs.length then .ex c (fs.zip ts).reverse ev else .bad := Eq.trans rfl rfl
@[simp] theorem drop_nx : (Fl.nx e).drop i = .nx (wipeL [i] e) := Eq.trans rfl rfl
@[simp] theorem drop_rt : (Fl.rt t).drop i = .rt t := Eq.trans rfl rfl
@[simp] theorem drop_ct : (Fl.ct e).drop i = .ct (wipeL [i] e) := Eq.trans rfl rfl
@[simp] theorem drop_bk : (Fl.bk e).drop i = .bk (wipeL [i] e) := Eq.trans rfl rfl
@[simp] theorem isMut_exc : isMut (.exc c xs) = false := Eq.trans rfl rfl
@[simp] theorem isNonB_exc : isNonB (.exc c xs) = false := Eq.trans rfl rfl
end
end DL
set_option maxHeartbeats 2000000
namespace Pg
open PySem L2 DL BK
def kl : T → Bool
  | .non => true
  | .bl _ => true
  | .int _ => true
  | .str _ => true
  | .lst _ => true
  | .tup _ => true
  | .dic _ => true
  | _ => false
def kd : Nat → T → Bool
  | n + 1, .lst xs => decide (xs.length ≤ 1000) && xs.all (kd n)
  | n + 1, .tup xs => decide (xs.length ≤ 1000) && xs.all (kd n)
  | _, t => kl t
theorem kl_kn {t : T} (h : kl t = true) : kn t = true := by cases t <;> first | rfl | exact Bool.noConfusion h
theorem kd_kl {n : Nat} {t : T} (h : kd n t = true) : kl t = true := by
  cases n with
  | zero => cases t <;> first | rfl | (unfold kd at h; exact h)
  | succ n => cases t <;> first | rfl | (unfold kd at h; exact h)
theorem kd_kn {n : Nat} {t : T} (h : kd n t = true) : kn t = true := kl_kn (kd_kl h)
theorem kd_lst {n : Nat} {ts : List T} : kd (n + 1) (.lst ts) = (decide (ts.length ≤ 1000) && ts.all (kd n)) := by rw [kd]
theorem kd_tup {n : Nat} {ts : List T} : kd (n + 1) (.tup ts) = (decide (ts.length ≤ 1000) && ts.all (kd n)) := by rw [kd]
theorem kd_lst_iff {n : Nat} {ts : List T} : kd (n + 1) (.lst ts) = true ↔ ts.length ≤ 1000 ∧ ∀ t ∈ ts, kd n t = true := by
  rw [kd_lst, Bool.and_eq_true, decide_eq_true_iff, List.all_eq_true]
theorem kd_tup_iff {n : Nat} {ts : List T} : kd (n + 1) (.tup ts) = true ↔ ts.length ≤ 1000 ∧ ∀ t ∈ ts, kd n t = true := by
  rw [kd_tup, Bool.and_eq_true, decide_eq_true_iff, List.all_eq_true]
theorem len4 {ts : List T} (h : ts.length = 4) : ∃ a b c d, ts = [a, b, c, d] := by
  match ts, h with
  | [a, b, c, d], _ => exact ⟨a, b, c, d, rfl⟩
end Pg
set_option maxHeartbeats 2000000
namespace Pg
open PySem L2 DL BK
end Pg
set_option maxHeartbeats 4000000
namespace Pg
open PySem L2 DL BK
structure Pd (n w : Nat) (t : T) : Prop where
  kd : ∀ m, kd m t = true
  sh : Sh t n w
theorem kd_leaf {t : T} (h : kl t = true) (h1 : ∀ xs, t ≠ .lst xs) (h2 : ∀ xs, t ≠ .tup xs) : ∀ m, kd m t = true := fun m => by
  cases m with
  | zero => unfold kd; cases t <;> first | exact h | exact absurd rfl (h1 _) | exact absurd rfl (h2 _)
  | succ m => unfold kd; cases t <;> first | exact h | exact absurd rfl (h1 _) | exact absurd rfl (h2 _)
theorem Pd.mono {n w n' w' : Nat} {t : T} (h : Pd n w t) (hn : n ≤ n' := by omega) (hw : w ≤ w' := by omega) : Pd n' w' t := ⟨h.kd, h.sh.mono hn hw⟩
theorem Pd.non : Pd 0 101 .non := ⟨kd_leaf rfl (fun _ z => by cases z) (fun _ z => by cases z), .non⟩
theorem Pd.bl (b : Bool) : Pd 0 101 (.bl b) := ⟨kd_leaf rfl (fun _ z => by cases z) (fun _ z => by cases z), .bl b⟩
theorem Pd.int {i : Int} (h : i.natAbs < 10 ^ 100) : Pd 0 101 (.int i) := ⟨kd_leaf rfl (fun _ z => by cases z) (fun _ z => by cases z), .int h⟩
theorem Pd.dic : Pd 1 101 (.dic []) := ⟨kd_leaf rfl (fun _ z => by cases z) (fun _ z => by cases z), .dic⟩
theorem Pd.str {x : Str} {w : Nat} (h : ((py (.str x)).shown).length ≤ w) : Pd 0 w (.str x) := ⟨kd_leaf rfl (fun _ z => by cases z) (fun _ z => by cases z), .str h⟩
theorem Pd.eO {x : Option Int} (h : ∀ i, x = some i → i.natAbs < 10 ^ 100) : Pd 0 101 (eO x) := by
  cases x with
  | none => exact .non
  | some i => exact .int (h i rfl)
theorem Pd.lst {n w : Nat} {ts : List T} (h : ∀ t ∈ ts, Pd n w t) (hl : ts.length ≤ 1000) : Pd (n + 1) (ts.length * (w + 2) + 2) (.lst ts) := ⟨fun m => by
  cases m with
  | zero => rfl
  | succ m => exact kd_lst_iff.mpr ⟨hl, fun t ht => (h t ht).kd m⟩, Sh.lst fun t ht => (h t ht).sh⟩
theorem Pd.tup {n w : Nat} {ts : List T} (h : ∀ t ∈ ts, Pd n w t) (hl : ts.length ≤ 1000) : Pd (n + 1) (ts.length * (w + 2) + 3) (.tup ts) := ⟨fun m => by
  cases m with
  | zero => rfl
  | succ m => exact kd_tup_iff.mpr ⟨hl, fun t ht => (h t ht).kd m⟩, Sh.tup fun t ht => (h t ht).sh⟩
theorem Pd.lstL {n w L W : Nat} {ts : List T} (h : ∀ t ∈ ts, Pd n w t) (hl : ts.length ≤ L) (hL : L ≤ 1000 := by omega) (hW : L * (w + 2) + 2 ≤ W := by omega) : Pd (n + 1) W (.lst ts) :=
  (Pd.lst h (by omega)).mono (Nat.le_refl _) (by have := Nat.mul_le_mul_right (w + 2) hl; omega)
theorem Pd.tupL {n w L W : Nat} {ts : List T} (h : ∀ t ∈ ts, Pd n w t) (hl : ts.length ≤ L) (hL : L ≤ 1000 := by omega) (hW : L * (w + 2) + 3 ≤ W := by omega) : Pd (n + 1) W (.tup ts) :=
  (Pd.tup h (by omega)).mono (Nat.le_refl _) (by have := Nat.mul_le_mul_right (w + 2) hl; omega)
theorem pick_ok {L : List T} {P : T → Prop} {i : Int} {n : Nat} (hn : L.length = n) (h0 : 0 ≤ i) (h1 : i < n) (hp : ∀ t ∈ L, P t) : ∃ t, atI L i = some t ∧ P t := by
  obtain ⟨k, rfl⟩ : ∃ k : Nat, i = k := ⟨i.toNat, by omega⟩
  have hk : k < L.length := by omega
  exact ⟨L[k], by rw [atI_cast, List.getElem?_eq_getElem hk], hp _ (List.getElem_mem hk)⟩
def Odd (t : T) : Prop := Pd 1 300 t
theorem Pd.day {d : Day} (h : d.ok) : Pd 1 420 (eD d) := by
  obtain ⟨h1, h2, h3, h4, h5, h6, h7⟩ := h
  refine Pd.tupL (n := 0) (w := 101) (L := 4) (fun t ht => ?_) (by simp)
  simp at ht
  rcases ht with e | e | e | e <;> subst e
  · exact .int (small (by omega))
  · exact .int (small (by omega))
  · exact .int (small (by omega))
  · exact .eO fun i e => by have := h7 i e; exact small (by omega)
def Gd (t : T) : Prop := Pd 4 271000 t
theorem Pd.good {g : Good} {n : Nat} (hg : g.ok n) (hn : n ≤ 40) : Gd (eG g) := by
  obtain ⟨g1, g2, g3⟩ := hg
  have pr : Pd 3 90300 (.lst (g.days.map eD)) := Pd.lstL (n := 2) (w := 2200) (L := 41) (W := 90300) (fun t ht => by
    obtain ⟨d, hd, rfl⟩ := List.mem_map.mp ht
    exact (Pd.day (g2 d hd)).mono) (by simp; omega)
  have pl : Pd 3 90300 (DL.eO g.life) := (Pd.eO fun i e => by have := g3 i e; exact small (by omega)).mono
  exact Pd.tupL (n := 3) (w := 90300) (L := 3) (fun t ht => by simp at ht; rcases ht with rfl | rfl <;> assumption) (by simp)
def Bk (t : T) : Prop := Pd 6 6600000 t
abbrev Pt (t : T) : Prop := Pd 5 1630000 t
theorem Bk.tup {ts : List T} (hl : ts.length ≤ 4) (h : ∀ t ∈ ts, Pt t) : Bk (.tup ts) := Pd.tupL (n := 5) (w := 1630000) (L := 4) h hl
theorem Bk.lst {ts : List T} (hl : ts.length ≤ 4) (h : ∀ t ∈ ts, Pt t) : Bk (.lst ts) := Pd.lstL (n := 5) (w := 1630000) (L := 4) h hl
theorem Pt.goods {ts : List T} (hl : ts.length ≤ 6) (h : ∀ t ∈ ts, Gd t) : Pt (.lst ts) := Pd.lstL (n := 4) (w := 271000) (L := 6) h hl
theorem Pt.lights {ts : List T} (hl : ts.length ≤ 41) (h : ∀ t ∈ ts, Odd t) : Pt (.lst ts) := (Pd.lstL (n := 1) (w := 300) (L := 41) (W := 12400) h hl).mono
theorem Odd.pt {t : T} (h : Odd t) : Pt t := h.mono
theorem Pt.good {t : T} (h : Gd t) : Pt t := h.mono
end Pg
set_option maxHeartbeats 4000000
namespace Pg
open PySem L2 DL BK
theorem law_day2_ok {a b c d l n f : Int} (late : Bool) (ha : numOk a) (hb : numOk b) (hc : numOk c) (hd : numOk d) (hl : numOk l) :
    ∃ D : Day, dn__law_day_2 [.lst [.int a, .int b, .int c, .int d, .int l, .int n, .int f], .bl late] = .ok (.tup [.int l, eD D]) ∧ D.ok := by
  rw [eq__law_day_2]; unfold b__law_day_2
  obtain ⟨a1, a2⟩ := ha
  obtain ⟨b1, b2⟩ := hb
  obtain ⟨c1, c2⟩ := hc
  obtain ⟨d1, d2⟩ := hd
  have m0 : mulT (.int a) (.int 0) = some (.int (a * 0)) := mulT_ok (by omega)
  have m1 : mulT (.int a) (.int 1) = some (.int (a * 1)) := mulT_ok (by omega)
  have w : ∃ w : Int, (if 0 < n then a * 1 else a * 0) = w ∧ 0 ≤ w ∧ w ≤ 1000000000 := ⟨_, rfl, by split <;> omega, by split <;> omega⟩
  obtain ⟨w, hw, w1, w2⟩ := w
  cases late with
  | false =>
    refine ⟨⟨w, b, c, none⟩, ?_, w1, w2, b1, b2, c1, c2, fun i e => by cases e⟩
    by_cases hn : 0 < n
    · rw [if_pos hn] at hw; subst hw
      simp (disch := omega) [hn, m1, eD]
    · rw [if_neg hn] at hw; subst hw
      simp (disch := omega) [hn, m0, eD]
  | true =>
    by_cases hf : 1 < f
    · refine ⟨⟨w, b, c, some d⟩, ?_, w1, w2, b1, b2, c1, c2, fun i e => by cases e; exact ⟨d1, d2⟩⟩
      by_cases hn : 0 < n
      · rw [if_pos hn] at hw; subst hw
        simp (disch := omega) [hn, hf, m1, eD]
      · rw [if_neg hn] at hw; subst hw
        simp (disch := omega) [hn, hf, m0, eD]
    · refine ⟨⟨w, b, c, none⟩, ?_, w1, w2, b1, b2, c1, c2, fun i e => by cases e⟩
      by_cases hn : 0 < n
      · rw [if_pos hn] at hw; subst hw
        simp (disch := omega) [hn, hf, m1, eD]
      · rw [if_neg hn] at hw; subst hw
        simp (disch := omega) [hn, hf, m0, eD]
def sizes2 (w : Bool) : List Int := (if w then [1000000001, 1000000001, 1000000001, 1000000001, 1000000001] else [5, 6, 4, 4, 13]) ++ [4, 5]
theorem law_bakery2_ok {S : T} {ns : List Int} (hS : Scr S ns) (hl : ns.length ≤ 1000) (upto : Nat) (hu : upto ≤ 41) (salt : Int) (hs : -900000 ≤ salt ∧ salt ≤ 900000) :
    ∃ (ls : List Int) (g : Good), dn__law_bakery_2 [S, .int upto, .int salt] = .ok (eB ⟨ls, none, [g]⟩) ∧ (⟨ls, none, [g]⟩ : Bakery).ok ∧ ls.length = daysMany ns upto := by
  have c0 := hS.cell 0
  have c0' : dn__law_cell_at [S, .int 0] = .ok (.int (cel ns 0)) := c0
  have n0 := numbers_eq (cel ns 0) salt [3, 12, 2] (by omega) (by simp) (by simp)
  obtain ⟨ds, hd, hdl, hdb⟩ := drawn_ex (cel ns 0) salt [3, 12, 2] (by simp)
  rw [hd] at n0
  have hlen := hS.len
  match ds, hdl with
  | [a, b, c], _ =>
    have b1 := hdb 1 (by simp)
    simp at b1
    obtain ⟨life, hlf, hlo⟩ := lives_ok b b1.1 b1.2
    unfold livesL at hlf
    simp only [List.map_cons, List.map_nil] at n0
    have m9 := daysMany_le ns upto 40 (by omega) (by omega)
    have sm : max 2 (min upto ns.length) = daysMany ns upto + 1 := by unfold daysMany; omega
    obtain ⟨wd, hwd⟩ : ∃ w, decide (a = 0) = w := ⟨_, rfl⟩
    obtain ⟨lt, hlt⟩ : ∃ w, decide (c = 1) = w := ⟨_, rfl⟩
    obtain ⟨⟨ls, dys⟩, F, f1, f2, f3, f4⟩ := forL_inv (g := gNm 7) (body := b__law_bakery_2_p1) (σ := List Int × List Day) (fun (k : Nat) => T.int (1 + (k : Int))) (fun s => [some (S, false), some (.int upto, false), some (.int salt, false), some (.lst [.int a, .int b, .int c], false), some (.lst ((sizes2 wd).map .int), false), some (.lst (s.1.map .int), true), some (.lst (s.2.map eD), true), none, none, none])
      (fun k s => s.1.length = k ∧ s.2.length = k ∧ (∀ l ∈ s.1, numOk l) ∧ ∀ d ∈ s.2, d.ok) (n := daysMany ns upto) (s0 := ([], [])) ⟨rfl, rfl, (fun l h => by cases h), fun d h => by cases h⟩ fun k s hk ⟨i1, i2, i3, i4⟩ => by
        obtain ⟨ls, dys⟩ := s
        have i1 : ls.length = k := i1
        have i2 : dys.length = k := i2
        have ck : dn__law_cell_at [S, .int (1 + (k : Int))] = .ok (.int (cel ns (1 + k))) := hS.cell (1 + k)
        have nk := numbers_eq (cel ns (1 + k)) (salt + (1 + (k : Int))) (sizes2 wd) (by omega) (by cases wd <;> simp [sizes2]) (by cases wd <;> simp [sizes2])
        obtain ⟨es, he, hel, heb⟩ := drawn_ex (cel ns (1 + k)) (salt + (1 + (k : Int))) (sizes2 wd) (by cases wd <;> simp [sizes2])
        rw [he] at nk
        have l7 : (sizes2 wd).length = 7 := by cases wd <;> rfl
        rw [l7] at hel
        match es, hel with
        | [x0, x1, x2, x3, x4, x5, x6], _ =>
          have nb : ∀ i, i < 5 → 0 ≤ [x0, x1, x2, x3, x4, x5, x6].getD i 0 ∧ [x0, x1, x2, x3, x4, x5, x6].getD i 0 ≤ 1000000000 := fun i hi => by
            have := heb i (by omega)
            have s5 : (sizes2 wd).getD i 0 ≤ 1000000001 := by
              have ci : i = 0 ∨ i = 1 ∨ i = 2 ∨ i = 3 ∨ i = 4 := by omega
              clear this
              rcases ci with rfl | rfl | rfl | rfl | rfl <;> cases wd <;> simp [sizes2]
            omega
          obtain ⟨D, hD, Dok⟩ := law_day2_ok (n := x5) (f := x6) lt (nb 0 (by omega)) (nb 1 (by omega)) (nb 2 (by omega)) (nb 3 (by omega)) (nb 4 (by omega))
          have l4 := nb 4 (by omega)
          have l4 : 0 ≤ x4 ∧ x4 ≤ 1000000000 := l4
          refine ⟨(ls ++ [x4], dys ++ [D]), ?_, ?_, ?_, ?_, ?_⟩
          · show turn _ _ _ [_, _, _, _, _, some (.lst (ls.map .int), true), some (.lst (dys.map eD), true), _, _, _] = Fl.nx [_, _, _, _, _, some (.lst ((ls ++ [x4]).map .int), true), some (.lst ((dys ++ [D]).map eD), true), _, _, _]
            have e1 : (ls ++ [x4]).map T.int = ls.map T.int ++ [T.int x4] := by simp
            have e2 : (dys ++ [D]).map eD = dys.map eD ++ [eD D] := by simp
            rw [e1, e2]
            have z1 : (ls.map T.int).length ≤ 100 := by simp; omega
            have z2 : (dys.map eD).length ≤ 100 := by simp; omega
            have d3 : dn__law_day_2 [.lst [.int x0, .int x1, .int x2, .int x3, .int x4, .int x5, .int x6], .bl lt] = _ := hD
            simp only [List.map_cons, List.map_nil] at nk
            generalize (sizes2 wd).map T.int = sz at *
            generalize ls.map T.int = lT at *
            generalize dys.map eD = dT at *
            generalize eD D = dD at *
            unfold b__law_bakery_2_p1
            by_cases hc : c = 1
            · have : lt = true := by rw [← hlt]; exact decide_eq_true hc
              subst this
              simp (disch := omega) [ck, nk, d3, hc]
            · have : lt = false := by rw [← hlt]; exact decide_eq_false hc
              subst this
              simp (disch := omega) [ck, nk, d3, hc]
          · show (ls ++ [x4]).length = k + 1
            simp; omega
          · show (dys ++ [D]).length = k + 1
            simp; omega
          · show ∀ l ∈ ls ++ [x4], numOk l
            intro l h
            rcases List.mem_append.mp h with h | h
            · exact i3 l h
            · rw [List.mem_singleton.mp h]; exact l4
          · show ∀ d ∈ dys ++ [D], d.ok
            intro d h
            rcases List.mem_append.mp h with h | h
            · exact i4 d h
            · rw [List.mem_singleton.mp h]; exact Dok
    have f1 : ls.length = daysMany ns upto := f1
    have f2 : dys.length = daysMany ns upto := f2
    refine ⟨ls, ⟨dys, life⟩, ?_, ⟨?_, ?_, f3, (fun k h => by cases h), by simp, by simp, fun g hg => ?_⟩, f1⟩
    · rw [eq__law_bakery_2]; unfold b__law_bakery_2
      have hmx : (daysMany ns upto : Int) + 1 - 1 = daysMany ns upto := by omega
      have z1 : (ls.map T.int).length ≤ 100 := by simp; omega
      have z2 : (dys.map eD).length ≤ 100 := by simp; omega
      have F : forL (gNm 7) b__law_bakery_2_p1 ((List.range (daysMany ns upto)).map fun (k : Nat) => T.int (1 + (k : Int))) [some (S, false), some (.int upto, false), some (.int salt, false), some (.lst [.int a, .int b, .int c], false), some (.lst ((sizes2 wd).map .int), false), some (.lst [], true), some (.lst [], true), none, none, none] = .nx [some (S, false), some (.int upto, false), some (.int salt, false), some (.lst [.int a, .int b, .int c], false), some (.lst ((sizes2 wd).map .int), false), some (.lst (ls.map .int), true), some (.lst (dys.map eD), true), none, none, none] := F
      have tn : (if (2 : Int) < (if ns.length < upto then (ns.length : Int) else (upto : Int)) then (if ns.length < upto then (ns.length : Int) else (upto : Int)) else 2) = ((daysMany ns upto + 1 : Nat) : Int) := by
        have := sm
        by_cases q : ns.length < upto
        · rw [if_pos q]
          split <;> omega
        · rw [if_neg q]
          split <;> omega
      have tt : ((daysMany ns upto : Int) + 1 - 1).toNat = daysMany ns upto := by omega
      have m5 : mulT (.lst [T.int 1000000001]) (.int 5) = some (.lst [.int 1000000001, .int 1000000001, .int 1000000001, .int 1000000001, .int 1000000001]) := by rfl
      have eBe : eB ⟨ls, none, [⟨dys, life⟩]⟩ = .tup [.lst (ls.map .int), .non, .lst [.tup [.lst (dys.map eD), eO life]]] := rfl
      rw [eBe]
      generalize ls.map T.int = lT at *
      generalize dys.map eD = dT at *
      by_cases h0 : a = 0
      · have : wd = true := by rw [← hwd]; exact decide_eq_true h0
        subst this
        subst h0
        simp only [sizes2] at F
        simp at F
        simp (disch := omega) [c0', n0, m5, hlen, tn, tt, rngF_eq, F, hlf]
      · have : wd = false := by rw [← hwd]; exact decide_eq_false h0
        subst this
        simp only [sizes2] at F
        simp at F
        simp (disch := omega) [c0', n0, h0, m5, hlen, tn, tt, rngF_eq, F, hlf]
    · show 1 ≤ ls.length
      rw [f1]; exact daysMany_pos ns upto
    · show ls.length ≤ 40
      rw [f1]; exact m9
    · rw [List.mem_singleton.mp hg]
      exact ⟨by show dys.length = ls.length; rw [f1, f2], f4, hlo⟩
end Pg
set_option maxHeartbeats 2000000
namespace Pg
open PySem L2 DL BK
section
variable {ls : List Int} {g : Good}
end
end Pg
set_option maxHeartbeats 2000000
namespace BK
end BK
namespace Pg
open PySem L2 DL BK
theorem set_range {α : Type} (f : Nat → α) (n k : Nat) (x : α) : ((List.range n).map f).set k x = (List.range n).map fun i => if i = k then x else f i := by
  apply List.ext_getElem
  · simp
  · intro i h1 h2
    rw [List.getElem_set]
    simp only [List.getElem_map, List.getElem_range]
    by_cases e : k = i
    · subst e; simp
    · rw [if_neg e, if_neg (fun z => e z.symm)]
section
variable {ls : List Int} {g : Good}
end
end Pg
set_option maxHeartbeats 2000000
namespace BK
section
variable {L : Nat → Int} {z : Nat → Bool} {c : Nat → Nat → Option Int}
end
end BK
namespace BK
section
variable {L : Nat → Int} {g : Good} {n : Nat}
end
end BK
set_option maxHeartbeats 2000000
namespace Pg
open PySem L2 DL BK
section
variable {ls : List Int} {g : Good}
end
end Pg
set_option maxHeartbeats 2000000
namespace Pg
open PySem L2 DL BK
theorem enum_ints {xs : List Int} {t : T} (ht : t ∈ enumL (xs.map T.int)) : ∃ (k : Nat) (c : Int), t = .tup [.int k, .int c] ∧ k < xs.length := by
  rw [enumL_map] at ht
  obtain ⟨⟨c, k⟩, hc, rfl⟩ := List.mem_map.mp ht
  have := List.mem_zipIdx hc
  simp at this
  exact ⟨k, c, rfl, by omega⟩
theorem bakery_bk {B : Bakery} (ok : B.ok) : Bk (eB B) := by
  unfold eB
  have lp : ∀ t ∈ B.lights.map T.int, Odd t := fun t ht => by
    obtain ⟨l, hl, rfl⟩ := List.mem_map.mp ht
    have := ok.ls l hl
    exact (Pd.int (small ⟨by have := this.1; omega, by have := this.2; omega⟩)).mono
  have gp : ∀ t ∈ B.goods.map eG, Gd t := fun t ht => by
    obtain ⟨g, hg, rfl⟩ := List.mem_map.mp ht
    exact Pd.good (ok.gs g hg) ok.l2
  have bp : Odd (DL.eO B.bound) := (Pd.eO fun i e => by have := ok.bd i e; exact small (by omega)).mono
  have pls : Pt (.lst (B.lights.map T.int)) := .lights (by have := ok.l2; simp; omega) lp
  have pgs : Pt (.lst (B.goods.map eG)) := .goods (by have := ok.g2; simp; omega) gp
  have pbd : Pt (DL.eO B.bound) := bp.pt
  exact Bk.tup (by simp) (by simp only [List.mem_cons, List.not_mem_nil, or_false]; rintro t (rfl | rfl | rfl) <;> assumption)
theorem Bk.repr {t : T} (h : Bk t) : reprL [t] = some (.str (py t).shown) := repr_of h.sh (by decide) (by decide)
end Pg
set_option maxHeartbeats 2000000
namespace Pg
open PySem L2 DL BK
end Pg
set_option maxHeartbeats 2000000
namespace BK
end BK
namespace Pg
open PySem L2 DL BK
end Pg
set_option maxHeartbeats 2000000
namespace Pg
open PySem L2 DL BK
theorem num_is {t : T} {a b : Int} (h : withinB t a b = true) : ∃ i : Int, t = .int i ∧ a ≤ i ∧ i ≤ b := by
  cases t <;> first | exact Bool.noConfusion h | skip
  rename_i i
  simp at h
  exact ⟨i, rfl, h.1, h.2⟩
end Pg
set_option maxHeartbeats 2000000
namespace Pg
open PySem L2 DL BK
def chF (f : Nat → Option Nat) : Nat → Nat → List Nat
  | 0, k => [k]
  | n + 1, k => match f k with
    | none => [k]
    | some a => k :: chF f n a
abbrev ch (f : Nat → Option Nat) (k : Nat) : List Nat := chF f k k
variable {f : Nat → Option Nat}
section
variable {ls : List Int} {g : Good}
end
end Pg
set_option maxHeartbeats 4000000
namespace DL
open PySem L2
end DL
set_option maxHeartbeats 4000000
namespace DL
open PySem L2
def flDPutT (i : Nat) (u : R T) (o : Option (Option (T × Bool))) (k : R T) (ev : Lo) : Fl := u.fl ev fun u => match o with
  | some (some (.dit kvs, true)) => k.fl ev fun kt => match kt with
    | .tup ts => match keysT ts with
      | some k => if kvs.length < sizeLine then .nx (ev.set i (some (.dit (putL kvs k u), true))) else .bad
      | none => .bad
    | _ => .bad
  | _ => .bad
@[simp] theorem ap_sDPutT {i : Nat} {dk d : Lo → R T} {ev : Lo} : sDPutT i dk d ev = flDPutT i (d ev) ev[i]? (dk ev) ev := by
  unfold sDPutT flDPutT; rfl
def apGet2 (t u w : R T) : R T := t.bind fun t => if isDic t = true then u.bind fun u => w.bind fun w => ofO ((dfind t u).map (·.getD w)) else .bad
@[simp] theorem ap_dGet2 {da db dc : Lo → R T} {ev : Lo} : dGet2 da db dc ev = apGet2 (da ev) (db ev) (dc ev) := rfl
def tkE (p : List Int × Int) : List Key × T := (p.1.map Sum.inl, T.int p.2)
def tkD (kvs : List (List Int × Int)) : T := .dit (kvs.map tkE)
def getI (kvs : List (List Int × Int)) (k : List Int) : Option Int := (kvs.find? fun kv => decide (kv.1 = k)).map (·.2)
def putI (kvs : List (List Int × Int)) (k : List Int) (n : Int) : List (List Int × Int) :=
  if (kvs.any fun kv => decide (kv.1 = k)) = true then kvs.map (fun kv => if kv.1 = k then (kv.1, n) else kv) else kvs ++ [(k, n)]
theorem inl_inj {a b : List Int} (h : a.map (Sum.inl : Int → Key) = b.map Sum.inl) : a = b := by
  induction a generalizing b with
  | nil => cases b with
    | nil => rfl
    | cons y ys => cases h
  | cons x xs ih => cases b with
    | nil => cases h
    | cons y ys =>
      rw [List.map_cons, List.map_cons] at h
      obtain ⟨h1, h2⟩ := List.cons.inj h
      rw [Sum.inl.inj h1, ih h2]
theorem dec_inl (a b : List Int) : decide (a.map (Sum.inl : Int → Key) = b.map Sum.inl) = decide (a = b) := by
  by_cases h : a = b
  · rw [h, decide_eq_true rfl, decide_eq_true rfl]
  · rw [decide_eq_false h, decide_eq_false fun z => h (inl_inj z)]
theorem keysT_ints : ∀ k : List Int, keysT (k.map T.int) = some (k.map Sum.inl)
  | [] => rfl
  | i :: r => by
    show (match keyT (T.int i), keysT (r.map T.int) with
      | some k, some ks => some (k :: ks)
      | _, _ => none) = _
    rw [keysT_ints r]; rfl
theorem valL_tk (k : List Int) : ∀ kvs : List (List Int × Int), valL (kvs.map tkE) (k.map Sum.inl) = (getI kvs k).map T.int
  | [] => rfl
  | kv :: kvs => by
    have ih := valL_tk k kvs
    unfold valL getI at ih ⊢
    rw [List.map_cons, List.find?_cons, List.find?_cons]
    show (match decide ((kv.1.map (Sum.inl : Int → Key)) = k.map Sum.inl) with | true => _ | false => _ : Option _).map _ = _
    rw [dec_inl]
    cases decide (kv.1 = k) with
    | true => rfl
    | false => exact ih
theorem any_tk (k : List Int) : ∀ kvs : List (List Int × Int), ((kvs.map tkE).any fun kv => decide (kv.1 = k.map Sum.inl)) = kvs.any fun kv => decide (kv.1 = k)
  | [] => rfl
  | kv :: kvs => by
    rw [List.map_cons, List.any_cons, List.any_cons, any_tk k kvs]
    show (decide ((kv.1.map (Sum.inl : Int → Key)) = k.map Sum.inl) || _) = _
    rw [dec_inl]
theorem putL_tk (kvs : List (List Int × Int)) (k : List Int) (n : Int) : putL (kvs.map tkE) (k.map Sum.inl) (.int n) = (putI kvs k n).map tkE := by
  unfold putL putI
  rw [any_tk]
  split
  · rw [List.map_map, List.map_map]
    apply List.map_congr_left
    intro kv _
    show (if (kv.1.map (Sum.inl : Int → Key)) = k.map Sum.inl then _ else _) = tkE (if kv.1 = k then (kv.1, n) else kv)
    by_cases h : kv.1 = k
    · rw [if_pos h, if_pos (by rw [h])]; rfl
    · rw [if_neg h, if_neg fun z => h (inl_inj z)]
  · rw [List.map_append]; rfl
theorem flDPutT_tk {i : Nat} {kvs : List (List Int × Int)} {k : List Int} {n : Int} {ev : Lo} (hl : kvs.length ≤ 1000) : flDPutT i (.ok (.int n)) (some (some (tkD kvs, true))) (.ok (.tup (k.map .int))) ev = .nx (ev.set i (some (tkD (putI kvs k n), true))) := by
  show (match keysT (k.map T.int) with
      | some k => if (kvs.map tkE).length < sizeLine then Fl.nx (ev.set i (some (.dit (putL (kvs.map tkE) k (.int n)), true))) else .bad
      | none => .bad) = _
  rw [keysT_ints]
  show (if (kvs.map tkE).length < sizeLine then Fl.nx (ev.set i (some (.dit (putL (kvs.map tkE) (k.map Sum.inl) (.int n)), true))) else .bad) = _
  rw [if_pos (by rw [List.length_map]; unfold sizeLine; omega), putL_tk]
  rfl
theorem get2_tk {kvs : List (List Int × Int)} {k : List Int} {n : Int} : apGet2 (.ok (tkD kvs)) (.ok (.tup (k.map .int))) (.ok (.int n)) = .ok (.int ((getI kvs k).getD n)) := by
  show ofO (((keysT (k.map T.int)).map (valL (kvs.map tkE))).map (·.getD (T.int n))) = _
  rw [keysT_ints]
  show R.ok ((valL (kvs.map tkE) (k.map Sum.inl)).getD (T.int n)) = _
  rw [valL_tk]
  cases getI kvs k <;> rfl
theorem dget_tk {kvs : List (List Int × Int)} {k : List Int} {n : Int} (h : getI kvs k = some n) : dgetT (tkD kvs) (.tup (k.map .int)) = some (.int n) := by
  show (((keysT (k.map T.int)).map (valL (kvs.map tkE)))).bind id = _
  rw [keysT_ints]
  show valL (kvs.map tkE) (k.map Sum.inl) = _
  rw [valL_tk, h]; rfl
theorem intK_inl : ∀ k : List Int, intK (k.map Sum.inl) = some k
  | [] => rfl
  | i :: r => by
    show (intK (r.map Sum.inl)).map (i :: ·) = _
    rw [intK_inl r]; rfl
theorem intLs_tk : ∀ kvs : List (List Int × Int), intLs (kvs.map tkE) = some (kvs.map Prod.fst)
  | [] => rfl
  | kv :: kvs => by
    show (match intK (kv.1.map Sum.inl), intLs (kvs.map tkE) with
      | some n, some ns => some (n :: ns)
      | _, _ => none) = _
    rw [intK_inl, intLs_tk kvs]; rfl
theorem sortedDT_tk {kvs : List (List Int × Int)} (hl : kvs.length ≤ 4000) (ho : okTups (kvs.map Prod.fst) = true) : sortedDT1L [tkD kvs] = some (.lst ((sortL (kvs.map Prod.fst)).map fun (ks : List Int) => T.tup (ks.map .int))) := by
  show (match intLs (kvs.map tkE) with
    | some nss => if nss.length ≤ 4000 ∧ okTups nss = true then some (T.lst ((sortL nss).map fun (ks : List Int) => T.tup (ks.map .int))) else none
    | none => none) = _
  rw [intLs_tk]
  show (if (kvs.map Prod.fst).length ≤ 4000 ∧ okTups (kvs.map Prod.fst) = true then _ else none) = _
  rw [if_pos ⟨by rw [List.length_map]; exact hl, ho⟩]
theorem putI_len (kvs : List (List Int × Int)) (k : List Int) (n : Int) : (putI kvs k n).length ≤ kvs.length + 1 := by
  unfold putI
  split
  · rw [List.length_map]; omega
  · simp
theorem putI_keys (kvs : List (List Int × Int)) (k : List Int) (n : Int) : (putI kvs k n).map Prod.fst = if k ∈ kvs.map Prod.fst then kvs.map Prod.fst else kvs.map Prod.fst ++ [k] := by
  have e : (kvs.any fun kv => decide (kv.1 = k)) = true ↔ k ∈ kvs.map Prod.fst := by
    rw [List.any_eq_true, List.mem_map]
    exact ⟨fun ⟨x, h1, h2⟩ => ⟨x, h1, of_decide_eq_true h2⟩, fun ⟨x, h1, h2⟩ => ⟨x, h1, decide_eq_true h2⟩⟩
  unfold putI
  by_cases h : k ∈ kvs.map Prod.fst
  · rw [if_pos h, if_pos (e.mpr h), List.map_map]
    apply List.map_congr_left
    intro kv _
    show (if kv.1 = k then (kv.1, n) else kv).1 = kv.1
    split <;> rfl
  · rw [if_neg h, if_neg fun z => h (e.mp z), List.map_append]; rfl
end DL
set_option maxHeartbeats 4000000
namespace Pg
open PySem L2 DL BK
structure Dw where
  mx : Int
  dw : Int
  ho : Int
instance : Inhabited Dw := ⟨⟨0, 0, 0⟩⟩
def Dw.ok (w : Dw) : Prop := numOk w.mx ∧ numOk w.dw ∧ numOk w.ho
def eW (w : Dw) : T := .tup [.int w.mx, .int w.dw, .int w.ho]
@[simp] theorem isMut_eW {w : Dw} : isMut (eW w) = false := Eq.trans rfl rfl
@[simp] theorem kn_eW {w : Dw} : kn (eW w) = true := Eq.trans rfl rfl
theorem later2_ok (c : Int) : ∃ d : Int, dn__law_later_2 [.int c] = .ok (.int d) := by
  rw [eq__law_later_2]; unfold b__law_later_2
  by_cases h : 1000000000000000000000000000000000000000000000000000000000000000 ≤ c
  · exact ⟨_, by simp [h]; rfl⟩
  · exact ⟨_, by simp [h]; rfl⟩
theorem numbers3 (c s z0 z1 z2 : Int) (hs : -1000000 ≤ s ∧ s ≤ 1000000) (h0 : 0 < z0 ∧ z0 ≤ 1000000001) (h1 : 0 < z1 ∧ z1 ≤ 1000000001) (h2 : 0 < z2 ∧ z2 ≤ 1000000001) :
    ∃ x0 x1 x2 : Int, dn__law_numbers [.int c, .int s, .lst [.int z0, .int z1, .int z2]] = .ok (.lst [.int x0, .int x1, .int x2]) ∧ numOk x0 ∧ numOk x1 ∧ numOk x2 := by
  have hz : ∀ z ∈ [z0, z1, z2], 0 < z ∧ z ≤ 1000000001 := fun z hz => by
    simp only [List.mem_cons, List.not_mem_nil, or_false] at hz
    rcases hz with rfl | rfl | rfl <;> assumption
  have nk := numbers_eq c s [z0, z1, z2] (by omega) (fun z h => by have := hz z h; omega) (by simp)
  obtain ⟨es, he, hel, heb⟩ := drawn_ex c s [z0, z1, z2] (fun z h => (hz z h).1)
  rw [he] at nk
  match es, hel with
  | [x0, x1, x2], _ =>
    have g0 := heb 0 (by simp)
    have g1 := heb 1 (by simp)
    have g2 := heb 2 (by simp)
    simp at g0 g1 g2
    exact ⟨x0, x1, x2, nk, ⟨g0.1, by omega⟩, ⟨g1.1, by omega⟩, ⟨g2.1, by omega⟩⟩
theorem law_doughs_ok {S : T} {ns : List Int} (hS : Scr S ns) {n : Nat} (hn : n ≤ 40) (salt : Int) (hs : -800000 ≤ salt ∧ salt ≤ 800000) :
    ∃ ws : List Dw, dn__law_doughs [S, .int n, .int salt] = .ok (.lst (ws.map eW)) ∧ ws.length = n ∧ ∀ w ∈ ws, w.ok := by
  rw [eq__law_doughs]; unfold b__law_doughs
  have c0' : dn__law_cell_at [S, .int 0] = .ok (.int (cel ns 0)) := hS.cell 0
  have n0 := numbers_eq (cel ns 0) salt [3] (by omega) (by simp) (by simp)
  obtain ⟨ds, hd, hdl, hdb⟩ := drawn_ex (cel ns 0) salt [3] (by simp)
  rw [hd] at n0
  match ds, hdl with
  | [a], _ =>
    obtain ⟨wd, hwd⟩ : ∃ w, decide (a = 0) = w := ⟨_, rfl⟩
    have m3 : mulT (.lst [T.int 1000000001]) (.int 3) = some (.lst [.int 1000000001, .int 1000000001, .int 1000000001]) := by rfl
    obtain ⟨ws, F, f1, f2⟩ := forL_inv (g := gNm 5) (body := b__law_doughs_p1) (σ := List Dw) (fun (k : Nat) => T.int (k : Int)) (fun s => [some (S, false), some (.int n, false), some (.int salt, false), some (.bl wd, false), some (.lst (s.map eW), true), none, none, none])
      (fun k s => s.length = k ∧ ∀ w ∈ s, w.ok) (n := n) (s0 := []) ⟨rfl, fun w h => by cases h⟩ fun k s hk ⟨i1, i2⟩ => by
        have ck : dn__law_cell_at [S, .int (1 + (k : Int))] = .ok (.int (cel ns (1 + k))) := hS.cell (1 + k)
        obtain ⟨d, hl⟩ := later2_ok (cel ns (1 + k))
        have step : ∀ x0 x1 x2 : Int, numOk x0 → numOk x1 → numOk x2 → dn__law_numbers [.int d, .int (salt + 40 + k), .lst (if wd then [.int 1000000001, .int 1000000001, .int 1000000001] else [.int 13, .int 5, .int 4])] = .ok (.lst [.int x0, .int x1, .int x2]) → ∃ s' : List Dw, turn (gNm 5) b__law_doughs_p1 (T.int (k : Int)) [some (S, false), some (.int n, false), some (.int salt, false), some (.bl wd, false), some (.lst (s.map eW), true), none, none, none] = .nx [some (S, false), some (.int n, false), some (.int salt, false), some (.bl wd, false), some (.lst (s'.map eW), true), none, none, none] ∧ s'.length = k + 1 ∧ ∀ w ∈ s', w.ok := fun x0 x1 x2 g0 g1 g2 nk => by
          refine ⟨s ++ [⟨x0, x1, x2⟩], ?_, by simp; omega, fun w hw => ?_⟩
          · have e1 : (s ++ [(⟨x0, x1, x2⟩ : Dw)]).map eW = s.map eW ++ [.tup [.int x0, .int x1, .int x2]] := by simp [eW]
            rw [e1]
            have zl : (s.map eW).length ≤ 100 := by simp; omega
            generalize s.map eW = sT at *
            unfold b__law_doughs_p1
            cases wd with
            | true =>
              simp at nk
              simp (disch := omega) [ck, hl, m3, nk]
            | false =>
              simp at nk
              simp (disch := omega) [ck, hl, m3, nk]
          · rcases List.mem_append.mp hw with h | h
            · exact i2 w h
            · rw [List.mem_singleton.mp h]
              exact ⟨g0, g1, g2⟩
        cases wd with
        | true =>
          obtain ⟨x0, x1, x2, nk, g0, g1, g2⟩ := numbers3 d (salt + 40 + k) 1000000001 1000000001 1000000001 (by omega) (by omega) (by omega) (by omega)
          exact step x0 x1 x2 g0 g1 g2 nk
        | false =>
          obtain ⟨x0, x1, x2, nk, g0, g1, g2⟩ := numbers3 d (salt + 40 + k) 13 5 4 (by omega) (by omega) (by omega) (by omega)
          exact step x0 x1 x2 g0 g1 g2 nk
    refine ⟨ws, ?_, f1, f2⟩
    have F : forL (gNm 5) b__law_doughs_p1 ((List.range n).map fun (k : Nat) => T.int (k : Int)) [some (S, false), some (.int n, false), some (.int salt, false), some (.bl wd, false), some (.lst [], true), none, none, none] = .nx _ := F
    simp only [List.map_cons, List.map_nil] at n0
    generalize ws.map eW = wT at *
    subst hwd
    simp (disch := omega) [c0', n0, rngT_eq, F]
def wat (ws : List Dw) (i : Nat) : Dw := ws.getD i default
theorem wat_ok {ws : List Dw} (ok : ∀ w ∈ ws, w.ok) {i : Nat} (h : i < ws.length) : (wat ws i).ok := by
  unfold wat
  rw [List.getD_eq_getElem?_getD, List.getElem?_eq_getElem h]
  exact ok _ (List.getElem_mem h)
theorem wat_range (ws : List Dw) : ws.map eW = (List.range ws.length).map fun k => eW (wat ws k) := map_range eW ws default
theorem look_at_doughs_ok {ls : List Int} {g : Good} (ok : (Pl ls g).ok) {ws : List Dw} (hl : ws.length = ls.length) (hw : ∀ w ∈ ws, w.ok) : dn_look_at_doughs [eB (Pl ls g), .lst (ws.map eW)] = .ok .non := by
  have lp := look_at_plain_ok ok
  have hx0 : ixT (eB (Pl ls g)) (.int 0) = some (.lst (ls.map .int)) := by simp [eB]
  have ll : (ls.map T.int).length = ls.length := by simp
  have wl : (ws.map eW).length = ls.length := by simp [hl]
  have day : ∀ w : Dw, w.ok → dn_is_dough_day [eW w] = .ok (.bl true) := fun w ⟨h1, h2, h3⟩ => by
    have n1 := is_number_ok h1
    have n2 := is_number_ok h2
    have n3 := is_number_ok h3
    rw [eq_is_dough_day]; unfold b_is_dough_day
    have c1 : ∀ v0 : Option (T × Bool), compL (gNm 1) dYes (dCall dn_is_number (dCons (dVar 1) dNil)) [v0, none] [.int w.mx, .int w.dw, .int w.ho] = .ok [.bl true, .bl true, .bl true] := fun v0 => by
      have := compL_map (g := gNm 1) (c := dYes) (de := dCall dn_is_number (dCons (dVar 1) dNil)) (ev := [v0, none]) (fun i : Int => T.int i) (fun _ => T.bl true) (xs := [w.mx, w.dw, w.ho]) fun i hi => by
        rw [cturn_ap]
        simp only [List.mem_cons, List.not_mem_nil, or_false] at hi
        rcases hi with rfl | rfl | rfl
        · simp [n1]
        · simp [n2]
        · simp [n3]
      exact this
    have bl3 : bls [T.bl true, T.bl true, T.bl true] = some [true, true, true] := rfl
    unfold eW
    simp [c1, bl3]
  have li : dn_look_at_dough_list [eB (Pl ls g), .lst (ws.map eW)] = .ok .non := by
    rw [eq_look_at_dough_list]; unfold b_look_at_dough_list
    have en : enumL (ws.map eW) = (List.range ws.length).map fun k => .tup [.int k, eW (wat ws k)] := by rw [wat_range ws, enum_range]
    have L : forL (gTp 2 (DL.gCons (gNm 2) (DL.gCons (gNm 3) DL.gNil))) b_look_at_dough_list_p1 (enumL (ws.map eW)) [some (eB (Pl ls g), false), some (.lst (ws.map eW), false), none, none] = .nx [some (eB (Pl ls g), false), some (.lst (ws.map eW), false), none, none] := by
      rw [en]
      apply forL_same
      intro t ht
      obtain ⟨k, hk, rfl⟩ := List.mem_map.mp ht
      have dk := day _ (wat_ok hw (List.mem_range.mp hk))
      generalize eW (wat ws k) = w at *
      unfold b_look_at_dough_list_p1
      simp [dk]
    have hlen : ((ws.map eW).length : Int) = ((ls.map T.int).length : Nat) := by omega
    generalize ws.map eW = wT at *
    generalize ls.map T.int = lT at *
    generalize eB (Pl ls g) = E at *
    simp [hx0, hlen, L]
  rw [eq_look_at_doughs]; unfold b_look_at_doughs
  generalize ws.map eW = wT at *
  generalize eB (Pl ls g) = E at *
  simp [lp, li]
end Pg
namespace BK
section
variable {t m : Int} {g : Good} {n : Nat}
theorem slice_map {α β : Type} (f : α → β) (xs : List α) (a b : Nat) : slice (xs.map f) a b = (slice xs a b).map f := by
  unfold slice
  rw [← List.map_drop, ← List.map_take]
def hS (t m w x : Int) : Int := x * t + w * m
variable {L : Nat → Int}
end
end BK
set_option maxHeartbeats 1000000
namespace BK
section
variable {d0 : Day} {g : Good} {l0 : Int} {L : Nat → Int} {n : Nat}
end
end BK
set_option maxHeartbeats 2000000
namespace Pg
open PySem L2 DL BK
theorem eD_0 (d : Day) : ixT (eD d) (.int 0) = some (.int d.want) := by simp [eD]
end Pg
set_option maxHeartbeats 2000000
namespace Pg
open PySem L2 DL BK
section
variable {ls : List Int} {g : Good} {t m : Int}
end
end Pg
set_option maxHeartbeats 4000000
namespace Pg
open PySem L2 DL BK
structure Bt where
  m : Nat
  b : Nat
  v : Nat
  k : Int
def eT (p : Bt) : T := .tup [.int p.m, .int p.b, .int p.v, .int p.k]
@[simp] theorem isMut_eT {p : Bt} : isMut (eT p) = false := Eq.trans rfl rfl
def pv (g : Good) (b v : Nat) : Int := (g.price b v).getD 0
section
variable {ls : List Int} {g : Good} {ws : List Dw}
end
end Pg
set_option maxHeartbeats 4000000
namespace Pg
open PySem L2 DL BK
theorem perm_sum {xs ys : List Int} (h : xs.Perm ys) : xs.sum = ys.sum := by
  induction h with
  | nil => rfl
  | cons x _ ih => rw [List.sum_cons, List.sum_cons, ih]
  | swap x y l => rw [List.sum_cons, List.sum_cons, List.sum_cons, List.sum_cons]; omega
  | trans _ _ i1 i2 => rw [i1, i2]
theorem getI_cons (kv : List Int × Int) (kvs : List (List Int × Int)) (k : List Int) : getI (kv :: kvs) k = if kv.1 = k then some kv.2 else getI kvs k := by
  unfold getI
  rw [List.find?_cons]
  by_cases h : kv.1 = k
  · rw [decide_eq_true h, if_pos h]; rfl
  · rw [decide_eq_false h, if_neg h]
theorem getI_none {kvs : List (List Int × Int)} {k : List Int} (h : k ∉ kvs.map Prod.fst) : getI kvs k = none := by
  induction kvs with
  | nil => rfl
  | cons kv kvs ih =>
    rw [List.map_cons] at h
    rw [getI_cons, if_neg fun z => h (by rw [z]; simp)]
    exact ih fun z => h (List.mem_cons_of_mem _ z)
theorem getI_some {kvs : List (List Int × Int)} (nd : (kvs.map Prod.fst).Nodup) {kv : List Int × Int} (h : kv ∈ kvs) : getI kvs kv.1 = some kv.2 := by
  induction kvs with
  | nil => cases h
  | cons x xs ih =>
    rw [List.map_cons] at nd
    obtain ⟨n1, n2⟩ := List.nodup_cons.mp nd
    rw [getI_cons]
    rcases List.mem_cons.mp h with e | e
    · rw [← e, if_pos rfl]
    · have : ¬ x.1 = kv.1 := fun z => n1 (by rw [z]; exact List.mem_map.mpr ⟨kv, e, rfl⟩)
      rw [if_neg this]; exact ih n2 e
theorem put_mem {kvs : List (List Int × Int)} {k : List Int} {n : Int} {kv : List Int × Int} (h : kv ∈ putI kvs k n) : kv ∈ kvs ∨ kv = (k, n) := by
  unfold putI at h
  split at h
  · obtain ⟨x, hx, e⟩ := List.mem_map.mp h
    by_cases c : x.1 = k
    · rw [if_pos c] at e; right; rw [← e, c]
    · rw [if_neg c] at e; left; rw [← e]; exact hx
  · rcases List.mem_append.mp h with h | h
    · exact .inl h
    · exact .inr (List.mem_singleton.mp h)
theorem put_nodup {kvs : List (List Int × Int)} {k : List Int} {n : Int} (h : (kvs.map Prod.fst).Nodup) : ((putI kvs k n).map Prod.fst).Nodup := by
  rw [putI_keys]
  split
  · exact h
  · rename_i hk
    exact List.nodup_append.mpr ⟨h, by simp, fun x hx y hy => by rw [List.mem_singleton.mp hy]; exact fun e => hk (e ▸ hx)⟩
end Pg
set_option maxHeartbeats 4000000
namespace Pg
open PySem L2 DL BK
section
variable {ls : List Int} {g : Good} {ws : List Dw}
def thereL (g : Good) (n v : Nat) : List Nat := (List.range n).filter fun b => (g.price b v).isSome
theorem there_pos (gk : g.ok n) {v : Nat} (hv : v < n) : 0 < (thereL g n v).length := by
  have : v ∈ thereL g n v := List.mem_filter.mpr ⟨List.mem_range.mpr hv, by rw [own_price gk]; rfl⟩
  exact List.length_pos_of_mem this
def kpT (m b v : Nat) : List Int := [(m : Int), (b : Int), (v : Int)]
theorem numbers5 (c s z : Int) (hs : -1000000 ≤ s ∧ s ≤ 1000000) (hz : 0 < z ∧ z ≤ 1000000001) :
    ∃ x : Nat → Int, dn__law_numbers [.int c, .int s, .lst [.int 40, .int 40, .int 40, .int 40, .int z]] = .ok (.lst [.int (x 0), .int (x 1), .int (x 2), .int (x 3), .int (x 4)]) ∧ (∀ i, i < 4 → 0 ≤ x i) ∧ 0 ≤ x 4 := by
  have hz' : ∀ y ∈ [40, 40, 40, 40, z], 0 < y ∧ y ≤ 1000000001 := fun y hy => by
    simp only [List.mem_cons, List.not_mem_nil, or_false] at hy
    rcases hy with rfl | rfl | rfl | rfl | rfl <;> omega
  have nk := numbers_eq c s [40, 40, 40, 40, z] (by omega) (fun z h => by have := hz' z h; omega) (by simp)
  obtain ⟨es, he, hel, heb⟩ := drawn_ex c s [40, 40, 40, 40, z] (fun z h => (hz' z h).1)
  rw [he] at nk
  match es, hel with
  | [x0, x1, x2, x3, x4], _ =>
    have g0 := heb 0 (by simp)
    have g1 := heb 1 (by simp)
    have g2 := heb 2 (by simp)
    have g3 := heb 3 (by simp)
    have g4 := heb 4 (by simp)
    simp at g0 g1 g2 g3 g4
    refine ⟨fun i => [x0, x1, x2, x3, x4].getD i 0, nk, fun i hi => ?_, g4.1⟩
    have : i = 0 ∨ i = 1 ∨ i = 2 ∨ i = 3 := by omega
    rcases this with rfl | rfl | rfl | rfl
    · exact g0.1
    · exact g1.1
    · exact g2.1
    · exact g3.1
structure KvOk (g : Good) (n : Nat) (kvs : List (List Int × Int)) (mx : Nat) : Prop where
  nd : (kvs.map Prod.fst).Nodup
  ln : kvs.length ≤ mx
  ky : ∀ kv ∈ kvs, ∃ m b v : Nat, kv.1 = kpT m b v ∧ m ≤ b ∧ b < n ∧ v < n ∧ ∃ x, g.price b v = some x
  vl : ∀ kv ∈ kvs, 0 < kv.2 ∧ kv.2 ≤ mx * 1000000000
theorem kv_put {n mx : Nat} {kvs : List (List Int × Int)} (h : KvOk g n kvs mx) {m b v : Nat} {k : Int} (hm : m ≤ b) (hb : b < n) (hv : v < n) (hp : ∃ x, g.price b v = some x) (hk : 0 < k ∧ k ≤ 1000000000) :
    KvOk g n (putI kvs (kpT m b v) ((getI kvs (kpT m b v)).getD 0 + k)) (mx + 1) := by
  have gb : 0 ≤ (getI kvs (kpT m b v)).getD 0 ∧ (getI kvs (kpT m b v)).getD 0 ≤ mx * 1000000000 := by
    by_cases c : kpT m b v ∈ kvs.map Prod.fst
    · obtain ⟨kv, hk, e2⟩ := List.mem_map.mp c
      rw [← e2, getI_some h.nd hk]
      have := h.vl kv hk
      exact ⟨by show 0 ≤ kv.2; omega, this.2⟩
    · rw [getI_none c]
      exact ⟨Int.le_refl _, by show (0 : Int) ≤ _; omega⟩
  refine ⟨put_nodup h.nd, ?_, fun kv hkv => ?_, fun kv hkv => ?_⟩
  · have := putI_len kvs (kpT m b v) ((getI kvs (kpT m b v)).getD 0 + k)
    have := h.ln
    omega
  · rcases put_mem hkv with e | e
    · exact h.ky kv e
    · rw [e]; exact ⟨m, b, v, rfl, hm, hb, hv, hp⟩
  · rcases put_mem hkv with e | e
    · have := h.vl kv e
      omega
    · rw [e]
      show 0 < (getI kvs (kpT m b v)).getD 0 + k ∧ (getI kvs (kpT m b v)).getD 0 + k ≤ _
      omega
end
end Pg
set_option maxHeartbeats 4000000
namespace Pg
open PySem L2 DL BK
section
variable {g : Good} {n : Nat}
def decB (kvs : List (List Int × Int)) (key : List Int) : Bt := ⟨(key.getD 0 0).toNat, (key.getD 1 0).toNat, (key.getD 2 0).toNat, (getI kvs key).getD 0⟩
theorem okT_kpT {ks : List (List Int)} (h : ∀ k ∈ ks, ∃ m b v : Nat, k = kpT m b v ∧ m ≤ 1000 ∧ b ≤ 1000 ∧ v ≤ 1000) : okTups ks = true := by
  refine okTups_of (d := 3) (by decide) fun k hk => ?_
  obtain ⟨m, b, v, rfl, h0, h1, h2⟩ := h k hk
  refine ⟨rfl, fun i hi => ?_⟩
  unfold kpT at hi
  simp only [List.mem_cons, List.not_mem_nil, or_false] at hi
  rcases hi with rfl | rfl | rfl <;> omega
end
end Pg
set_option maxHeartbeats 4000000
namespace Pg
open PySem L2 DL BK
structure Lo4 where
  b : Nat
  j : Nat
  v : Nat
  k : Int
def lT (p : Lo4) : T := .tup [.int p.b, .int p.j, .int p.v, .int p.k]
def sumF (f : List Int → Bool) : List (List Int × Int) → Int
  | [] => 0
  | kv :: r => (if f kv.1 = true then kv.2 else 0) + sumF f r
def addK : List (List Int × Int) → List Int → Int → List (List Int × Int)
  | [], k, m => [(k, m)]
  | kv :: r, k, m => if kv.1 = k then (kv.1, kv.2 + m) :: r else kv :: addK r k m
theorem put_add {k : List Int} {m : Int} : ∀ {kvs : List (List Int × Int)}, (kvs.map Prod.fst).Nodup → putI kvs k ((getI kvs k).getD 0 + m) = addK kvs k m
  | [], _ => by
    show [(k, (0 : Int) + m)] = [(k, m)]
    rw [Int.zero_add]
  | kv :: r, nd => by
    rw [List.map_cons, List.nodup_cons] at nd
    unfold addK
    by_cases c : kv.1 = k
    · rw [if_pos c]
      have g : getI (kv :: r) k = some kv.2 := by
        unfold getI; rw [List.find?_cons, decide_eq_true c]; rfl
      rw [g]
      unfold putI
      rw [if_pos (by rw [List.any_cons, decide_eq_true c]; rfl), List.map_cons, if_pos c]
      congr 1
      have : ∀ kv' ∈ r, (if kv'.1 = k then (kv'.1, (some kv.2).getD 0 + m) else kv') = kv' := fun kv' h => by
        rw [if_neg]
        intro z
        exact nd.1 (by rw [c, ← z]; exact List.mem_map.mpr ⟨kv', h, rfl⟩)
      rw [List.map_congr_left this, List.map_id']
    · rw [if_neg c]
      have g : getI (kv :: r) k = getI r k := by
        unfold getI; rw [List.find?_cons, decide_eq_false c]
      rw [g, ← put_add nd.2]
      unfold putI
      rw [List.any_cons, decide_eq_false c, Bool.false_or]
      split
      · rw [List.map_cons, if_neg c]
      · rfl
theorem sumF_add (f : List Int → Bool) (k : List Int) (m : Int) : ∀ kvs, sumF f (addK kvs k m) = sumF f kvs + if f k = true then m else 0
  | [] => by unfold addK sumF sumF; simp
  | kv :: r => by
    unfold addK
    by_cases c : kv.1 = k
    · rw [if_pos c]
      unfold sumF
      rw [c]
      by_cases h : f k = true
      · simp only [h, if_true]; omega
      · simp only [h]; simp
    · rw [if_neg c]
      unfold sumF
      rw [sumF_add f k m r]; omega
end Pg
set_option maxHeartbeats 4000000
namespace Pg
open PySem L2 DL BK
def okB (n : Nat) : T → Bool
  | .tup [.int a, .int b, .int c, .int d] => decide (1 ≤ d) && ((decide (0 ≤ a) && decide (a ≤ (n : Int) - 1)) && ((decide (0 ≤ b) && decide (b ≤ (n : Int) - 1)) && (decide (0 ≤ c) && decide (c ≤ (n : Int) - 1))) && decide (a ≤ b))
  | _ => false
theorem okB_4 {n : Nat} {a b c d : T} : okB n (.tup [a, b, c, d]) = (wholeB d && (match d with | .int d => decide (1 ≤ d) | _ => false) && ((withinB a 0 ((n : Int) - 1) && (withinB b 0 ((n : Int) - 1) && withinB c 0 ((n : Int) - 1))) && (match a, b with | .int a, .int b => decide (a ≤ b) | _, _ => false))) := by
  cases d <;> first | (simp [okB, wholeB]; done) | skip
  cases a <;> first | (simp [okB, wholeB, withinB]; done) | skip
  cases b <;> first | (simp [okB, wholeB, withinB]; done) | skip
  cases c <;> simp [okB, wholeB, withinB]
theorem okB_n4 {n : Nat} {ts : List T} (h : ts.length ≠ 4) : okB n (.tup ts) = false := by
  unfold okB
  split
  · rename_i e; cases e; exact absurd rfl h
  · rfl
section
variable {ls : List Int} {g : Good}
theorem is_batch_eq (ok : (Pl ls g).ok) {t : T} (h : kd 1 t = true) : dn_is_batch [eB (Pl ls g), t] = .ok (.bl (okB ls.length t)) := by
  rw [eq_is_batch]; unfold b_is_batch
  have hx0 : ixT (eB (Pl ls g)) (.int 0) = some (.lst (ls.map .int)) := by simp [eB]
  have lls : (ls.map T.int).length = ls.length := by simp
  have hn : ls.length ≤ 40 := ok.l2
  cases t with
  | tup ts =>
    obtain ⟨_, hk⟩ := kd_tup_iff.mp h
    by_cases hl : ts.length = 4
    · obtain ⟨a, b, c, d, rfl⟩ := len4 hl
      have ka := is_within_eq (kd_kn (hk a (by simp))) 0 ((ls.length : Int) - 1)
      have kb := is_within_eq (kd_kn (hk b (by simp))) 0 ((ls.length : Int) - 1)
      have kc := is_within_eq (kd_kn (hk c (by simp))) 0 ((ls.length : Int) - 1)
      have kdd := is_whole_eq (kd_kn (hk d (by simp)))
      have hc : ∀ v0 v1 : Option (T × Bool), compL (gNm 3) dYes (dCall dn_is_within (dCons (dVar 3) (dCons (dC (.int 0)) (dCons (dVar 2) dNil)))) [v0, v1, some (.int ((ls.length : Int) - 1), false), none] [a, b, c] = .ok [.bl (withinB a 0 ((ls.length : Int) - 1)), .bl (withinB b 0 ((ls.length : Int) - 1)), .bl (withinB c 0 ((ls.length : Int) - 1))] := fun v0 v1 => by
        refine compL_c1 ?_ (compL_c1 ?_ (compL_c1 ?_ compL_nil))
        · rw [cturn_ap]; simp [ka]
        · rw [cturn_ap]; simp [kb]
        · rw [cturn_ap]; simp [kc]
      have cu : cut [a, b, c, d] none (some 3) = [a, b, c] := rfl
      rw [okB_4]
      generalize ls.map T.int = lT at *
      generalize eB (Pl ls g) = E at *
      by_cases hw : wholeB d = true
      · obtain ⟨k, rfl⟩ : ∃ k : Int, d = .int k := by cases d <;> first | exact ⟨_, rfl⟩ | exact Bool.noConfusion hw
        rw [hw] at kdd ⊢
        by_cases d1 : 1 ≤ k
        · have d1' : ¬ k < 1 := by omega
          cases hA : withinB a 0 ((ls.length : Int) - 1) with
          | false =>
            rw [hA] at hc
            generalize withinB b 0 ((ls.length : Int) - 1) = zb at *
            generalize withinB c 0 ((ls.length : Int) - 1) = zc at *
            simp (disch := omega) [hc, kdd, d1, d1', hx0, lls, cu]
          | true =>
            obtain ⟨i, rfl, _⟩ := num_is hA
            rw [hA] at hc
            cases hB : withinB b 0 ((ls.length : Int) - 1) with
            | false =>
              rw [hB] at hc
              generalize withinB c 0 ((ls.length : Int) - 1) = zc at *
              simp (disch := omega) [hc, kdd, d1, d1', hx0, lls, cu]
            | true =>
              obtain ⟨i', rfl, _⟩ := num_is hB
              rw [hB] at hc
              cases hC : withinB c 0 ((ls.length : Int) - 1) with
              | false => rw [hC] at hc; simp (disch := omega) [hc, kdd, d1, d1', hx0, lls, cu]
              | true => rw [hC] at hc; simp (disch := omega) [hc, kdd, d1, d1', hx0, lls, cu]
        · have d1' : k < 1 := by omega
          simp (disch := omega) [kdd, d1, d1']
      · have hw : wholeB d = false := by simpa using hw
        rw [hw] at kdd ⊢
        simp (disch := omega) [kdd]
    · have hl' : ¬ ((ts.length : Int) = 4) := by omega
      simp [hl', okB_n4 hl]
  | _ => first | (simp [okB]; done) | exact Bool.noConfusion (kd_kn h)
def prB (g : Good) : T → Bool
  | .tup [.int _, .int b, .int c, .int _] => (g.price b.toNat c.toNat).isSome
  | _ => false
theorem law_is_batch_eq (ok : (Pl ls g).ok) {t : T} (h : kd 1 t = true) : dn__law_is_batch [eB (Pl ls g), t] = .ok (.bl (okB ls.length t && prB g t)) := by
  rw [eq__law_is_batch]; unfold b__law_is_batch
  have hx0 : ixT (eB (Pl ls g)) (.int 0) = some (.lst (ls.map .int)) := by simp [eB]
  have hx2 : ixT (eB (Pl ls g)) (.int 2) = some (.lst [eG g]) := by simp [eB]
  have lls : (ls.map T.int).length = ls.length := by simp
  have hn : ls.length ≤ 40 := ok.l2
  have gl : g.days.length = ls.length := (pl_g ok).1
  cases t with
  | tup ts =>
    obtain ⟨_, hk⟩ := kd_tup_iff.mp h
    by_cases hl : ts.length = 4
    · obtain ⟨a, b, c, d, rfl⟩ := len4 hl
      have ka := is_whole_eq (kd_kn (hk a (by simp)))
      have kb := is_whole_eq (kd_kn (hk b (by simp)))
      have kc := is_whole_eq (kd_kn (hk c (by simp)))
      have kdd := is_whole_eq (kd_kn (hk d (by simp)))
      have hc : ∀ v0 v1 v2 v3 v4 v5 : Option (T × Bool), compL (gNm 6) dYes (dCall dn_is_whole (dCons (dVar 6) dNil)) [v0, v1, v2, v3, v4, v5, none] [a, b, c, d] = .ok [.bl (wholeB a), .bl (wholeB b), .bl (wholeB c), .bl (wholeB d)] := fun v0 v1 v2 v3 v4 v5 => by
        refine compL_c1 ?_ (compL_c1 ?_ (compL_c1 ?_ (compL_c1 ?_ compL_nil)))
        · rw [cturn_ap]; simp [ka]
        · rw [cturn_ap]; simp [kb]
        · rw [cturn_ap]; simp [kc]
        · rw [cturn_ap]; simp [kdd]
      by_cases hw : wholeB a = true ∧ wholeB b = true ∧ wholeB c = true ∧ wholeB d = true
      · obtain ⟨wa, wb, wc, wd⟩ := hw
        obtain ⟨a, rfl⟩ : ∃ k : Int, a = .int k := by cases a <;> first | exact ⟨_, rfl⟩ | exact Bool.noConfusion wa
        obtain ⟨b, rfl⟩ : ∃ k : Int, b = .int k := by cases b <;> first | exact ⟨_, rfl⟩ | exact Bool.noConfusion wb
        obtain ⟨c, rfl⟩ : ∃ k : Int, c = .int k := by cases c <;> first | exact ⟨_, rfl⟩ | exact Bool.noConfusion wc
        obtain ⟨d, rfl⟩ : ∃ k : Int, d = .int k := by cases d <;> first | exact ⟨_, rfl⟩ | exact Bool.noConfusion wd
        rw [wa, wb, wc, wd] at hc
        obtain ⟨mx, hmx⟩ : ∃ mx, (if (if b > a then b else a) < c then c else (if b > a then b else a)) = mx := ⟨_, rfl⟩
        obtain ⟨mn, hmn⟩ : ∃ mn, (if c < (if b < a then b else a) then c else (if b < a then b else a)) = mn := ⟨_, rfl⟩
        have x3 : max3L [.int a, .int b, .int c] = some (.int mx) := by rw [← hmx]; rfl
        have n3 : min3L [.int a, .int b, .int c] = some (.int mn) := by rw [← hmn]; rfl
        have mxi : ∀ k : Int, k ≤ mx ↔ k ≤ a ∨ k ≤ b ∨ k ≤ c := fun k => by
          rw [← hmx]; split <;> split at * <;> omega
        have mni : ∀ k : Int, mn < k ↔ a < k ∨ b < k ∨ c < k := fun k => by
          rw [← hmn]; split <;> split at * <;> omega
        have q1 := mxi (ls.length : Int)
        have q2 := mni 0
        by_cases good : okB ls.length (.tup [.int a, .int b, .int c, .int d]) = true
        · rw [good]
          simp [okB] at good
          obtain ⟨b', rfl⟩ : ∃ k : Nat, b = k := ⟨b.toNat, by omega⟩
          obtain ⟨c', rfl⟩ : ∃ k : Nat, c = k := ⟨c.toNat, by omega⟩
          have lp := law_price_eq g b' c' (by omega) (by omega)
          have p1 : prB g (.tup [.int a, .int (b' : Int), .int (c' : Int), .int d]) = (g.price b' c').isSome := by
            show (g.price ((b' : Int)).toNat ((c' : Int)).toNat).isSome = _
            rw [Int.toNat_natCast, Int.toNat_natCast]
          rw [p1]
          have z1 : ¬ mn < 0 := by rw [q2]; omega
          have z2 : ¬ (ls.length : Int) ≤ mx := by rw [q1]; omega
          have z3 : ¬ (b' : Int) < a := by omega
          have z4 : ¬ d < 1 := by omega
          clear hmx hmn mxi mni q1 q2
          generalize ls.map T.int = lT at *
          generalize eB (Pl ls g) = E at *
          generalize eG g = G at *
          cases q : g.price b' c' with
          | none =>
            rw [q] at lp
            simp only [eO_none] at lp
            simp (disch := omega) [hc, x3, n3, hx0, hx2, lls, z1, z2, z3, z4, lp, notNonT]
          | some y =>
            rw [q] at lp
            simp only [eO_some] at lp
            simp (disch := omega) [hc, x3, n3, hx0, hx2, lls, z1, z2, z3, z4, lp, notNonT]
        · have good' : okB ls.length (.tup [.int a, .int b, .int c, .int d]) = false := by simpa using good
          rw [good']
          simp [okB] at good
          clear hmx hmn mxi mni
          generalize ls.map T.int = lT at *
          generalize eB (Pl ls g) = E at *
          by_cases y1 : mn < 0
          · simp (disch := omega) [hc, x3, n3, y1]
          · by_cases y2 : (ls.length : Int) ≤ mx
            · simp (disch := omega) [hc, x3, n3, hx0, lls, y1, y2]
            · by_cases y3 : b < a
              · simp (disch := omega) [hc, x3, n3, hx0, lls, y1, y2, y3]
              · by_cases y4 : d < 1
                · simp (disch := omega) [hc, x3, n3, hx0, lls, y1, y2, y3, y4]
                · exfalso
                  rw [q1] at y2
                  rw [q2] at y1
                  have := good (by omega) (by omega) (by omega) (by omega) (by omega) (by omega)
                  omega
      · have hf : ([wholeB a, wholeB b, wholeB c, wholeB d].all id) = false := by
          cases q : [wholeB a, wholeB b, wholeB c, wholeB d].all id with
          | false => rfl
          | true => simp at q; exact absurd q (fun z => hw ⟨z.1, z.2.1, z.2.2.1, z.2.2.2⟩)
        have okf : (okB ls.length (.tup [a, b, c, d]) && prB g (.tup [a, b, c, d])) = false := by
          cases a <;> first | rfl | skip
          cases b <;> first | rfl | skip
          cases c <;> first | rfl | skip
          cases d <;> first | rfl | (exact absurd ⟨rfl, rfl, rfl, rfl⟩ hw)
        rw [okf]
        have bl4 : bls [.bl (wholeB a), .bl (wholeB b), .bl (wholeB c), .bl (wholeB d)] = some [wholeB a, wholeB b, wholeB c, wholeB d] := rfl
        generalize eB (Pl ls g) = E at *
        simp (disch := omega) [hc, bl4, hf]
    · have hl' : ¬ ((ts.length : Int) = 4) := by omega
      have okf : okB ls.length (.tup ts) = false := okB_n4 hl
      simp [hl', okf]
  | _ => first | (simp [okB]; done) | exact Bool.noConfusion (kd_kn h)
def keyI (p : Bt) : List Int := [(p.m : Int), (p.b : Int), (p.v : Int)]
theorem okB_is {n : Nat} {t : T} (h : okB n t = true) : ∃ p : Bt, t = eT p ∧ 1 ≤ p.k ∧ p.m < n ∧ p.b < n ∧ p.v < n ∧ p.m ≤ p.b := by
  unfold okB at h
  split at h
  · rename_i a b c d
    simp at h
    exact ⟨⟨a.toNat, b.toNat, c.toNat, d⟩, by unfold eT; show T.tup [.int a, .int b, .int c, .int d] = T.tup [.int a.toNat, .int b.toNat, .int c.toNat, .int d]; rw [Int.toNat_of_nonneg (by omega), Int.toNat_of_nonneg (by omega), Int.toNat_of_nonneg (by omega)], by show 1 ≤ d; omega, by show a.toNat < n; omega, by show b.toNat < n; omega, by show c.toNat < n; omega, by show a.toNat ≤ b.toNat; omega⟩
  · cases h
theorem all_is {n : Nat} {ts : List T} (h : ts.all (okB n) = true) : ∃ ps : List Bt, ts = ps.map eT ∧ ∀ p ∈ ps, 1 ≤ p.k ∧ p.m < n ∧ p.b < n ∧ p.v < n ∧ p.m ≤ p.b := by
  induction ts with
  | nil => exact ⟨[], rfl, fun p h => by cases h⟩
  | cons t ts ih =>
    rw [List.all_cons, Bool.and_eq_true] at h
    obtain ⟨p, rfl, hp⟩ := okB_is h.1
    obtain ⟨ps, rfl, hps⟩ := ih h.2
    exact ⟨p :: ps, rfl, fun q hq => by
      rcases List.mem_cons.mp hq with e | hq
      · rw [e]; exact hp
      · exact hps q hq⟩
def chB : Bt → List Bt → Bool
  | _, [] => true
  | p, q :: r => !lexLe (keyI q) (keyI p) && chB q r
def adB : List Bt → Bool
  | [] => true
  | p :: r => chB p r
theorem ch_range : ∀ (p : Bt) (r : List Bt), (List.range r.length).all (fun i => !lexLe (keyI ((p :: r).getD (i + 1) p)) (keyI ((p :: r).getD i p))) = chB p r
  | p, [] => rfl
  | p, q :: r => by
    rw [List.length_cons, List.range_succ_eq_map, List.all_cons, List.all_map]
    unfold chB
    have ih := ch_range q r
    rw [← ih]
    have e : ∀ j, j < (q :: r).length → (q :: r).getD j p = (q :: r).getD j q := fun j hj => by
      rw [List.getD_eq_getElem?_getD, List.getD_eq_getElem?_getD, List.getElem?_eq_getElem hj]; rfl
    congr 1
    rw [Bool.eq_iff_iff, List.all_eq_true, List.all_eq_true]
    have key : ∀ i ∈ List.range r.length, ((fun i => !lexLe (keyI ((p :: q :: r).getD (i + 1) p)) (keyI ((p :: q :: r).getD i p))) ∘ Nat.succ) i = !lexLe (keyI ((q :: r).getD (i + 1) q)) (keyI ((q :: r).getD i q)) := fun i hi => by
      have hi := List.mem_range.mp hi
      show (!lexLe (keyI ((q :: r).getD (i + 1) p)) (keyI ((q :: r).getD i p))) = _
      rw [e _ (by simp; omega), e _ (by simp; omega)]
    exact ⟨fun h i hi => by rw [← key i hi]; exact h i hi, fun h i hi => by rw [key i hi]; exact h i hi⟩
def sumV (ps : List Bt) (v : Nat) : Int := ((ps.filter fun p => decide (p.v = v)).map Bt.k).sum
theorem sumV_cons (p : Bt) (ps : List Bt) (v : Nat) : sumV (p :: ps) v = (if p.v = v then p.k else 0) + sumV ps v := by
  unfold sumV
  rw [List.filter_cons]
  by_cases h : p.v = v
  · rw [if_pos (decide_eq_true h), if_pos h, List.map_cons, List.sum_cons]
  · rw [if_neg (by simpa using h), if_neg h]; omega
def allP (g : Good) (ps : List Bt) : Bool := ps.all fun p => (g.price p.b p.v).isSome
def allV (g : Good) (n : Nat) (ps : List Bt) : Bool := (List.range n).all fun v => decide (sumV ps v = (g.day v).want)
theorem keyT (p : Bt) : cut [T.int p.m, .int p.b, .int p.v, .int p.k] none (some 3) = (keyI p).map .int := rfl
theorem numsKey (p : Bt) : nums ((keyI p).map T.int) = some (keyI p) := by
  have := nums_map (fun i : Int => i) (keyI p)
  simpa using this
theorem are_batches_no (ok : (Pl ls g).ok) {items : List T} (hk : ∀ t ∈ items, kd 1 t = true) (hl : items.length ≤ 1000) (hn : items.all (okB ls.length) = false) : dn_are_batches [eB (Pl ls g), .lst items] = .ok (.bl false) := by
  have c1 : ∀ v2 v3 v4 v5 v6 : Option (T × Bool), compL (gNm 7) dYes (dCall dn_is_batch (dCons (dVar 0) (dCons (dVar 7) dNil))) [some (eB (Pl ls g), false), some (.lst items, false), v2, v3, v4, v5, v6, none] items = .ok (items.map fun t => .bl (okB ls.length t)) := fun v2 v3 v4 v5 v6 => by
    have := compL_map (g := gNm 7) (c := dYes) (de := dCall dn_is_batch (dCons (dVar 0) (dCons (dVar 7) dNil))) (ev := [some (eB (Pl ls g), false), some (.lst items, false), v2, v3, v4, v5, v6, none]) (fun t : T => t) (fun t => .bl (okB ls.length t)) (xs := items) fun t ht => by
      rw [cturn_ap]
      have := is_batch_eq ok (hk t ht)
      generalize eB (Pl ls g) = E at *
      simp [this]
    rwa [List.map_id'] at this
  have b1 := bls_map (fun t => okB ls.length t) items
  have a1 : (items.map fun t => okB ls.length t).all id = false := by rw [List.all_map]; exact hn
  have l1 : (items.map fun t => T.bl (okB ls.length t)).length ≤ 1000 := by simpa using hl
  generalize (items.map fun t => T.bl (okB ls.length t)) = u1 at *
  generalize (items.map fun t => okB ls.length t) = u2 at *
  generalize eB (Pl ls g) = E at *
  rw [eq_are_batches]; unfold b_are_batches
  simp (disch := omega) [c1, b1, a1]
theorem are_batches_yes (ok : (Pl ls g).ok) {ps : List Bt} (hl : ps.length ≤ 1000) (hp : ∀ p ∈ ps, 1 ≤ p.k ∧ p.m < ls.length ∧ p.b < ls.length ∧ p.v < ls.length ∧ p.m ≤ p.b) : dn_are_batches [eB (Pl ls g), .lst (ps.map eT)] = .ok (.bl (adB ps && allP g ps)) := by
  have hn : ls.length ≤ 40 := ok.l2
  have gl : g.days.length = ls.length := (pl_g ok).1
  have hx2 : ixT (eB (Pl ls g)) (.int 2) = some (.lst [eG g]) := by simp [eB]
  have c1 : ∀ v2 v3 v4 v5 v6 : Option (T × Bool), compL (gNm 7) dYes (dCall dn_is_batch (dCons (dVar 0) (dCons (dVar 7) dNil))) [some (eB (Pl ls g), false), some (.lst (ps.map eT), false), v2, v3, v4, v5, v6, none] (ps.map eT) = .ok (ps.map fun _ => .bl true) := fun v2 v3 v4 v5 v6 => by
    apply compL_map
    intro p hpm
    rw [cturn_ap]
    obtain ⟨h1, h2, h3, h4, h5⟩ := hp p hpm
    have kk : kd 1 (eT p) = true := by unfold eT; rfl
    have ib := is_batch_eq ok kk
    have o : okB ls.length (eT p) = true := by
      unfold eT okB
      simp
      omega
    rw [o] at ib
    generalize eT p = tp at *
    generalize eB (Pl ls g) = E at *
    simp [ib]
  have b1 := bls_map (fun _ : Bt => true) ps
  have a1 : (ps.map fun _ => true).all id = true := by simp
  have l1 : (ps.map fun _ => T.bl true).length ≤ 1000 := by simpa using hl
  have L := forL_all (g := gNm 2) (body := b_are_batches_p1) (ev := [some (eB (Pl ls g), false), some (.lst (ps.map eT), false), none, none, none, none, none, none]) (fun i : Nat => T.int (1 + (i : Int))) (fun i => !lexLe (keyI (ps.getD (i + 1) ⟨0, 0, 0, 0⟩)) (keyI (ps.getD i ⟨0, 0, 0, 0⟩))) (xs := List.range (ps.length - 1)) (r := .bl false) fun i hi => by
    have hi := List.mem_range.mp hi
    have at1 : (ps.map eT)[i]? = some (eT (ps.getD i ⟨0, 0, 0, 0⟩)) := by rw [List.getElem?_map, List.getD_eq_getElem?_getD, List.getElem?_eq_getElem (by omega)]; rfl
    have at2 : (ps.map eT)[i + 1]? = some (eT (ps.getD (i + 1) ⟨0, 0, 0, 0⟩)) := by rw [List.getElem?_map, List.getD_eq_getElem?_getD, List.getElem?_eq_getElem (by omega)]; rfl
    have ax1 := atI_cast (ps.map eT) i
    have ax2 := atI_cast (ps.map eT) (i + 1)
    rw [at1] at ax1
    rw [at2] at ax2
    have ei : (1 : Int) + (i : Int) = ((i + 1 : Nat) : Int) := by omega
    have ei2 : ((i + 1 : Nat) : Int) - 1 = (i : Int) := by omega
    rw [ei]
    generalize ((i + 1 : Nat) : Int) = z at *
    generalize ps.getD (i + 1) ⟨0, 0, 0, 0⟩ = q at *
    generalize ps.getD i ⟨0, 0, 0, 0⟩ = p at *
    have n1 := numsKey p
    have n2 := numsKey q
    have k1 := keyT p
    have k2 := keyT q
    generalize ps.map eT = pT at *
    unfold eT at ax1 ax2
    generalize (keyI p).map T.int = kp at *
    generalize (keyI q).map T.int = kq at *
    unfold b_are_batches_p1
    cases hq : lexLe (keyI q) (keyI p) <;> simp (disch := omega) [ei2, ax1, ax2, k1, k2, n1, n2, hq]
  have c3 : ∀ v2 : Option (T × Bool), compL (gTp 4 (DL.gCons (gNm 3) (DL.gCons (gNm 4) (DL.gCons (gNm 5) (DL.gCons (gNm 6) DL.gNil))))) dYes (dCall dn_price_of (dCons (d2 ixT (d2 ixT (dVar 0) (dC (.int 2))) (dC (.int 0))) (dCons (dVar 4) (dCons (dVar 5) dNil)))) [some (eB (Pl ls g), false), some (.lst (ps.map eT), false), v2, none, none, none, none, none] (ps.map eT) = .ok (ps.map fun p => eO (g.price p.b p.v)) := fun v2 => by
    apply compL_map
    intro p hpm
    obtain ⟨h1, h2, h3, h4, h5⟩ := hp p hpm
    have pr := price_of_eq g p.b p.v (by omega) (by omega)
    rw [cturn_ap]
    generalize ps.map eT = pT at *
    generalize eB (Pl ls g) = E at *
    unfold eT
    generalize eG g = G at *
    generalize eO (g.price p.b p.v) = o at *
    simp [hx2, pr]
  have ni : ninT .non (.lst (ps.map fun p => eO (g.price p.b p.v))) = some (.bl (allP g ps)) := by
    have := ninT_non (ps.map fun p => g.price p.b p.v)
    rw [List.map_map] at this
    have e : (!decide (none ∈ ps.map fun p => g.price p.b p.v)) = allP g ps := by
      unfold allP
      rw [Bool.eq_iff_iff, List.all_eq_true]
      simp only [Bool.not_eq_true', decide_eq_false_iff_not, List.mem_map, not_exists, not_and]
      constructor
      · intro h p hpm
        cases q : g.price p.b p.v with
        | none => exact absurd q (h p hpm)
        | some x => rfl
      · intro h p hpm e
        have := h p hpm
        rw [e] at this; cases this
    rw [e] at this
    exact this
  have pl : (ps.map fun p => eO (g.price p.b p.v)).length ≤ 1000 := by simpa using hl
  have rl : ((ps.length : Int) - 1).toNat = ps.length - 1 := by omega
  have ll : (ps.map eT).length = ps.length := by simp
  have ch : ((List.range (ps.length - 1)).all fun i => !lexLe (keyI (ps.getD (i + 1) ⟨0, 0, 0, 0⟩)) (keyI (ps.getD i ⟨0, 0, 0, 0⟩))) = adB ps := by
    cases ps with
    | nil => rfl
    | cons p r =>
      show _ = chB p r
      rw [← ch_range p r]
      show (List.range r.length).all _ = _
      rw [Bool.eq_iff_iff, List.all_eq_true, List.all_eq_true]
      have e : ∀ j, j < (p :: r).length → (p :: r).getD j ⟨0, 0, 0, 0⟩ = (p :: r).getD j p := fun j hj => by
        rw [List.getD_eq_getElem?_getD, List.getD_eq_getElem?_getD, List.getElem?_eq_getElem hj]; rfl
      constructor
      · intro h i hi
        have hi' := List.mem_range.mp hi
        rw [← e _ (by simp; omega), ← e _ (by simp; omega)]; exact h i hi
      · intro h i hi
        have hi' := List.mem_range.mp hi
        rw [e _ (by simp; omega), e _ (by simp; omega)]; exact h i hi
  rw [ch] at L
  have gn := allP g ps
  generalize (ps.map fun p => eO (g.price p.b p.v)) = u3 at *
  generalize (ps.map fun _ => T.bl true) = u1 at *
  generalize (ps.map fun _ => true) = u2 at *
  generalize allP g ps = z at *
  generalize ps.map eT = pT at *
  generalize eB (Pl ls g) = E at *
  rw [eq_are_batches]; unfold b_are_batches
  cases hA : adB ps with
  | false =>
    rw [hA] at L
    simp at L
    simp (disch := omega) [c1, b1, a1, ll, rngF_eq, rl, L]
  | true =>
    rw [hA] at L
    simp at L
    simp (disch := omega) [c1, b1, a1, ll, rngF_eq, rl, L, c3, ni]
theorem fits_doughs_no {w : T} (lk : dn_look_at_doughs [eB (Pl ls g), w] = .ok .non) {t : T} (ha : dn_are_batches [eB (Pl ls g), t] = .ok (.bl false)) : dn_fits_doughs [eB (Pl ls g), w, t] = .ok (.bl false) := by
  rw [eq_fits_doughs]; unfold b_fits_doughs
  generalize eB (Pl ls g) = E at *
  simp [lk, ha]
theorem sumV_list (ps : List Bt) (v : Nat) : nums ((ps.filter fun p => decide (p.v = v)).map fun p => T.int p.k) = some ((ps.filter fun p => decide (p.v = v)).map Bt.k) := nums_map Bt.k _
theorem fits_doughs_yes (ok : (Pl ls g).ok) {w : T} (lk : dn_look_at_doughs [eB (Pl ls g), w] = .ok .non) {ps : List Bt} (hl : ps.length ≤ 1000) (hp : ∀ p ∈ ps, 1 ≤ p.k ∧ p.m < ls.length ∧ p.b < ls.length ∧ p.v < ls.length ∧ p.m ≤ p.b) :
    dn_fits_doughs [eB (Pl ls g), w, .lst (ps.map eT)] = .ok (.bl ((adB ps && allP g ps) && allV g ls.length ps)) := by
  have ab := are_batches_yes ok hl hp
  have hn : ls.length ≤ 40 := ok.l2
  have gl : g.days.length = ls.length := (pl_g ok).1
  have hx2 : ixT (eB (Pl ls g)) (.int 2) = some (.lst [eG g]) := by simp [eB]
  have gx : ixT (eG g) (.int 0) = some (.lst (g.days.map eD)) := by simp [eG]
  have dr := days_range g
  rw [gl] at dr
  have en : enumL (g.days.map eD) = (List.range ls.length).map fun k => .tup [.int k, eD (g.day k)] := by rw [dr, enum_range]
  have L := forL_all (g := gTp 2 (DL.gCons (gNm 3) (DL.gCons (gNm 4) DL.gNil))) (body := b_fits_doughs_p1) (ev := [some (eB (Pl ls g), false), some (w, false), some (.lst (ps.map eT), false), none, none, none, none, none, none]) (fun k : Nat => T.tup [.int k, eD (g.day k)]) (fun v => decide (sumV ps v = (g.day v).want)) (xs := List.range ls.length) (r := .bl false) fun v hv => by
    have c1 : ∀ v4 : Option (T × Bool), compL (gTp 4 (DL.gCons (gNm 5) (DL.gCons (gNm 6) (DL.gCons (gNm 7) (DL.gCons (gNm 8) DL.gNil))))) (dTest (d2 eqT (dVar 7) (dVar 3))) (dVar 8) [some (eB (Pl ls g), false), some (w, false), some (.lst (ps.map eT), false), some (.int v, false), v4, none, none, none, none] (ps.map eT) = .ok ((ps.filter fun p => decide (p.v = v)).map fun p => T.int p.k) := fun v4 => by
      apply compL_flt
      intro p _
      rw [cturn_ap]
      generalize ps.map eT = pT at *
      unfold eT
      by_cases c : p.v = v
      · simp [c]
      · have c' : ¬ (p.v : Int) = v := by omega
        simp [c, c']
    have nl : ((ps.filter fun p => decide (p.v = v)).map fun p => T.int p.k).length ≤ 1000 := by
      rw [List.length_map]
      have := List.length_filter_le (fun p : Bt => decide (p.v = v)) ps
      omega
    have ns := sumV_list ps v
    have sv : ((ps.filter fun p => decide (p.v = v)).map Bt.k).sum = sumV ps v := rfl
    have d0 := eD_0 (g.day v)
    generalize ((ps.filter fun p => decide (p.v = v)).map fun p => T.int p.k) = u1 at *
    generalize ((ps.filter fun p => decide (p.v = v)).map Bt.k) = u2 at *
    generalize sumV ps v = sv_ at *
    generalize ps.map eT = pT at *
    generalize eB (Pl ls g) = E at *
    generalize eD (g.day v) = dv at *
    unfold b_fits_doughs_p1
    by_cases c : sv_ = (g.day v).want
    · simp (disch := omega) [c1, ns, sv, d0, c]
    · simp (disch := omega) [c1, ns, sv, d0, c]
  have e0 : ((List.range ls.length).all fun v => decide (sumV ps v = (g.day v).want)) = allV g ls.length ps := rfl
  rw [e0] at L
  generalize (List.range ls.length).map (fun (k : Nat) => T.tup [.int k, eD (g.day k)]) = eTT at *
  generalize g.days.map eD = rows at *
  generalize ps.map eT = pT at *
  generalize eB (Pl ls g) = E at *
  generalize eG g = G at *
  rw [eq_fits_doughs]; unfold b_fits_doughs
  cases hA : (adB ps && allP g ps) with
  | false =>
    rw [hA] at ab
    simp [lk, ab]
  | true =>
    rw [hA] at ab
    cases hV : allV g ls.length ps with
    | false => rw [hV] at L; simp at L; simp [lk, ab, hx2, gx, en, L]
    | true => rw [hV] at L; simp at L; simp [lk, ab, hx2, gx, en, L]
def leftT (n : Nat) (L : Nat → Int) : T := .lst ((List.range n).map fun v => T.int (L v))
def chK (K : List Int) : List Bt → Bool
  | [] => true
  | p :: r => !lexLe (keyI p) K && chB p r
theorem chK_key (p : Bt) (r : List Bt) : chK (keyI p) r = chB p r := by cases r <;> rfl
def lastK (K : List Int) : List Bt → List Int
  | [] => K
  | p :: r => lastK (keyI p) r
theorem law_turn (ok : (Pl ls g).ok) (x : T) (K : List Int) (L : Nat → Int) {p : Bt} (hp : 1 ≤ p.k ∧ p.m < ls.length ∧ p.b < ls.length ∧ p.v < ls.length ∧ p.m ≤ p.b) :
    turn (gNm 4) b__law_fits_2_p1 (eT p) [some (eB (Pl ls g), false), some (x, false), some (leftT ls.length L, true), some (.tup (K.map .int), false), none, none] =
      if ((g.price p.b p.v).isSome && !lexLe (keyI p) K) = true then .nx [some (eB (Pl ls g), false), some (x, false), some (leftT ls.length (fun v => L v - if p.v = v then p.k else 0), true), some (.tup ((keyI p).map .int), false), none, none] else .rt (.bl false) := by
  obtain ⟨h1, h2, h3, h4, h5⟩ := hp
  have kk : kd 1 (eT p) = true := by unfold eT; rfl
  have ib := law_is_batch_eq ok kk
  have o : okB ls.length (eT p) = true := by
    unfold eT okB
    simp
    omega
  have pr : prB g (eT p) = (g.price p.b p.v).isSome := by
    show (g.price ((p.b : Int)).toNat ((p.v : Int)).toNat).isSome = _
    rw [Int.toNat_natCast, Int.toNat_natCast]
  rw [o, pr, Bool.true_and] at ib
  have n1 := numsKey p
  have n2 : nums (K.map T.int) = some K := by simpa using nums_map (fun i : Int => i) K
  have k1 := keyT p
  have at_ : ((List.range ls.length).map fun v => T.int (L v))[p.v]? = some (.int (L p.v)) := range_at _ h4
  have ll : ((List.range ls.length).map fun v => T.int (L v)).length = ls.length := by simp
  have st : ((List.range ls.length).map fun v => T.int (L v)).set p.v (.int (L p.v - p.k)) = (List.range ls.length).map fun v => T.int (L v - if p.v = v then p.k else 0) := by
    rw [set_range]
    apply List.map_congr_left
    intro v _
    by_cases c : v = p.v
    · rw [if_pos c, if_pos c.symm, c]
    · rw [if_neg c, if_neg fun z => c z.symm, Int.sub_zero]
  have fx := fun u ev => flSetIx_in (i := 2) (ts := (List.range ls.length).map fun v => T.int (L v)) (j := p.v) (u := u) (ev := ev) (by omega)
  unfold leftT
  rw [← st]
  generalize ((List.range ls.length).map fun v => T.int (L v)) = xs at *
  generalize eB (Pl ls g) = E at *
  unfold eT at ib ⊢
  generalize (keyI p).map T.int = kp at *
  generalize K.map T.int = kK at *
  generalize L p.v = lv at *
  unfold b__law_fits_2_p1
  cases hq : (g.price p.b p.v).isSome with
  | false =>
    rw [hq] at ib
    simp (disch := omega) [ib]
  | true =>
    rw [hq] at ib
    cases hz : lexLe (keyI p) K <;> simp (disch := omega) [ib, k1, n1, n2, hz, at_, fx, -getElem?_pos]
theorem law_loop_yes (ok : (Pl ls g).ok) (x : T) : ∀ (ps : List Bt) (K : List Int) (L : Nat → Int), (∀ p ∈ ps, 1 ≤ p.k ∧ p.m < ls.length ∧ p.b < ls.length ∧ p.v < ls.length ∧ p.m ≤ p.b) →
    forL (gNm 4) b__law_fits_2_p1 (ps.map eT) [some (eB (Pl ls g), false), some (x, false), some (leftT ls.length L, true), some (.tup (K.map .int), false), none, none] =
      if (allP g ps && chK K ps) = true then .nx [some (eB (Pl ls g), false), some (x, false), some (leftT ls.length (fun v => L v - sumV ps v), true), some (.tup ((lastK K ps).map .int), false), none, none] else .rt (.bl false)
  | [], K, L, _ => by
    have : (fun v => L v - sumV [] v) = L := by funext v; show L v - 0 = L v; omega
    rw [this]; rfl
  | p :: r, K, L, hp => by
    rw [List.map_cons, forL_cons, law_turn ok x K L (hp p (by simp))]
    have e1 : allP g (p :: r) = ((g.price p.b p.v).isSome && allP g r) := rfl
    have e2 : chK K (p :: r) = (!lexLe (keyI p) K && chB p r) := rfl
    rw [e1, e2]
    have ih := law_loop_yes ok x r (keyI p) (fun v => L v - if p.v = v then p.k else 0) fun q hq => hp q (by simp [hq])
    rw [chK_key] at ih
    have e3 : (fun v => (L v - if p.v = v then p.k else 0) - sumV r v) = fun v => L v - sumV (p :: r) v := by
      funext v; rw [sumV_cons]; omega
    rw [e3] at ih
    have e4 : lastK K (p :: r) = lastK (keyI p) r := rfl
    rw [e4]
    cases (g.price p.b p.v).isSome with
    | false => rfl
    | true =>
      cases lexLe (keyI p) K with
      | true =>
        rw [if_neg (by simp), if_neg (by simp)]
      | false =>
        rw [if_pos (by simp)]
        show forL _ _ _ _ = _
        rw [ih]
        simp
theorem law_loop_no (ok : (Pl ls g).ok) (x : T) : ∀ (items : List T) (K : List Int) (L : Nat → Int), (∀ t ∈ items, kd 1 t = true) → items.all (okB ls.length) = false →
    forL (gNm 4) b__law_fits_2_p1 items [some (eB (Pl ls g), false), some (x, false), some (leftT ls.length L, true), some (.tup (K.map .int), false), none, none] = .rt (.bl false)
  | [], K, L, _, h => by cases h
  | t :: r, K, L, hk, h => by
    rw [forL_cons]
    cases ho : okB ls.length t with
    | true =>
      obtain ⟨p, rfl, hp⟩ := okB_is ho
      rw [law_turn ok x K L hp]
      by_cases c : ((g.price p.b p.v).isSome && !lexLe (keyI p) K) = true
      · rw [if_pos c]
        rw [List.all_cons, ho, Bool.true_and] at h
        exact law_loop_no ok x r (keyI p) _ (fun u hu => hk u (by simp [hu])) h
      · rw [if_neg c]
    | false =>
      have ib := law_is_batch_eq ok (hk t (by simp))
      rw [ho, Bool.false_and] at ib
      have : turn (gNm 4) b__law_fits_2_p1 t [some (eB (Pl ls g), false), some (x, false), some (leftT ls.length L, true), some (.tup (K.map .int), false), none, none] = .rt (.bl false) := by
        generalize leftT ls.length L = l at *
        generalize eB (Pl ls g) = E at *
        unfold b__law_fits_2_p1
        simp [ib]
      rw [this]
theorem law_fits_list (ok : (Pl ls g).ok) {items : List T} (hk : ∀ t ∈ items, kd 1 t = true) : (items.all (okB ls.length) = false → dn__law_fits_2 [eB (Pl ls g), .lst items] = .ok (.bl false)) ∧
    ∀ ps : List Bt, items = ps.map eT → (∀ p ∈ ps, 1 ≤ p.k ∧ p.m < ls.length ∧ p.b < ls.length ∧ p.v < ls.length ∧ p.m ≤ p.b) → dn__law_fits_2 [eB (Pl ls g), .lst items] = .ok (.bl ((adB ps && allP g ps) && allV g ls.length ps)) := by
  have hn : ls.length ≤ 40 := ok.l2
  have gl : g.days.length = ls.length := (pl_g ok).1
  have hx2 : ixT (eB (Pl ls g)) (.int 2) = some (.lst [eG g]) := by simp [eB]
  have gx : ixT (eG g) (.int 0) = some (.lst (g.days.map eD)) := by simp [eG]
  have dr := days_range g
  rw [gl] at dr
  have c1 : ∀ v1 : Option (T × Bool), compL (gNm 5) dYes (d2 ixT (dVar 5) (dC (.int 0))) [some (eB (Pl ls g), false), v1, none, none, none, none] (g.days.map eD) = .ok ((List.range ls.length).map fun v => T.int (g.day v).want) := fun v1 => by
    rw [dr]
    apply compL_map
    intro v _
    have d0 := eD_0 (g.day v)
    rw [cturn_ap]
    generalize eD (g.day v) = dv at *
    simp [d0]
  have im : isMut (leftT ls.length fun v => (g.day v).want) = true := rfl
  have nx : (((List.range ls.length).map fun v => T.int (g.day v).want)).length ≤ 100 := by simp; omega
  have ng : negT (.int 1) = some (.int (-1)) := rfl
  constructor
  · intro hno
    have L := law_loop_no ok (.lst items) items [-1, 0, 0] (fun v => (g.day v).want) hk hno
    simp only [List.map_cons, List.map_nil, leftT] at L
    generalize ((List.range ls.length).map fun v => T.int (g.day v).want) = l at *
    generalize eB (Pl ls g) = E at *
    generalize g.days.map eD = rows at *
    generalize eG g = G at *
    rw [eq__law_fits_2]; unfold b__law_fits_2
    simp (disch := omega) [hx2, gx, c1, L]
  · intro ps hi hp
    subst hi
    have L := law_loop_yes ok (.lst (ps.map eT)) ps [-1, 0, 0] (fun v => (g.day v).want) hp
    have ck : chK [-1, 0, 0] ps = adB ps := by
      cases ps with
      | nil => rfl
      | cons p r =>
        show (!lexLe (keyI p) [-1, 0, 0] && chB p r) = chB p r
        have : lexLe (keyI p) [-1, 0, 0] = false := by
          unfold keyI lexLe
          rw [if_neg (by omega)]
          exact decide_eq_false (by omega)
        rw [this]; rfl
    rw [ck] at L
    have fin_ : eqT (.lst ((List.range ls.length).map fun v => T.int ((g.day v).want - sumV ps v))) (.lst (List.replicate ls.length (T.int 0))) = some (.bl (allV g ls.length ps)) := by
      have e1 : ((List.range ls.length).map fun v => T.int ((g.day v).want - sumV ps v)) = ((List.range ls.length).map fun v => (g.day v).want - sumV ps v).map .int := by rw [List.map_map]; rfl
      have e2 : List.replicate ls.length (T.int 0) = ((List.range ls.length).map fun _ => (0 : Int)).map .int := by
        rw [List.map_map]
        show _ = (List.range ls.length).map fun _ => T.int 0
        rw [List.map_const', List.length_range]
      rw [e1, e2, eqT_ints]
      congr 2
      unfold allV
      rw [Bool.eq_iff_iff, decide_eq_true_iff, List.all_eq_true]
      constructor
      · intro h v hv
        have hv := List.mem_range.mp hv
        have := congrArg (fun l : List Int => l[v]?) h
        simp [List.getElem?_map, List.getElem?_range hv] at this
        exact decide_eq_true (by omega)
      · intro h
        apply List.map_congr_left
        intro v hv
        have := of_decide_eq_true (h v hv)
        omega
    have rep : mulT (.lst [T.int 0]) (.int ls.length) = some (.lst (List.replicate ls.length (T.int 0))) := by
      rw [mulT_lk (by omega) (by rw [Int.toNat_natCast, List.length_singleton]; omega), Int.toNat_natCast, List.flatten_replicate_singleton]
    have ll : ((List.range ls.length).map fun v => T.int ((g.day v).want - sumV ps v)).length = ls.length := by simp
    have nrep : (List.replicate ls.length (T.int 0)).length ≤ 100 := by rw [List.length_replicate]; omega
    simp only [List.map_cons, List.map_nil, leftT] at L
    generalize ((List.range ls.length).map fun v => T.int (g.day v).want) = l at *
    generalize ((List.range ls.length).map fun v => T.int ((g.day v).want - sumV ps v)) = l2 at *
    generalize (lastK [-1, 0, 0] ps).map T.int = lk at *
    generalize eB (Pl ls g) = E at *
    generalize g.days.map eD = rows at *
    generalize eG g = G at *
    generalize ps.map eT = pT at *
    rw [eq__law_fits_2]; unfold b__law_fits_2
    cases hA : adB ps with
    | false =>
      rw [hA, Bool.and_false] at L
      simp at L
      simp (disch := omega) [hx2, gx, c1, L]
    | true =>
      cases hP : allP g ps with
      | false =>
        rw [hA, hP] at L
        simp at L
        simp (disch := omega) [hx2, gx, c1, L]
      | true =>
        rw [hA, hP] at L
        simp at L
        simp (disch := omega) [hx2, gx, c1, L, ll, rep, fin_]
end
end Pg
set_option maxHeartbeats 4000000
namespace Pg
open PySem L2 DL BK
def fV (v : Nat) : List Int → Bool := fun k => decide (k.getD 2 0 = v)
theorem fV_k (m b v w : Nat) : fV w (kpT m b v) = decide (v = w) := by
  unfold fV kpT
  show decide ((v : Int) = w) = _
  exact decide_eq_decide.mpr (by omega)
section
variable {g : Good} {n : Nat}
theorem batch_turnS (hn : n ≤ 40) {v : Nat} (hv : v < n) (gk : g.ok n) {kvs : List (List Int × Int)} {mx : Nat} (h : KvOk g n kvs mx) (hmx : mx ≤ 100) {x : Nat → Int} (hx : ∀ i, i < 4 → 0 ≤ x i) {t : Nat} (ht : t = 0 ∨ t = 2) {many : Int} (hm : 0 ≤ many ∧ many ≤ 1000000000) (v0 v1 v2 v4 v5 v7 v8 v11 : Option (T × Bool)) (x4 : T) :
    ∃ kvs', turn (gTp 2 (DL.gCons (gNm 12) (DL.gCons (gNm 13) DL.gNil))) b__law_batches_p1 (.tup [.int t, .int many]) [v0, v1, v2, some (tkD kvs, true), v4, v5, some (.int v, false), v7, v8, some (.lst [.int (x 0), .int (x 1), .int (x 2), .int (x 3), x4], false), some (.lst (dkT (thereL g n v)), false), v11, none, none, none, none]
      = .nx [v0, v1, v2, some (tkD kvs', true), v4, v5, some (.int v, false), v7, v8, some (.lst [.int (x 0), .int (x 1), .int (x 2), .int (x 3), x4], false), some (.lst (dkT (thereL g n v)), false), v11, none, none, none, none] ∧ KvOk g n kvs' (mx + 1) ∧ ∀ w, sumF (fV w) kvs' = sumF (fV w) kvs + if v = w then many else 0 := by
  have tp := there_pos gk hv
  have tl : (dkT (thereL g n v)).length = (thereL g n v).length := by unfold dkT; rw [List.length_map]
  have e1 : 0 ≤ x t % ((thereL g n v).length : Int) := Int.emod_nonneg _ (by omega)
  have e2 : x t % ((thereL g n v).length : Int) < (thereL g n v).length := Int.emod_lt_of_pos _ (by omega)
  obtain ⟨j, hj⟩ : ∃ j : Nat, x t % ((thereL g n v).length : Int) = j := ⟨(x t % ((thereL g n v).length : Int)).toNat, by omega⟩
  have hjl : j < (thereL g n v).length := by omega
  obtain ⟨b, hb⟩ : ∃ b, (thereL g n v)[j] = b := ⟨_, rfl⟩
  have bm : b ∈ thereL g n v := by rw [← hb]; exact List.getElem_mem hjl
  obtain ⟨bn, bp⟩ := List.mem_filter.mp bm
  have bn := List.mem_range.mp bn
  obtain ⟨pr, hpr⟩ := Option.isSome_iff_exists.mp bp
  have at_ : (dkT (thereL g n v))[j]? = some (.int b) := by
    unfold dkT
    rw [List.getElem?_map, List.getElem?_eq_getElem hjl, hb]; rfl
  have f1 : 0 ≤ x (t + 1) % ((b : Int) + 1) := Int.emod_nonneg _ (by omega)
  have f2 : x (t + 1) % ((b : Int) + 1) < (b : Int) + 1 := Int.emod_lt_of_pos _ (by omega)
  obtain ⟨m, hmm⟩ : ∃ m : Nat, x (t + 1) % ((b : Int) + 1) = m := ⟨(x (t + 1) % ((b : Int) + 1)).toNat, by omega⟩
  have mb : m ≤ b := by omega
  have xt : atI [T.int (x 0), .int (x 1), .int (x 2), .int (x 3), x4] (t : Int) = some (.int (x t)) := by
    rcases ht with rfl | rfl <;> rfl
  have xt1 : atI [T.int (x 0), .int (x 1), .int (x 2), .int (x 3), x4] ((t : Int) + 1) = some (.int (x (t + 1))) := by
    rcases ht with rfl | rfl <;> rfl
  have g2 := get2_tk (kvs := kvs) (k := kpT m b v) (n := 0)
  have pt := fun ev => flDPutT_tk (i := 3) (kvs := kvs) (k := kpT m b v) (n := (getI kvs (kpT m b v)).getD 0 + many) (ev := ev) (by have := h.ln; omega)
  have ek : (kpT m b v).map T.int = [.int m, .int b, .int v] := rfl
  rw [ek] at g2 pt
  by_cases c : 0 < many
  · refine ⟨putI kvs (kpT m b v) ((getI kvs (kpT m b v)).getD 0 + many), ?_, kv_put h mb bn hv ⟨pr, hpr⟩ ⟨c, hm.2⟩, fun w => (by rw [put_add h.nd, sumF_add, fV_k]; simp only [decide_eq_true_eq])⟩
    generalize putI kvs (kpT m b v) ((getI kvs (kpT m b v)).getD 0 + many) = kvs2 at *
    generalize (getI kvs (kpT m b v)).getD 0 = gv at *
    generalize tkD kvs = D at *
    generalize tkD kvs2 = D2 at *
    generalize hL : [T.int (x 0), .int (x 1), .int (x 2), .int (x 3), x4] = xs at *
    generalize dkT (thereL g n v) = th at *
    unfold b__law_batches_p1
    simp (disch := omega) [xt, xt1, tl, hj, at_, hmm, c, g2, pt, -getElem?_pos]
  · have m0 : many = 0 := by omega
    refine ⟨kvs, ?_, ⟨h.nd, by have := h.ln; omega, h.ky, fun kv hkv => by have := h.vl kv hkv; omega⟩, fun w => (by rw [m0]; simp)⟩
    generalize tkD kvs = D at *
    generalize hL : [T.int (x 0), .int (x 1), .int (x 2), .int (x 3), x4] = xs at *
    generalize dkT (thereL g n v) = th at *
    unfold b__law_batches_p1
    simp (disch := omega) [xt, xt1, tl, hj, at_, hmm, c, -getElem?_pos]
theorem sum_keysB (f : List Int → Bool) (q : Bt → Bool) : ∀ kvs kvs0 : List (List Int × Int), (∀ kv ∈ kvs, (decB kvs0 kv.1).k = kv.2 ∧ q (decB kvs0 kv.1) = f kv.1) → (((kvs.map fun kv => decB kvs0 kv.1).filter q).map Bt.k).sum = sumF f kvs
  | [], _, _ => rfl
  | kv :: r, kvs0, h => by
    obtain ⟨h1, h2⟩ := h kv (by simp)
    have ih := sum_keysB f q r kvs0 fun x hx => h x (List.mem_cons_of_mem _ hx)
    unfold sumF
    rw [List.map_cons, List.filter_cons, h2]
    by_cases c : f kv.1 = true
    · rw [if_pos c, if_pos c, List.map_cons, List.sum_cons, ih, h1]
    · rw [if_neg c, if_neg c, ih, Int.zero_add]
theorem pw_ch : ∀ (p : Bt) (r : List Bt), (p :: r).Pairwise (fun p q => lexLe (keyI q) (keyI p) = false) → chB p r = true
  | p, [], _ => rfl
  | p, q :: r, h => by
    obtain ⟨h1, h2⟩ := List.pairwise_cons.mp h
    show (!lexLe (keyI q) (keyI p) && chB q r) = true
    rw [h1 q (by simp), pw_ch q r h2]; rfl
theorem pw_ad (ps : List Bt) (h : ps.Pairwise fun p q => lexLe (keyI q) (keyI p) = false) : adB ps = true := by
  cases ps with
  | nil => rfl
  | cons p r => exact pw_ch p r h
theorem law_batches_ok2 {S : T} {ns : List Int} (hS : Scr S ns) (hn : n ≤ 40) (gk : g.ok n) (salt : Int) (hs : -800000 ≤ salt ∧ salt ≤ 800000) :
    ∃ P : List Bt, dn__law_batches [S, .int salt, eG g] = .ok (.lst (P.map eT)) ∧ P.length ≤ 80 ∧ (∀ p ∈ P, 1 ≤ p.k ∧ p.k ≤ 80000000000 ∧ p.m < n ∧ p.b < n ∧ p.v < n ∧ p.m ≤ p.b) ∧ allP g P = true ∧ adB P = true ∧ allV g n P = true := by
  have gl : g.days.length = n := gk.1
  have dr := days_range g
  rw [gl] at dr
  have en : enumL (g.days.map eD) = (List.range n).map fun k => .tup [.int k, eD (g.day k)] := by rw [dr, enum_range]
  have dl : (g.days.map eD).length = n := by simp [gl]
  have hG : eG g = .tup [.lst (g.days.map eD), eO g.life] := rfl
  obtain ⟨kvs, F, K, KS⟩ := forL_inv (g := gTp 2 (DL.gCons (gNm 6) (DL.gCons (gNm 7) DL.gNil))) (body := b__law_batches_p2) (σ := List (List Int × Int)) (fun (k : Nat) => .tup [.int k, eD (g.day k)]) (fun kvs => [some (S, false), some (.int salt, false), some (eG g, false), some (tkD kvs, true), some (.lst (g.days.map eD), false), some (eO g.life, false), none, none, none, none, none, none, none, none, none, none])
    (fun k kvs => KvOk g n kvs (2 * k) ∧ ∀ w, sumF (fV w) kvs = if w < k then (g.day w).want else 0) (n := n) (s0 := []) ⟨⟨List.nodup_nil, Nat.le_refl _, (fun kv h => by cases h), fun kv h => by cases h⟩, fun w => (by rw [if_neg (by omega)]; rfl)⟩ fun v kvs hv ⟨h, hS0⟩ => by
      obtain ⟨w1, w2, _⟩ := day_ok gk hv
      have ck : dn__law_cell_at [S, .int (1 + (v : Int))] = .ok (.int (cel ns (1 + v))) := hS.cell (1 + v)
      obtain ⟨d, hl⟩ := later2_ok (cel ns (1 + v))
      obtain ⟨x, nk, hx, hx4⟩ := numbers5 d (salt + v) 1000000001 (by omega) (by omega)
      have p1 : 0 ≤ x 4 % ((g.day v).want + 1) := Int.emod_nonneg _ (by omega)
      have p2 : x 4 % ((g.day v).want + 1) < (g.day v).want + 1 := Int.emod_lt_of_pos _ (by omega)
      obtain ⟨part, hpart⟩ : ∃ p, x 4 % ((g.day v).want + 1) = p := ⟨_, rfl⟩
      rw [hpart] at p1 p2
      have T1 := batch_turnS (by omega) hv gk h (by omega) hx (t := 0) (.inl rfl) (many := (g.day v).want - part) (by omega) (some (S, false)) (some (.int salt, false)) (some (eG g, false)) (some (.lst (g.days.map eD), false)) (some (eO g.life, false)) (some (eD (g.day v), false)) (some (.int d, false)) (some (.int part, false)) (.int (x 4))
      obtain ⟨kvs1, t1, h1, s1⟩ := T1
      have T2 := batch_turnS (by omega) hv gk h1 (by omega) hx (t := 2) (.inr rfl) (many := part) (by omega) (some (S, false)) (some (.int salt, false)) (some (eG g, false)) (some (.lst (g.days.map eD), false)) (some (eO g.life, false)) (some (eD (g.day v), false)) (some (.int d, false)) (some (.int part, false)) (.int (x 4))
      obtain ⟨kvs2, t2, h2, s2⟩ := T2
      refine ⟨kvs2, ?_, (by have e : 2 * v + 1 + 1 = 2 * (v + 1) := by omega
                            rw [← e]; exact h2), fun w => ?_⟩
      rotate_left
      · rw [s2, s1, hS0]
        by_cases c : v = w
        · subst c
          rw [if_neg (by omega), if_pos rfl, if_pos rfl, if_pos (by omega)]; omega
        · rw [if_neg c, if_neg c]
          by_cases q : w < v
          · rw [if_pos q, if_pos (by omega)]; omega
          · rw [if_neg q, if_neg (by omega)]; omega
      have cm : ∀ v3 v8 v9 v10 v11 : Option (T × Bool), compL (gNm 14) (dTest (d1 notNonT (dCall dn__law_price (dCons (dVar 2) (dCons (dVar 14) (dCons (dVar 6) dNil)))))) (dVar 14) [some (S, false), some (.int salt, false), some (eG g, false), v3, some (.lst (g.days.map eD), false), some (eO g.life, false), some (.int v, false), some (eD (g.day v), false), v8, v9, v10, v11, none, none, none, none] ((List.range n).map fun (i : Nat) => T.int (i : Int)) = .ok (dkT (thereL g n v)) := fun v3 v8 v9 v10 v11 => by
        unfold dkT thereL
        apply compL_flt
        intro b hb
        have hb := List.mem_range.mp hb
        have lp := law_price_eq g b v (by omega) (by omega)
        rw [cturn_ap]
        generalize eG g = G at *
        cases q : g.price b v with
        | none => rw [q] at lp; simp only [eO_none] at lp; simp [lp, notNonT, q]
        | some y => rw [q] at lp; simp only [eO_some] at lp; simp [lp, notNonT, q]
      have tz : (dkT (thereL g n v)).length ≤ 100 := by
        unfold dkT thereL
        rw [List.length_map]
        have := List.length_filter_le (fun b => (g.price b v).isSome) (List.range n)
        rw [List.length_range] at this; omega
      have t1 : turn (gTp 2 (DL.gCons (gNm 12) (DL.gCons (gNm 13) DL.gNil))) b__law_batches_p1 (.tup [.int 0, .int ((g.day v).want - part)]) _ = _ := t1
      have t2 : turn (gTp 2 (DL.gCons (gNm 12) (DL.gCons (gNm 13) DL.gNil))) b__law_batches_p1 (.tup [.int 2, .int part]) _ = _ := t2
      have d0 := eD_0 (g.day v)
      generalize tkD kvs = D0 at *
      generalize tkD kvs1 = D1 at *
      generalize tkD kvs2 = D2 at *
      generalize dkT (thereL g n v) = th at *
      generalize eD (g.day v) = dv at *
      generalize g.days.map eD = rows at *
      generalize eO g.life = lf at *
      generalize eG g = G at *
      have FL : forL (gTp 2 (DL.gCons (gNm 12) (DL.gCons (gNm 13) DL.gNil))) b__law_batches_p1 [.tup [.int 0, .int ((g.day v).want - part)], .tup [.int 2, .int part]] [some (S, false), some (.int salt, false), some (G, false), some (D0, true), some (.lst rows, false), some (lf, false), some (.int v, false), some (dv, false), some (.int d, false), some (.lst [.int (x 0), .int (x 1), .int (x 2), .int (x 3), .int (x 4)], false), some (.lst th, false), some (.int part, false), none, none, none, none] = .nx [some (S, false), some (.int salt, false), some (G, false), some (D2, true), some (.lst rows, false), some (lf, false), some (.int v, false), some (dv, false), some (.int d, false), some (.lst [.int (x 0), .int (x 1), .int (x 2), .int (x 3), .int (x 4)], false), some (.lst th, false), some (.int part, false), none, none, none, none] := by
        rw [forL_cons, t1]
        show forL _ _ [_] _ = _
        rw [forL_cons, t2]
        rfl
      unfold b__law_batches_p2
      simp (disch := omega) [ck, hl, nk, dl, rngT_eq, cm, d0, hpart, FL]
  have sz : kvs.length ≤ 80 := by have := K.ln; omega
  have ok := okT_kpT (ks := kvs.map Prod.fst) fun k hk => by
    obtain ⟨kv, hkv, rfl⟩ := List.mem_map.mp hk
    obtain ⟨m, b, v, e, h1, h2, h3, _⟩ := K.ky kv hkv
    exact ⟨m, b, v, e, by omega, by omega, by omega⟩
  have so := sortedDT_tk (kvs := kvs) (by omega) ok
  have pm := sortL_perm (kvs.map Prod.fst)
  have dec : ∀ k ∈ sortL (kvs.map Prod.fst), ∃ kv ∈ kvs, ∃ m b v : Nat, kv.1 = k ∧ k = kpT m b v ∧ decB kvs k = ⟨m, b, v, kv.2⟩ ∧ m ≤ b ∧ b < n ∧ v < n ∧ ∃ x, g.price b v = some x := fun k hk => by
    obtain ⟨kv, hkv, e⟩ := List.mem_map.mp (pm.mem_iff.mp hk)
    obtain ⟨m, b, v, e2, h1, h2, h3, h4⟩ := K.ky kv hkv
    refine ⟨kv, hkv, m, b, v, e, by rw [← e, e2], ?_, h1, h2, h3, h4⟩
    have gs := getI_some K.nd hkv
    rw [e] at gs
    unfold decB
    rw [gs]
    have ek : k = [(m : Int), (b : Int), (v : Int)] := by rw [← e, e2]; rfl
    rw [ek]
    simp
  have comp : ∀ v0 v1 v2 v4 v5 : Option (T × Bool), compL (gNm 15) dYes (d2 addT (dVar 15) (dTup (dCons (d2 dgetT (dVarW 3) (dVar 15)) dNil))) [v0, v1, v2, some (tkD kvs, true), v4, v5, none, none, none, none, none, none, none, none, none, none] ((sortL (kvs.map Prod.fst)).map fun (ks : List Int) => T.tup (ks.map .int)) = .ok ((sortL (kvs.map Prod.fst)).map fun k => eT (decB kvs k)) := fun v0 v1 v2 v4 v5 => by
    apply compL_map (fun (ks : List Int) => T.tup (ks.map .int))
    intro k hk
    obtain ⟨kv, hkv, m, b, v, e1, e2, e3, _⟩ := dec k hk
    have gs := getI_some K.nd hkv
    rw [e1] at gs
    have dg := dget_tk gs
    rw [cturn_ap, e3]
    subst e2
    have ek : (kpT m b v).map T.int = [.int m, .int b, .int v] := rfl
    rw [ek] at dg ⊢
    generalize tkD kvs = D at *
    unfold eT
    simp [dg]
  refine ⟨(sortL (kvs.map Prod.fst)).map (decB kvs), ?_, ?_, ?_, ?_, ?_, ?_⟩
  · have F : forL (gTp 2 (DL.gCons (gNm 6) (DL.gCons (gNm 7) DL.gNil))) b__law_batches_p2 ((List.range n).map fun (k : Nat) => .tup [.int k, eD (g.day k)]) [some (S, false), some (.int salt, false), some (eG g, false), some (.dit [], true), some (.lst (g.days.map eD), false), some (eO g.life, false), none, none, none, none, none, none, none, none, none, none] = .nx [some (S, false), some (.int salt, false), some (eG g, false), some (tkD kvs, true), some (.lst (g.days.map eD), false), some (eO g.life, false), none, none, none, none, none, none, none, none, none, none] := F
    rw [eq__law_batches, List.map_map]; unfold b__law_batches
    have sl : ((sortL (kvs.map Prod.fst)).map fun (ks : List Int) => T.tup (ks.map .int)).length ≤ 100 := by rw [List.length_map, pm.length_eq, List.length_map]; omega
    have sl2 : ((sortL (kvs.map Prod.fst)).map fun k => eT (decB kvs k)).length ≤ 100 := by rw [List.length_map, pm.length_eq, List.length_map]; omega
    have e : (sortL (kvs.map Prod.fst)).map (eT ∘ decB kvs) = (sortL (kvs.map Prod.fst)).map fun k => eT (decB kvs k) := rfl
    have im : isMut (.dit []) = true := rfl
    rw [e]
    rw [hG] at F ⊢
    generalize ((sortL (kvs.map Prod.fst)).map fun (ks : List Int) => T.tup (ks.map .int)) = u1 at *
    generalize ((sortL (kvs.map Prod.fst)).map fun k => eT (decB kvs k)) = u2 at *
    generalize (List.range n).map (fun (k : Nat) => T.tup [.int k, eD (g.day k)]) = eTT at *
    generalize tkD kvs = D at *
    generalize g.days.map eD = rows at *
    generalize eO g.life = lf at *
    simp (disch := omega) [im, en, F, so, comp]
  · rw [List.length_map, pm.length_eq, List.length_map]; exact sz
  · intro q hq
    obtain ⟨k, hk, rfl⟩ := List.mem_map.mp hq
    obtain ⟨kv, hkv, m, b, v, _, _, e3, h1, h2, h3, h4⟩ := dec k hk
    rw [e3]
    have := K.vl kv hkv
    exact ⟨by show 1 ≤ kv.2; omega, by show kv.2 ≤ _; omega, by show m < n; omega, h2, h3, h1⟩
  · unfold allP
    rw [List.all_eq_true]
    intro q hq
    obtain ⟨k, hk, rfl⟩ := List.mem_map.mp hq
    obtain ⟨kv, hkv, m, b, v, _, _, e3, h1, h2, h3, x, h4⟩ := dec k hk
    rw [e3]
    show (g.price b v).isSome = true
    rw [h4]; rfl
  · apply pw_ad
    rw [List.pairwise_map]
    have nd : (sortL (kvs.map Prod.fst)).Nodup := pm.nodup_iff.mpr K.nd
    refine List.Pairwise.imp_of_mem (fun {a b} ha hb h => ?_) (List.Pairwise.and (sortL_lex (kvs.map Prod.fst)) nd)
    obtain ⟨h1, h2⟩ := h
    obtain ⟨kv, hkv, m, b1, v, _, q2, e3, _⟩ := dec a ha
    obtain ⟨kv', hkv', m', b1', v', _, q2', e3', _⟩ := dec b hb
    rw [e3, e3']
    have k1 : keyI ⟨m, b1, v, kv.2⟩ = a := by rw [q2]; rfl
    have k2 : keyI ⟨m', b1', v', kv'.2⟩ = b := by rw [q2']; rfl
    rw [k1, k2]
    cases z : lexLe b a with
    | false => rfl
    | true => exact absurd (lexLe_anti (by rw [q2, q2']; rfl) h1 z) h2
  · unfold allV
    rw [List.all_eq_true]
    intro v hv
    have hv := List.mem_range.mp hv
    apply decide_eq_true
    have p1 : ((sortL (kvs.map Prod.fst)).map (decB kvs)).Perm (kvs.map fun kv => decB kvs kv.1) := by
      have := pm.map (decB kvs)
      rwa [List.map_map] at this
    have p2 := (p1.filter fun p => decide (p.v = v)).map Bt.k
    unfold sumV
    rw [perm_sum p2, sum_keysB (fV v) _ kvs kvs, KS, if_pos hv]
    intro kv hkv
    obtain ⟨m', b', v', e2, _⟩ := K.ky kv hkv
    have gs := getI_some K.nd hkv
    have e3 : decB kvs kv.1 = ⟨m', b', v', kv.2⟩ := by
      unfold decB
      rw [gs, e2]
      unfold kpT
      simp
    rw [e3, e2, fV_k]
    exact ⟨rfl, rfl⟩
end
end Pg
set_option maxHeartbeats 4000000
namespace DL
open PySem L2
theorem Sh.lst3 {a b c : T} {n wa wb wc : Nat} (ha : Sh a n wa) (hb : Sh b n wb) (hc : Sh c n wc) : Sh (.lst [a, b, c]) (n + 1) (wa + wb + wc + 8) where
  pl := by unfold plR plRs plRs plRs plRs; rw [ha.pl, hb.pl, hc.pl]; rfl
  sh := by unfold py pys pys pys pys PyData.showable PyData.showableAll PyData.showableAll PyData.showableAll PyData.showableAll; rw [ha.sh, hb.sh, hc.sh]; rfl
  dp := by
    unfold py pys pys pys pys PyData.depth PyData.depthAll PyData.depthAll PyData.depthAll PyData.depthAll
    have := ha.dp
    have := hb.dp
    have := hc.dp
    omega
  ln := by
    unfold py PyData.shown
    have h := listText_le (PyData.shownAll (pys [a, b, c]))
    have e : piled (PyData.shownAll (pys [a, b, c])) = ((py a).shown.length + 2) + (((py b).shown.length + 2) + (((py c).shown.length + 2) + 0)) := by
      unfold pys pys pys pys PyData.shownAll PyData.shownAll PyData.shownAll PyData.shownAll
      rw [piled_cons, piled_cons, piled_cons]; rfl
    have := ha.ln
    have := hb.ln
    have := hc.ln
    omega
theorem Sh.dic1 {i : Int} {t : T} {n w : Nat} (h : Sh t n w) (hi : i.natAbs < 10 ^ 100) : Sh (.dic [(.inl i, t)]) (n + 1) (w + 200) where
  pl := by unfold plR; exact h.pl
  sh := by
    have a := (Sh.int hi).sh
    unfold py PyData.showable PyData.showableKv PyData.showableKv
    have b := h.sh
    unfold py at a
    simp [a, b]
  dp := by
    have a := (Sh.int hi).dp
    unfold py at a
    unfold py PyData.depth PyData.depthKv PyData.depthKv
    have := h.dp
    omega
  ln := by
    have a := (Sh.int hi).ln
    unfold py at a
    have b := h.ln
    unfold py PyData.shown PyData.shownKv PyData.shownKv dictText
    have ej : ∀ x : Str, Str.join ", " [x] = x := fun x => by
      unfold Str.join
      simp
    rw [ej, strLen_append, strLen_append, strLen_append, strLen_append]
    have e1 : (Str.ofString "{").length = 1 := by decide
    have e2 : (Str.ofString "}").length = 1 := by decide
    have e3 : (Str.ofString ": ").length = 2 := by decide
    omega
end DL
namespace K61
open PySem L2 DL Pg BK
section
variable {ls : List Int} {g : Good} {ws : List Dw}
theorem pd_ws (hl : ws.length ≤ 40) (hw : ∀ w ∈ ws, w.ok) : Sh (.lst (ws.map eW)) 6 20000 := by
  have : Pd 2 12562 (.lst (ws.map eW)) := Pd.lstL (n := 1) (w := 312) (L := 40) (fun t ht => by
    obtain ⟨w, hw', rfl⟩ := List.mem_map.mp ht
    obtain ⟨⟨a1, a2⟩, ⟨b1, b2⟩, ⟨c1, c2⟩⟩ := hw w hw'
    exact Pd.tupL (n := 0) (w := 101) (L := 3) (fun t ht => by
      simp only [List.mem_cons, List.not_mem_nil, or_false] at ht
      rcases ht with rfl | rfl | rfl
      · exact Pd.int (small (by omega))
      · exact Pd.int (small (by omega))
      · exact Pd.int (small (by omega))) (by simp)) (by simp; omega)
  exact this.sh.mono (by omega) (by omega)
theorem fits_same (ok : (Pl ls g).ok) {w : T} (lk : dn_look_at_doughs [eB (Pl ls g), w] = .ok .non) {t : T} (ht : kd 2 t = true) : ∃ o, dn_fits_doughs [eB (Pl ls g), w, t] = .ok (.bl o) ∧ dn__law_fits_2 [eB (Pl ls g), t] = .ok (.bl o) := by
  by_cases hl : ∃ items, t = .lst items
  · obtain ⟨items, rfl⟩ := hl
    obtain ⟨l1, hk⟩ := kd_lst_iff.mp ht
    cases ha : items.all (okB ls.length) with
    | false => exact ⟨false, fits_doughs_no lk (are_batches_no ok hk l1 ha), (law_fits_list ok hk).1 ha⟩
    | true =>
      obtain ⟨ps, rfl, hp⟩ := all_is ha
      exact ⟨_, fits_doughs_yes ok lk (by simpa using l1) hp, (law_fits_list ok hk).2 ps rfl hp⟩
  · have nl : ∀ xs, t ≠ .lst xs := fun xs e => hl ⟨xs, e⟩
    refine ⟨false, fits_doughs_no lk ?_, ?_⟩
    · rw [eq_are_batches]; unfold b_are_batches
      generalize eB (Pl ls g) = E at *
      have kn := kd_kl ht
      cases t <;> first | (simp; done) | exact absurd rfl (nl _) | exact Bool.noConfusion kn
    · rw [eq__law_fits_2]; unfold b__law_fits_2
      generalize eB (Pl ls g) = E at *
      have kn := kd_kl ht
      cases t <;> first | (simp; done) | exact absurd rfl (nl _) | exact Bool.noConfusion kn
abbrev Th (t : T) : Prop := Pd 6 1000000 t
theorem right_any (ok : (Pl ls g).ok) (hl : ws.length = ls.length) (hw : ∀ w ∈ ws, w.ok) {t : T} (ht : Th t) : dn__law_right_14 [eB (Pl ls g), .lst (ws.map eW), t] = .ok (.bl true) := by
  have hn : ls.length ≤ 40 := ok.l2
  have lk := look_at_doughs_ok ok hl hw
  obtain ⟨o, h1, h2⟩ := fits_same ok lk (ht.kd 2)
  have rp : reprL [.lst [eB (Pl ls g), .lst (ws.map eW), t]] = some (.str (py (.lst [eB (Pl ls g), .lst (ws.map eW), t])).shown) := repr_of (Sh.lst3 (n := 6) (bakery_bk ok).sh (pd_ws (by omega) hw) ht.sh) (by decide) (by decide)
  generalize (py (.lst [eB (Pl ls g), .lst (ws.map eW), t])).shown = shw at *
  generalize ws.map eW = wT at *
  generalize eB (Pl ls g) = E at *
  rw [eq__law_right_14]; unfold b__law_right_14
  simp [rp, h1, h2]
theorem pd_text {i : Int} (h : i.natAbs < 10 ^ 100) : Pd 0 1012 (.str (toString i)) := by
  apply Pd.str
  show (reprText (Str.ofString (toString i))).length ≤ 1012
  have h1 := StrLaws.reprText_len (Str.ofString (toString i)) (fun c hc => by
    rw [Str.ofString_eq_toList] at hc
    obtain ⟨ch, _, rfl⟩ := List.mem_map.mp (show c ∈ (toString i).toList.map Char.toNat from hc)
    have := ch.val.toNat_lt
    show ch.val.toNat < 16 ^ 8
    omega)
  have h2 : (Str.ofString (toString i)).length ≤ 101 := by
    rw [ofString_length]
    exact int_text_length_le10 (k := 100) (by decide) h
  omega
abbrev It (t : T) : Prop := Pd 2 5000 t
def smallB (p : Bt) : Prop := p.m ≤ 1000 ∧ p.b ≤ 1000 ∧ p.v ≤ 1000 ∧ 1 ≤ p.k ∧ p.k ≤ 100000000000
theorem bent_batch_ok {p : Bt} (hp : smallB p) {x0 x1 x2 : Int} {r : List T} (h1 : 0 ≤ x1 ∧ x1 < 20) (h2 : 0 ≤ x2 ∧ x2 ≤ 1000000000) :
    ∃ t, dn__law_bent_batch [eT p, .lst (.int x0 :: .int x1 :: .int x2 :: r)] = .ok t ∧ It t ∧ (x1 < 6 → ∃ ks : List Int, ks.length = 4 ∧ t = .tup (ks.map .int)) := by
  obtain ⟨p1, p2, p3, p4, p5⟩ := hp
  rw [eq__law_bent_batch]; unfold b__law_bent_batch eT
  obtain ⟨f, hf, f1, f2⟩ : ∃ f, x2 % 8 - 1 = f ∧ -1 ≤ f ∧ f ≤ 7 := ⟨_, rfl, by omega, by omega⟩
  have st : strL [.int p.k] = some (.str (toString p.k)) := by
    show (if p.k.natAbs.log2 < 1920 then some (T.str (toString p.k)) else none) = _
    rw [if_pos]
    by_cases e : p.k.natAbs = 0
    · rw [e]; decide
    · exact (Nat.log2_lt e).mpr (Nat.lt_of_le_of_lt (show p.k.natAbs ≤ 100000000000 by omega) (by decide +kernel))
  have I : ∀ i : Int, -1000000000000 ≤ i ∧ i ≤ 1000000000000 → Pd 1 1012 (.int i) := fun i h => (Pd.int (Nat.lt_of_le_of_lt (show i.natAbs ≤ 1000000000000 by omega) (by decide +kernel))).mono
  have IL : ∀ i : Int, -1000000000000 ≤ i ∧ i ≤ 1000000000000 → Pd 1 1012 (.lst [.int i]) := fun i h => (Pd.lst (n := 0) (w := 101) (fun t ht => by
    rw [List.mem_singleton.mp ht]
    exact Pd.int (Nat.lt_of_le_of_lt (show i.natAbs ≤ 1000000000000 by omega) (by decide +kernel))) (by simp)).mono (by omega) (by simp)
  have Tu : ∀ ts : List T, ts.length ≤ 4 → (∀ t ∈ ts, Pd 1 1012 t) → It (.tup ts) := fun ts hl h => (Pd.tupL (n := 1) (w := 1012) (L := 4) (W := 4500) h hl).mono
  have T4 : ∀ a b c d : T, Pd 1 1012 a → Pd 1 1012 b → Pd 1 1012 c → Pd 1 1012 d → It (.tup [a, b, c, d]) := fun a b c d ha hb hc hd => Tu _ (by simp) fun t ht => by
    simp only [List.mem_cons, List.not_mem_nil, or_false] at ht
    rcases ht with rfl | rfl | rfl | rfl <;> assumption
  have Bl : ∀ b : Bool, Pd 1 1012 (.bl b) := fun b => (Pd.bl b).mono
  have St : Pd 1 1012 (.str (toString p.k)) := (pd_text (Nat.lt_of_le_of_lt (show p.k.natAbs ≤ 1000000000000 by omega) (by decide +kernel))).mono
  have s9 : ∀ z : Str, z = Str.ofString (toString p.k) → Pd 1 1012 (.str z) := fun z e => by rw [e]; exact St
  obtain ⟨z, hz⟩ : ∃ z : Str, z = Str.ofString (toString p.k) := ⟨_, rfl⟩
  have St := s9 z hz
  have st : strL [.int p.k] = some (.str z) := by rw [hz]; exact st
  clear hz s9
  obtain ⟨L, hL⟩ : ∃ L : List T, L = [.tup [.int p.m, .int p.b, .int p.v, .int (p.k + 1)], .tup [.int p.m, .int p.b, .int p.v, .int (p.k - 1)], .tup [.int f, .int p.b, .int p.v, .int p.k],
    .tup [.int p.m, .int f, .int p.v, .int p.k], .tup [.int p.m, .int p.b, .int f, .int p.k], .tup [.int ((p.b : Int) + 1), .int p.b, .int p.v, .int p.k],
    .tup [.int p.m, .int p.b, .int p.v, .bl true], .tup [.bl (decide ((p.m : Int) = 1)), .int p.b, .int p.v, .int p.k], .tup [.int p.m, .int p.b, .int p.v, .int (-p.k)],
    .lst [.int p.m, .int p.b, .int p.v, .int p.k], .tup [.int p.m, .int p.b, .int p.v], .tup [.int p.m, .int p.b, .int p.v, .int p.k, .int 1], .non, .tup [.int p.m, .int p.b, .int p.v, .str z],
    .tup [.non, .int p.b, .int p.v, .int p.k], .tup [.int p.m, .int p.b, .int p.v, .int 0], .tup [.lst [.int p.m], .int p.b, .int p.v, .int p.k],
    .tup [.int p.m, .lst [.int p.b], .int p.v, .int p.k], .tup [.int p.m, .int p.b, .dic [], .int p.k], .tup [.int p.m, .bl (decide ((p.b : Int) = 1)), .int p.v, .int p.k]] := ⟨_, rfl⟩
  obtain ⟨t, e, ht⟩ := pick_ok (P := It) (L := L) (i := x1) (n := 20) (by rw [hL]; rfl) h1.1 h1.2 fun t ht => by
    rw [hL] at ht
    simp only [List.mem_cons, List.not_mem_nil, or_false] at ht
    rcases ht with rfl | rfl | rfl | rfl | rfl | rfl | rfl | rfl | rfl | rfl | rfl | rfl | rfl | rfl | rfl | rfl | rfl | rfl | rfl | rfl
    · exact T4 _ _ _ _ (I _ (by omega)) (I _ (by omega)) (I _ (by omega)) (I _ (by omega))
    · exact T4 _ _ _ _ (I _ (by omega)) (I _ (by omega)) (I _ (by omega)) (I _ (by omega))
    · exact T4 _ _ _ _ (I _ (by omega)) (I _ (by omega)) (I _ (by omega)) (I _ (by omega))
    · exact T4 _ _ _ _ (I _ (by omega)) (I _ (by omega)) (I _ (by omega)) (I _ (by omega))
    · exact T4 _ _ _ _ (I _ (by omega)) (I _ (by omega)) (I _ (by omega)) (I _ (by omega))
    · exact T4 _ _ _ _ (I _ (by omega)) (I _ (by omega)) (I _ (by omega)) (I _ (by omega))
    · exact T4 _ _ _ _ (I _ (by omega)) (I _ (by omega)) (I _ (by omega)) (Bl _)
    · exact T4 _ _ _ _ (Bl _) (I _ (by omega)) (I _ (by omega)) (I _ (by omega))
    · exact T4 _ _ _ _ (I _ (by omega)) (I _ (by omega)) (I _ (by omega)) (I _ (by omega))
    · exact (Pd.lstL (n := 1) (w := 1012) (L := 4) (W := 4500) (fun t ht => by
        simp only [List.mem_cons, List.not_mem_nil, or_false] at ht
        rcases ht with rfl | rfl | rfl | rfl <;> exact I _ (by omega)) (by simp)).mono
    · exact Tu _ (by simp) fun t ht => by
        simp only [List.mem_cons, List.not_mem_nil, or_false] at ht
        rcases ht with rfl | rfl | rfl <;> exact I _ (by omega)
    · exact (Pd.tupL (n := 0) (w := 101) (L := 5) (W := 600) (fun t ht => by
        simp only [List.mem_cons, List.not_mem_nil, or_false] at ht
        rcases ht with rfl | rfl | rfl | rfl | rfl <;> exact Pd.int (Nat.lt_of_le_of_lt (m := 1000000000000) (by omega) (by decide +kernel))) (by simp)).mono
    · exact Pd.non.mono
    · exact T4 _ _ _ _ (I _ (by omega)) (I _ (by omega)) (I _ (by omega)) St
    · exact T4 _ _ _ _ Pd.non.mono (I _ (by omega)) (I _ (by omega)) (I _ (by omega))
    · exact T4 _ _ _ _ (I _ (by omega)) (I _ (by omega)) (I _ (by omega)) (I _ (by omega))
    · exact T4 _ _ _ _ (IL _ (by omega)) (I _ (by omega)) (I _ (by omega)) (I _ (by omega))
    · exact T4 _ _ _ _ (I _ (by omega)) (IL _ (by omega)) (I _ (by omega)) (I _ (by omega))
    · exact T4 _ _ _ _ (I _ (by omega)) (I _ (by omega)) Pd.dic.mono (I _ (by omega))
    · exact T4 _ _ _ _ (I _ (by omega)) (Bl _) (I _ (by omega)) (I _ (by omega))
  refine ⟨t, ?_, ht, fun h6 => ?_⟩
  · rw [hL] at e
    simp (disch := omega) [hf, st, e]
  · rw [hL] at e
    have : x1 = 0 ∨ x1 = 1 ∨ x1 = 2 ∨ x1 = 3 ∨ x1 = 4 ∨ x1 = 5 := by omega
    rcases this with rfl | rfl | rfl | rfl | rfl | rfl
    · exact ⟨[p.m, p.b, p.v, p.k + 1], rfl, (Option.some.inj e).symm⟩
    · exact ⟨[p.m, p.b, p.v, p.k - 1], rfl, (Option.some.inj e).symm⟩
    · exact ⟨[f, p.b, p.v, p.k], rfl, (Option.some.inj e).symm⟩
    · exact ⟨[p.m, f, p.v, p.k], rfl, (Option.some.inj e).symm⟩
    · exact ⟨[p.m, p.b, f, p.k], rfl, (Option.some.inj e).symm⟩
    · exact ⟨[(p.b : Int) + 1, p.b, p.v, p.k], rfl, (Option.some.inj e).symm⟩
theorem it_eT {p : Bt} (hp : smallB p) : It (eT p) := by
  obtain ⟨p1, p2, p3, p4, p5⟩ := hp
  unfold eT
  exact (Pd.tupL (n := 0) (w := 101) (L := 4) (W := 500) (fun t ht => by
    simp only [List.mem_cons, List.not_mem_nil, or_false] at ht
    rcases ht with rfl | rfl | rfl | rfl <;> exact Pd.int (Nat.lt_of_le_of_lt (m := 1000000000000) (by omega) (by decide +kernel))) (by simp)).mono
theorem th_lst {items : List T} (hl : items.length ≤ 90) (h : ∀ t ∈ items, It t) : Th (.lst items) := (Pd.lstL (n := 2) (w := 5000) (L := 90) (W := 500000) h hl).mono
theorem th_tup {items : List T} (hl : items.length ≤ 90) (h : ∀ t ∈ items, It t) : Th (.tup items) := (Pd.tupL (n := 2) (w := 5000) (L := 90) (W := 500000) h hl).mono
theorem th_dic {items : List T} (hl : items.length ≤ 90) (h : ∀ t ∈ items, It t) : Th (.dic [(.inl 0, .lst items)]) :=
  ⟨kd_leaf rfl (fun _ z => by cases z) (fun _ z => by cases z), (Sh.dic1 (Pd.lstL (n := 2) (w := 5000) (L := 90) (W := 500000) h hl).sh (by decide)).mono (by omega) (by omega)⟩
theorem mem_cut {xs : List T} {a b : Nat} {t u : T} {P : T → Prop} (hx : ∀ t ∈ xs, P t) (hu : P u) (h : t ∈ xs.take a ++ [u] ++ xs.drop b) : P t := by
  rcases List.mem_append.mp h with h | h
  · rcases List.mem_append.mp h with h | h
    · exact hx t (List.mem_of_mem_take h)
    · rw [List.mem_singleton.mp h]; exact hu
  · exact hx t (List.mem_of_mem_drop h)
theorem tups_of_ints : ∀ {xs : List T} , (∀ t ∈ xs, ∃ ks : List Int, ks.length = 4 ∧ t = .tup (ks.map .int)) → ∃ kss : List (List Int), tups xs = some kss ∧ kss.length = xs.length ∧ (∀ ks ∈ kss, ks.length = 4) ∧ xs = kss.map fun (ks : List Int) => T.tup (ks.map .int)
  | [], _ => ⟨[], rfl, rfl, (by simp), rfl⟩
  | t :: r, h => by
    obtain ⟨kss, e1, e2, e3, e4⟩ := tups_of_ints (xs := r) fun u hu => h u (by simp [hu])
    obtain ⟨ks, k1, rfl⟩ := h t (by simp)
    have nk : nums (ks.map T.int) = some ks := by simpa using nums_map (fun i : Int => i) ks
    refine ⟨ks :: kss, ?_, by simp [e2], fun q hq => ?_, by rw [List.map_cons, ← e4]⟩
    · show (match nums (ks.map T.int), tups r with
        | some a, some b => some (a :: b)
        | _, _ => none) = _
      rw [nk, e1]
    · rcases List.mem_cons.mp hq with e | hq
      · rw [e]; exact k1
      · exact e3 q hq
theorem sorted_it {xs : List T} (hl : xs.length ≤ 90) (h : ∀ t ∈ xs, It t ∧ ∃ ks : List Int, ks.length = 4 ∧ t = .tup (ks.map .int)) : ∃ t, sortedNL [.lst xs] = some t ∧ Th t := by
  obtain ⟨kss, e1, e2, e3, e4⟩ := tups_of_ints fun t ht => (h t ht).2
  have pm := sortL_perm kss
  refine ⟨.lst ((sortL kss).map fun (ks : List Int) => T.tup (ks.map .int)), ?_, th_lst (by rw [List.length_map, pm.length_eq, e2]; exact hl) fun t ht => ?_⟩
  · show (tups xs).bind _ = _
    rw [e1]
    show (if kss.length ≤ 4000 ∧ okTupsN kss = true then _ else none) = _
    have okk : okTupsN kss = true := by
      cases kss with
      | nil => rfl
      | cons k r =>
        unfold okTupsN
        have hk := e3 k (by simp)
        rw [Bool.and_eq_true, List.all_eq_true]
        exact ⟨decide_eq_true (by omega), fun ks hks => by rw [e3 ks hks, hk]; rfl⟩
    rw [if_pos ⟨by omega, okk⟩]
  · obtain ⟨ks, hk, rfl⟩ := List.mem_map.mp ht
    exact (h _ (by rw [e4]; exact List.mem_map.mpr ⟨ks, pm.mem_iff.mp hk, rfl⟩)).1
theorem bent_ok {P : List Bt} (hl : P.length ≤ 80) (hp : ∀ p ∈ P, smallB p) {x0 x1 x2 x3 : Int} (h0 : 0 ≤ x0 ∧ x0 < 9) (h1 : 0 ≤ x1 ∧ x1 < 20) (h2 : 0 ≤ x2 ∧ x2 ≤ 1000000000) (h3 : 0 ≤ x3 ∧ x3 < 97) :
    ∃ t, dn__law_bent_7 [.lst (P.map eT), .lst [.int x0, .int x1, .int x2, .int x3]] = .ok t ∧ Th t := by
  rw [eq__law_bent_7]; unfold b__law_bent_7
  have I0 : ∀ a b c d : Int, (-10 ≤ a ∧ a ≤ 10) → (-10 ≤ b ∧ b ≤ 10) → (-10 ≤ c ∧ c ≤ 10) → (-10 ≤ d ∧ d ≤ 10) → It (.tup [.int a, .int b, .int c, .int d]) := fun a b c d ha hb hc hd => (Pd.tupL (n := 0) (w := 101) (L := 4) (W := 500) (fun t ht => by
    simp only [List.mem_cons, List.not_mem_nil, or_false] at ht
    rcases ht with rfl | rfl | rfl | rfl <;> exact Pd.int (Nat.lt_of_le_of_lt (m := 1000000000000) (by omega) (by decide +kernel))) (by simp)).mono
  by_cases hP : P = []
  · subst hP
    obtain ⟨j, hj, j1, j2⟩ : ∃ j, x2 % 5 = j ∧ 0 ≤ j ∧ j < 5 := ⟨_, rfl, by omega, by omega⟩
    obtain ⟨t, e, ht⟩ := pick_ok (P := Th) (L := [.lst [.tup [.int 0, .int 0, .int 0, .int 1]], .lst [.non], .lst [.tup []], .tup [], .lst [.tup [.int 0, .int 0, .int 0, .int 0]]]) (i := j) (n := 5) rfl j1 j2 fun t ht => by
      simp only [List.mem_cons, List.not_mem_nil, or_false] at ht
      rcases ht with rfl | rfl | rfl | rfl | rfl
      · exact th_lst (by simp) fun t ht => by rw [List.mem_singleton.mp ht]; exact I0 _ _ _ _ (by omega) (by omega) (by omega) (by omega)
      · exact th_lst (by simp) fun t ht => by rw [List.mem_singleton.mp ht]; exact Pd.non.mono
      · exact th_lst (by simp) fun t ht => by rw [List.mem_singleton.mp ht]; exact (Pd.tupL (n := 0) (w := 101) (L := 4) (W := 500) (fun t ht => by cases ht) (by simp)).mono
      · exact th_tup (by simp) fun t ht => by cases ht
      · exact th_lst (by simp) fun t ht => by rw [List.mem_singleton.mp ht]; exact I0 _ _ _ _ (by omega) (by omega) (by omega) (by omega)
    have nn : eqT (.lst []) (.lst []) = some (.bl true) := rfl
    exact ⟨t, by simp (disch := omega) [nn, hj, e], ht⟩
  · have pl0 : 0 < P.length := List.length_pos_iff.mpr hP
    have hne : eqT (.lst (P.map eT)) (.lst []) = some (.bl false) := by
      have : eqT (.lst (P.map eT)) (.lst []) = some (.bl (P.map eT).isEmpty) := eqT_nil (List.all_eq_true.mpr fun t ht => by
        obtain ⟨p, _, rfl⟩ := List.mem_map.mp ht
        unfold eT; rfl)
      rw [this, List.isEmpty_map]
      cases P with
      | nil => exact absurd rfl hP
      | cons x xs => rfl
    obtain ⟨a, hat⟩ : ∃ j : Nat, x3 % (P.length : Int) = j := ⟨(x3 % (P.length : Int)).toNat, by have := Int.emod_nonneg x3 (b := (P.length : Int)) (by omega); omega⟩
    have hlt : a < P.length := by have := Int.emod_lt_of_pos x3 (b := (P.length : Int)) (by omega); omega
    have hpa := hp _ (List.getElem_mem hlt)
    have ga : (P.map eT)[a]? = some (eT P[a]) := by rw [List.getElem?_map, List.getElem?_eq_getElem hlt]; rfl
    have ax := atI_cast (P.map eT) a
    rw [ga] at ax
    have ll : (P.map eT).length = P.length := by simp
    have its : ∀ t ∈ P.map eT, It t := fun t ht => by
      obtain ⟨p, hpm, rfl⟩ := List.mem_map.mp ht
      exact it_eT (hp p hpm)
    have four : ∀ t ∈ P.map eT, ∃ ks : List Int, ks.length = 4 ∧ t = .tup (ks.map .int) := fun t ht => by
      obtain ⟨p, hpm, rfl⟩ := List.mem_map.mp ht
      exact ⟨[p.m, p.b, p.v, p.k], rfl, rfl⟩
    have cA : cut (P.map eT) none (some (a : Int)) = (P.map eT).take a := cut_none_some _ _
    have cB : cut (P.map eT) (some ((a : Int) + 1)) none = (P.map eT).drop (a + 1) := by
      have := cut_some_none (P.map eT) (a + 1)
      rwa [show ((a + 1 : Nat) : Int) = (a : Int) + 1 by omega] at this
    have cC : cut (P.map eT) none (some ((a : Int) + 1)) = (P.map eT).take (a + 1) := by
      have := cut_none_some (P.map eT) (a + 1)
      rwa [show ((a + 1 : Nat) : Int) = (a : Int) + 1 by omega] at this
    have cD : cut (P.map eT) (some (a : Int)) none = (P.map eT).drop a := cut_some_none _ _
    have t1 : ((P.map eT).take a).length ≤ 80 := by rw [List.length_take]; omega
    have t2 : ((P.map eT).drop (a + 1)).length ≤ 80 := by rw [List.length_drop]; omega
    have t3 : ((P.map eT).take (a + 1)).length ≤ 81 := by rw [List.length_take]; omega
    have t4 : ((P.map eT).drop a).length ≤ 80 := by rw [List.length_drop]; omega
    have t12 : ((P.map eT).take a).length + ((P.map eT).drop (a + 1)).length ≤ 80 := by rw [List.length_take, List.length_drop]; omega
    have md : modT (.int x3) (.int P.length) = some (.int a) := by rw [modT_ok (by omega), hat]
    have mem2 : ∀ {xs ys : List T}, (∀ t ∈ xs, t ∈ P.map eT) → (∀ t ∈ ys, t ∈ P.map eT) → ∀ t ∈ xs ++ ys, It t := fun hx hy t ht => by
      rcases List.mem_append.mp ht with h | h
      · exact its t (hx t h)
      · exact its t (hy t h)
    have c0 : x0 = 0 ∨ x0 = 1 ∨ x0 = 2 ∨ x0 = 3 ∨ x0 = 4 ∨ x0 = 5 ∨ 5 < x0 := by omega
    obtain ⟨s1, s2, s3, s4, s5⟩ := hpa
    have dk : ∀ q : Int, 1 ≤ q → q ≤ 100000000000 → It (.tup [.int P[a].m, .int P[a].b, .int P[a].v, .int q]) := fun q q1 q2 => (Pd.tupL (n := 0) (w := 101) (L := 4) (W := 500) (fun t ht => by
      simp only [List.mem_cons, List.not_mem_nil, or_false] at ht
      rcases ht with rfl | rfl | rfl | rfl <;> exact Pd.int (Nat.lt_of_le_of_lt (m := 1000000000000) (by omega) (by decide +kernel))) (by simp)).mono
    have bb := bent_batch_ok (p := P[a]) ⟨s1, s2, s3, s4, s5⟩ (x0 := x0) (x1 := x1) (x2 := x2) (r := [.int x3]) h1 h2
    have bb6 := bent_batch_ok (p := P[a]) ⟨s1, s2, s3, s4, s5⟩ (x0 := 0) (x1 := x1 % 6) (x2 := x2) (r := []) (by omega) h2
    obtain ⟨u, hu, iu, _⟩ := bb
    obtain ⟨u6, hu6, iu6, f6⟩ := bb6
    have f6 := f6 (by omega)
    rcases c0 with rfl | rfl | rfl | rfl | rfl | rfl | c0
    · refine ⟨.lst ((P.map eT).take a ++ (P.map eT).drop (a + 1)), ?_, th_lst (by rw [List.length_append]; omega) (mem2 (fun t h => List.mem_of_mem_take h) fun t h => List.mem_of_mem_drop h)⟩
      generalize P.map eT = pT at *
      simp (disch := omega) [hne, ll, md, cA, cB]
    · refine ⟨.lst ((P.map eT).take (a + 1) ++ (P.map eT).drop a), ?_, th_lst (by rw [List.length_append, List.length_take, List.length_drop, ll]; omega) (mem2 (fun t h => List.mem_of_mem_take h) fun t h => List.mem_of_mem_drop h)⟩
      generalize P.map eT = pT at *
      simp (disch := omega) [hne, ll, md, cC, cD]
    · refine ⟨.lst ((P.map eT).drop a ++ (P.map eT).take a), ?_, th_lst (by rw [List.length_append, List.length_take, List.length_drop, ll]; omega) (mem2 (fun t h => List.mem_of_mem_drop h) fun t h => List.mem_of_mem_take h)⟩
      generalize P.map eT = pT at *
      simp (disch := omega) [hne, ll, md, cA, cD]
    · obtain ⟨j, hj, j1, j2⟩ : ∃ j, x2 % 4 = j ∧ 0 ≤ j ∧ j < 4 := ⟨_, rfl, by omega, by omega⟩
      obtain ⟨t, e, ht⟩ := pick_ok (P := Th) (L := [.tup (P.map eT), .lst (P.map eT ++ [.non]), .lst (P.map eT).reverse, .dic [(.inl 0, .lst (P.map eT))]]) (i := j) (n := 4) rfl j1 j2 fun t ht => by
        simp only [List.mem_cons, List.not_mem_nil, or_false] at ht
        rcases ht with rfl | rfl | rfl | rfl
        · exact th_tup (by omega) its
        · exact th_lst (by simp; omega) fun t ht => by
            rcases List.mem_append.mp ht with h | h
            · exact its t h
            · rw [List.mem_singleton.mp h]; exact Pd.non.mono
        · exact th_lst (by simp; omega) fun t ht => its t (List.mem_reverse.mp ht)
        · exact th_dic (by omega) its
      refine ⟨t, ?_, ht⟩
      generalize P.map eT = pT at *
      have dp : ∀ ev : Lo, dDisp1 0 (dVar 0) (some (.lst pT, false) :: ev) = .ok (.dic [(.inl 0, .lst pT)]) := fun ev => rfl
      simp (disch := omega) [hne, ll, md, hj, dp, e]
    · obtain ⟨t, e, ht⟩ := sorted_it (xs := (P.map eT).take a ++ [u6] ++ (P.map eT).drop (a + 1)) (by rw [List.length_append, List.length_append, List.length_singleton]; omega) fun t ht => ⟨mem_cut its iu6 ht, mem_cut four f6 ht⟩
      refine ⟨t, ?_, ht⟩
      rw [List.append_assoc, List.singleton_append] at e
      generalize P.map eT = pT at *
      generalize eT P[a] = tp at *
      simp (disch := omega) [hne, ll, md, cA, cB, ax, hu6, e]
    · by_cases k1 : 1 < P[a].k
      · refine ⟨.lst ((P.map eT).take a ++ [.tup [.int P[a].m, .int P[a].b, .int P[a].v, .int 1], .tup [.int P[a].m, .int P[a].b, .int P[a].v, .int (P[a].k - 1)]] ++ (P.map eT).drop (a + 1)), ?_, th_lst (by rw [List.length_append, List.length_append]; simp only [List.length_cons, List.length_nil]; omega) fun t ht => ?_⟩
        · have cu : ∀ w : T, cut [.int P[a].m, .int P[a].b, .int P[a].v, w] none (some 3) = [.int P[a].m, .int P[a].b, .int P[a].v] := fun w => rfl
          unfold eT at ax
          generalize hpt : P.map eT = pT at *
          generalize hp2 : (P.map fun p => T.tup [.int p.m, .int p.b, .int p.v, .int p.k]) = pT2 at *
          have : pT2 = pT := by rw [← hp2, ← hpt]; rfl
          subst this
          simp (disch := omega) [hne, ll, md, cA, cB, ax, k1, cu]
        · rcases List.mem_append.mp ht with h | h
          · rcases List.mem_append.mp h with h | h
            · exact its t (List.mem_of_mem_take h)
            · simp only [List.mem_cons, List.not_mem_nil, or_false] at h
              rcases h with rfl | rfl
              · exact dk 1 (by omega) (by omega)
              · exact dk _ (by omega) (by omega)
          · exact its t (List.mem_of_mem_drop h)
      · refine ⟨.lst ((P.map eT).take a ++ [u] ++ (P.map eT).drop (a + 1)), ?_, th_lst (by rw [List.length_append, List.length_append, List.length_singleton]; omega) fun t ht => mem_cut its iu ht⟩
        have a3 : ixT (eT P[a]) (.int 3) = some (.int P[a].k) := rfl
        generalize P.map eT = pT at *
        generalize eT P[a] = tp at *
        simp (disch := omega) [hne, ll, md, cA, cB, ax, hu, k1, a3]
    · refine ⟨.lst ((P.map eT).take a ++ [u] ++ (P.map eT).drop (a + 1)), ?_, th_lst (by rw [List.length_append, List.length_append, List.length_singleton]; omega) fun t ht => mem_cut its iu ht⟩
      have n0 : ¬ x0 = 0 := by omega
      have n1 : ¬ x0 = 1 := by omega
      have n2 : ¬ x0 = 2 := by omega
      have n3 : ¬ x0 = 3 := by omega
      have n4 : ¬ x0 = 4 := by omega
      have n5 : ¬ x0 = 5 := by omega
      generalize P.map eT = pT at *
      generalize eT P[a] = tp at *
      simp (disch := omega) [hne, ll, md, cA, cB, ax, hu, n0, n1, n2, n3, n4, n5]
end
theorem law_true (ns : List Int) (hl : ns.length ≤ 63) : dn_law_k61 [.scr ns] = .ok (.bl true) := by
  rw [eq_law_k61]; unfold b_law_k61
  have hS : Scr (T.scr ns) ns := Scr.scr ns
  have c0 : dn__law_cell_at [.scr ns, .int 0] = .ok (.int (cel ns 0)) := hS.cell 0
  have n0 := numbers_eq (cel ns 0) 6105 [4] (by omega) (by simp) (by simp)
  obtain ⟨ds, hd, hdl, hdb⟩ := drawn_ex (cel ns 0) 6105 [4] (by simp)
  rw [hd] at n0
  match ds, hdl with
  | [z], _ =>
    simp only [List.map_cons, List.map_nil] at n0
    obtain ⟨upto, hu, hup⟩ : ∃ upto : Nat, upto ≤ 41 ∧ (if z = 0 then (41 : Int) else 7) = upto := by
      by_cases h : z = 0
      · exact ⟨41, by omega, by rw [if_pos h]; rfl⟩
      · exact ⟨7, by omega, by rw [if_neg h]; rfl⟩
    obtain ⟨ls, g, e, ok, len⟩ := law_bakery2_ok hS (by omega) upto hu 6100 (by omega)
    have e' : dn__law_bakery_2 [.scr ns, .int upto, .int 6100] = .ok (eB (Pl ls g)) := e
    have n40 : ls.length ≤ 40 := ok.l2
    obtain ⟨ws, wd, wl, wo⟩ := law_doughs_ok hS (n := ls.length) (by omega) 6110 (by omega)
    obtain ⟨P, pb, pl, pp, pa, pc, pv⟩ := law_batches_ok2 hS n40 (pl_g ok) 6170 (by omega)
    have sm : ∀ p ∈ P, smallB p := fun p hp => by
      obtain ⟨q1, q2, q3, q4, q5, q6⟩ := pp p hp
      exact ⟨by omega, by omega, by omega, q1, by omega⟩
    have fy := fits_doughs_yes ok (look_at_doughs_ok ok wl wo) (ps := P) (by omega) fun p hp => by
      obtain ⟨q1, q2, q3, q4, q5, q6⟩ := pp p hp
      exact ⟨q1, q3, q4, q5, q6⟩
    rw [pc, pa, pv] at fy
    have R : ∀ {t : T}, Th t → dn__law_right_14 [eB (Pl ls g), .lst (ws.map eW), t] = .ok (.bl true) := fun ht => right_any ok wl wo ht
    have rP := R (th_lst (items := P.map eT) (by simp; omega) fun t ht => by
      obtain ⟨p, hp, rfl⟩ := List.mem_map.mp ht
      exact it_eT (sm p hp))
    have hx0 : ixT (eB (Pl ls g)) (.int 0) = some (.lst (ls.map .int)) := by simp [eB]
    have hx2 : ixT (eB (Pl ls g)) (.int 2) = some (.lst [eG g]) := by simp [eB]
    have ll : (ls.map T.int).length = ls.length := by simp
    have hc : cut ns (some 7) (some 37) = (ns.drop 7).take 30 := cut_ss ns 7 37
    have hcl : ((ns.drop 7).take 30).length ≤ 100 := by simp; omega
    obtain ⟨fw, hfw⟩ : ∃ w, decide (z = 0) = w := ⟨_, rfl⟩
    have L : forL (gTp 2 (DL.gCons (gNm 6) (DL.gCons (gNm 7) DL.gNil))) b_law_k61_p2 (enumL ((4 :: (ns.drop 7).take 30).map T.int)) [some (.scr ns, false), some (.bl fw, false), some (eB (Pl ls g), false), some (.lst (ws.map eW), false), some (.lst (P.map eT), false), none, none, none, none] = .nx [some (.scr ns, false), some (.bl fw, false), some (eB (Pl ls g), false), some (.lst (ws.map eW), false), some (.lst (P.map eT), false), none, none, none, none] := forL_same fun t ht => by
      obtain ⟨k, c, rfl, hk⟩ := enum_ints ht
      have nk := numbers_eq c (6130 + (k : Int)) [9, 20, 1000000000, 97] (by simp at hk; omega) (by simp) (by simp)
      obtain ⟨es, he, hel, heb⟩ := drawn_ex c (6130 + (k : Int)) [9, 20, 1000000000, 97] (by simp)
      rw [he] at nk
      match es, hel with
      | [x0, x1, x2, x3], _ =>
        have b0 := heb 0 (by simp)
        have b1 := heb 1 (by simp)
        have b2 := heb 2 (by simp)
        have b3 := heb 3 (by simp)
        simp at b0 b1 b2 b3
        simp only [List.map_cons, List.map_nil] at nk
        obtain ⟨t, hb, ht⟩ := bent_ok pl sm (x0 := x0) (x1 := x1) (x2 := x2) (x3 := x3) b0 b1 (by omega) b3
        have r := R ht
        generalize ws.map eW = wT at *
        generalize P.map eT = pT at *
        generalize eB (Pl ls g) = E at *
        unfold b_law_k61_p2
        simp (disch := omega) [nk, hb, r]
    have M : forL (gNm 5) b_law_k61_p1 [.non, .int 5, .str "[]", .tup [], .dic [], .bl true, .lst [.lst []], .lst [.tup [.str "0", .int 0, .int 0, .int 1]], .lst [.tup [.int 0, .int 0, .int 0]]] [some (.scr ns, false), some (.bl fw, false), some (eB (Pl ls g), false), some (.lst (ws.map eW), false), some (.lst (P.map eT), false), none, none, none, none] = .nx [some (.scr ns, false), some (.bl fw, false), some (eB (Pl ls g), false), some (.lst (ws.map eW), false), some (.lst (P.map eT), false), none, none, none, none] := forL_same fun t ht => by
      have st : ∀ i : Int, -10 ≤ i ∧ i ≤ 10 → Pd 0 101 (.int i) := fun i h => Pd.int (Nat.lt_of_le_of_lt (m := 1000000000000) (by omega) (by decide +kernel))
      have th : Th t := by
        simp only [List.mem_cons, List.not_mem_nil, or_false] at ht
        rcases ht with rfl | rfl | rfl | rfl | rfl | rfl | rfl | rfl | rfl
        · exact Pd.non.mono
        · exact (st _ (by omega)).mono
        · exact (Pd.str (w := 101) (by decide +kernel)).mono
        · exact th_tup (by simp) fun t ht => by cases ht
        · exact Pd.dic.mono
        · exact (Pd.bl _).mono
        · exact th_lst (by simp) fun t ht => by rw [List.mem_singleton.mp ht]; exact (Pd.lstL (n := 0) (w := 101) (L := 4) (W := 500) (fun t ht => by cases ht) (by simp)).mono
        · exact th_lst (by simp) fun t ht => by
            rw [List.mem_singleton.mp ht]
            exact (Pd.tupL (n := 0) (w := 101) (L := 4) (W := 500) (fun t ht => by
              simp only [List.mem_cons, List.not_mem_nil, or_false] at ht
              rcases ht with rfl | rfl | rfl | rfl
              · exact Pd.str (by decide +kernel)
              · exact st _ (by omega)
              · exact st _ (by omega)
              · exact st _ (by omega)) (by simp)).mono
        · exact th_lst (by simp) fun t ht => by
            rw [List.mem_singleton.mp ht]
            exact (Pd.tupL (n := 0) (w := 101) (L := 4) (W := 500) (fun t ht => by
              simp only [List.mem_cons, List.not_mem_nil, or_false] at ht
              rcases ht with rfl | rfl | rfl <;> exact st _ (by omega)) (by simp)).mono
      have r := R th
      clear ht th
      generalize ws.map eW = wT at *
      generalize P.map eT = pT at *
      generalize eB (Pl ls g) = E at *
      unfold b_law_k61_p1
      simp (disch := omega) [r]
    simp only [List.map_cons] at L
    generalize (ns.drop 7).take 30 = cells at *
    generalize P.map eT = pT at *
    generalize ws.map eW = wT at *
    generalize ls.map T.int = lT at *
    generalize eB (Pl ls g) = E at *
    generalize eG g = G at *
    by_cases h : z = 0
    · have : fw = true := by rw [← hfw]; exact decide_eq_true h
      subst this
      rw [if_pos h] at hup
      rw [← hup] at e'
      simp (disch := omega) [c0, n0, h, e', wd, pb, fy, rP, hx0, hx2, ll, hc, L, M]
    · have : fw = false := by rw [← hfw]; exact decide_eq_false h
      subst this
      rw [if_neg h] at hup
      rw [← hup] at e'
      simp (disch := omega) [c0, n0, h, e', wd, pb, fy, rP, hx0, hx2, ll, hc, L, M]
end K61
set_option maxHeartbeats 4000000
namespace K61
open PySem PySem.Spec PyProof.Rows L2 DL Pg
def top (i : Nat) : Stmt := PySem.Challenge.pw_bakeahead_k61_plans_with_doughs_that_fit.main.body.getD i (.Pass ⟨0, 0, 0, 0⟩)
abbrev st_is_whole : Stmt := top 7
theorem sc_is_whole : FnScope ["thing"] ["thing"] (defScope st_is_whole) := ⟨rfl, rfl, rfl, by decide +kernel, rfl, by decide +kernel, by decide +kernel⟩
theorem ok_is_whole {P : Program} {w : World} {K : PySem.W.Frag} {mg : Str → Option Value} {base : Heap} (B : Bi mg) (F : ∃ fd, FunD K "is_whole" "is_whole" (defArgs st_is_whole) (defBody st_is_whole) (defScope st_is_whole) [] [] (He.ga K "is_whole") fd) (hm : mg "is_whole" = some (.ref (He.ga K "is_whole"))) : GF P w K mg base 1 "is_whole" 1 .f dn_is_whole := by
  refine gf_of F hm sc_is_whole (by intro z; cases z) (fun _ _ _ _ _ _ us hl => match us, hl with | [_], _ => rfl) fun cdv A outer s H E S0 cn => ?_
  show PSs _ _ (tS _ K S0 H _ b_is_whole)
  unfold b_is_whole
  exact (ss_one (s_retF (e_andV (wk (e_isi B.isinstance B.int_ (by decide +kernel) (by decide) (wk (e_var 0)))) (e_one (e_notV (wk (e_isi B.isinstance B.bool_ (by decide +kernel) (by decide) (wk (e_var 0)))))))))
abbrev st_is_within : Stmt := top 8
theorem sc_is_within : FnScope ["thing", "least", "most"] ["thing", "least", "most"] (defScope st_is_within) := ⟨rfl, rfl, rfl, by decide +kernel, rfl, by decide +kernel, by decide +kernel⟩
theorem ok_is_within {P : Program} {w : World} {K : PySem.W.Frag} {mg : Str → Option Value} {base : Heap} (B : Bi mg) (F : ∃ fd, FunD K "is_within" "is_within" (defArgs st_is_within) (defBody st_is_within) (defScope st_is_within) [] [] (He.ga K "is_within") fd) (hm : mg "is_within" = some (.ref (He.ga K "is_within"))) (g_is_whole : GF P w K mg base 1 "is_whole" 1 .f dn_is_whole) : GF P w K mg base 2 "is_within" 3 .f dn_is_within := by
  refine gf_of F hm sc_is_within (by intro z; cases z) (fun _ _ _ _ _ _ us hl => match us, hl with | [_, _, _], _ => rfl) fun cdv A outer s H E S0 cn => ?_
  show PSs _ _ (tS _ K S0 H _ b_is_within)
  unfold b_is_within
  exact (ss_one (s_retF (e_andV (wk (e_call cn (GF.mono g_is_whole) (a_cons (e_var 0) a_nil) (n_cons n_nil))) (e_one (e_chain op_le op_le (int0 cmpOk) (int0 cmpOk) (wk (e_var 1)) (wk (e_var 0)) (wk (e_var 2)))))))
abbrev st_is_number : Stmt := top 9
theorem sc_is_number : FnScope ["thing"] ["thing"] (defScope st_is_number) := ⟨rfl, rfl, rfl, by decide +kernel, rfl, by decide +kernel, by decide +kernel⟩
theorem ok_is_number {P : Program} {w : World} {K : PySem.W.Frag} {mg : Str → Option Value} {base : Heap} (B : Bi mg) (h_MOST : ∃ t, mg "MOST" = some (.int 1000000000 t)) (F : ∃ fd, FunD K "is_number" "is_number" (defArgs st_is_number) (defBody st_is_number) (defScope st_is_number) [] [] (He.ga K "is_number") fd) (hm : mg "is_number" = some (.ref (He.ga K "is_number"))) (g_is_within : GF P w K mg base 2 "is_within" 3 .f dn_is_within) : GF P w K mg base 3 "is_number" 1 .f dn_is_number := by
  refine gf_of F hm sc_is_number (by intro z; cases z) (fun _ _ _ _ _ _ us hl => match us, hl with | [_], _ => rfl) fun cdv A outer s H E S0 cn => ?_
  show PSs _ _ (tS _ K S0 H _ b_is_number)
  unfold b_is_number
  exact (ss_one (s_retF (e_call cn (GF.mono g_is_within) (a_cons (e_var 0) (a_cons e_int (a_cons (e_gint h_MOST) a_nil))) (n_cons (n_cons (n_cons n_nil))))))
abbrev st_is_day : Stmt := top 14
theorem sc_is_day : FnScope ["thing", "part"] ["thing"] (defScope st_is_day) := ⟨rfl, rfl, rfl, by decide +kernel, rfl, by decide +kernel, by decide +kernel⟩
theorem ok_is_day {P : Program} {w : World} {K : PySem.W.Frag} {mg : Str → Option Value} {base : Heap} (B : Bi mg) (F : ∃ fd, FunD K "is_day" "is_day" (defArgs st_is_day) (defBody st_is_day) (defScope st_is_day) [] [] (He.ga K "is_day") fd) (hm : mg "is_day" = some (.ref (He.ga K "is_day"))) (g_is_number : GF P w K mg base 3 "is_number" 1 .f dn_is_number) : GF P w K mg base 4 "is_day" 1 .s dn_is_day := by
  refine gf_of F hm sc_is_day (by intro z; cases z) (fun _ _ _ _ _ _ us hl => match us, hl with | [_], _ => rfl) fun cdv A outer s H E S0 cn => ?_
  show PSs _ _ (tS _ K S0 H _ b_is_day)
  unfold b_is_day
  exact (ss_cons (s_if (PW.pt (tw_or (t_not (tst_of (e_isi B.isinstance B.tuple_ (by decide +kernel) (by decide) (wk (e_var 0))))) (pw_or1 (t_ne cn (wk (e_len B.len (wk (e_var 0)))) (wk e_int)))))
 (ss_one (s_retS e_bl))
 ss_nil)
 (ss_one (s_retS (fs (e_andV (wk (e_all cn B.all_ (wk (e_comp cn (i_seq (by intro z; cases z) (wk (e_slice (wk (e_var 0)) o_none (o_some (wk e_int))))) (own := [("part", 1)]) (by kernel_rfl) (fun _ _ _ _ _ _ nd calm => (g_nm nd 1)) (gk_nm (by decide)) (fun _ _ _ _ _ _ cn => ts_nil) (fun _ _ _ _ _ _ cn => (fs (e_call cn (GF.mono g_is_number) (a_cons (e_var 1) a_nil) (n_cons n_nil)))))))) (e_one (e_orV (wk (e_isN (wk (e_ix (wk (e_var 0)) (wk e_int))))) (e_one (e_call cn (GF.mono g_is_number) (a_cons (e_ix (wk (e_var 0)) (wk e_int)) a_nil) (n_cons n_nil))))))))))
abbrev st_are_lights : Stmt := top 15
theorem sc_are_lights : FnScope ["thing", "light"] ["thing"] (defScope st_are_lights) := ⟨rfl, rfl, rfl, by decide +kernel, rfl, by decide +kernel, by decide +kernel⟩
theorem ok_are_lights {P : Program} {w : World} {K : PySem.W.Frag} {mg : Str → Option Value} {base : Heap} (B : Bi mg) (h_MOST_DAYS : ∃ t, mg "MOST_DAYS" = some (.int 40 t)) (F : ∃ fd, FunD K "are_lights" "are_lights" (defArgs st_are_lights) (defBody st_are_lights) (defScope st_are_lights) [] [] (He.ga K "are_lights") fd) (hm : mg "are_lights" = some (.ref (He.ga K "are_lights"))) (g_is_number : GF P w K mg base 3 "is_number" 1 .f dn_is_number) : GF P w K mg base 4 "are_lights" 1 .f dn_are_lights := by
  refine gf_of F hm sc_are_lights (by intro z; cases z) (fun _ _ _ _ _ _ us hl => match us, hl with | [_], _ => rfl) fun cdv A outer s H E S0 cn => ?_
  show PSs _ _ (tS _ K S0 H _ b_are_lights)
  unfold b_are_lights
  exact (ss_one (s_retF (e_andV (wk (e_isi B.isinstance B.list_ (by decide +kernel) (by decide) (wk (e_var 0)))) (e_andV (wk (e_chain op_le op_le (int0 cmpOk) (int0 cmpOk) (wk e_int) (wk (e_len B.len (wk (e_var 0)))) (wk (e_gint h_MOST_DAYS)))) (e_one (e_all cn B.all_ (wk (e_comp cn (i_seq (by intro z; cases z) (wk (e_var 0))) (own := [("light", 1)]) (by kernel_rfl) (fun _ _ _ _ _ _ nd calm => (g_nm nd 1)) (gk_nm (by decide)) (fun _ _ _ _ _ _ cn => ts_nil) (fun _ _ _ _ _ _ cn => (fs (e_call cn (GF.mono g_is_number) (a_cons (e_var 1) a_nil) (n_cons n_nil))))))))))))
abbrev st_is_frame : Stmt := top 16
theorem sc_is_frame : FnScope ["thing"] ["thing"] (defScope st_is_frame) := ⟨rfl, rfl, rfl, by decide +kernel, rfl, by decide +kernel, by decide +kernel⟩
theorem ok_is_frame {P : Program} {w : World} {K : PySem.W.Frag} {mg : Str → Option Value} {base : Heap} (B : Bi mg) (h_MOST_GOODS : ∃ t, mg "MOST_GOODS" = some (.int 2 t)) (h_MOST : ∃ t, mg "MOST" = some (.int 1000000000 t)) (F : ∃ fd, FunD K "is_frame" "is_frame" (defArgs st_is_frame) (defBody st_is_frame) (defScope st_is_frame) [] [] (He.ga K "is_frame") fd) (hm : mg "is_frame" = some (.ref (He.ga K "is_frame"))) (g_is_within : GF P w K mg base 2 "is_within" 3 .f dn_is_within) (g_are_lights : GF P w K mg base 4 "are_lights" 1 .f dn_are_lights) : GF P w K mg base 5 "is_frame" 1 .s dn_is_frame := by
  refine gf_of F hm sc_is_frame (by intro z; cases z) (fun _ _ _ _ _ _ us hl => match us, hl with | [_], _ => rfl) fun cdv A outer s H E S0 cn => ?_
  show PSs _ _ (tS _ K S0 H _ b_is_frame)
  unfold b_is_frame
  exact (ss_cons (s_if (PW.pt (tw_or (t_not (tst_of (e_isi B.isinstance B.tuple_ (by decide +kernel) (by decide) (wk (e_var 0))))) (tw_or (t_ne cn (wk (e_len B.len (wk (e_var 0)))) (wk e_int)) (pw_or1 (t_not (tst_of (e_call cn (GF.mono g_are_lights) (a_cons (e_ix (wk (e_var 0)) (wk e_int)) a_nil) (n_cons n_nil))))))))
 (ss_one (s_retS e_bl))
 ss_nil)
 (ss_cons (s_if (PW.pt (tw_and (t_notN (wk (e_ix (wk (e_var 0)) (wk e_int)))) (pw_and1 (t_not (tst_of (e_call cn (GF.mono g_is_within) (a_cons (e_ix (wk (e_var 0)) (wk e_int)) (a_cons e_int (a_cons (e_gint h_MOST) a_nil))) (n_cons (n_cons (n_cons n_nil)))))))))
 (ss_one (s_retS e_bl))
 ss_nil)
 (ss_one (s_retS (fs (e_andV (wk (e_isi B.isinstance B.list_ (by decide +kernel) (by decide) (wk (e_ix (wk (e_var 0)) (wk e_int))))) (e_one (e_chain op_le op_le (int0 cmpOk) (int0 cmpOk) (wk e_int) (wk (e_len B.len (wk (e_ix (wk (e_var 0)) (wk e_int))))) (wk (e_gint h_MOST_GOODS))))))))))
abbrev st_look_at_good : Stmt := top 17
theorem sc_look_at_good : FnScope ["number", "good", "many", "day", "row"] ["number", "good", "many"] (defScope st_look_at_good) := ⟨rfl, rfl, rfl, by decide +kernel, rfl, by decide +kernel, by decide +kernel⟩
theorem ok_look_at_good {P : Program} {w : World} {K : PySem.W.Frag} {mg : Str → Option Value} {base : Heap} (B : Bi mg) (h_MOST_LIFE : ∃ t, mg "MOST_LIFE" = some (.int 40 t)) (rx_NoBakery : RXF P w K mg base "NoBakery" ["good", "day"]) (F : ∃ fd, FunD K "look_at_good" "look_at_good" (defArgs st_look_at_good) (defBody st_look_at_good) (defScope st_look_at_good) [] [] (He.ga K "look_at_good") fd) (hm : mg "look_at_good" = some (.ref (He.ga K "look_at_good"))) (g_is_day : GF P w K mg base 4 "is_day" 1 .s dn_is_day) (g_is_within : GF P w K mg base 2 "is_within" 3 .f dn_is_within) : GF P w K mg base 5 "look_at_good" 3 .f dn_look_at_good := by
  refine gf_of F hm sc_look_at_good (by intro z; cases z) (fun _ _ _ _ _ _ us hl => match us, hl with | [_, _, _], _ => rfl) fun cdv A outer s H E S0 cn => ?_
  show PSs _ _ (tS _ K S0 H _ b_look_at_good)
  unfold b_look_at_good b_look_at_good_p1
  exact (ss_cons (s_if (PW.pt (tw_or (t_not (tst_of (e_isi B.isinstance B.tuple_ (by decide +kernel) (by decide) (wk (e_var 1))))) (tw_or (t_ne cn (wk (e_len B.len (wk (e_var 1)))) (wk e_int)) (tw_or (t_not (tst_of (e_isi B.isinstance B.list_ (by decide +kernel) (by decide) (wk (e_ix (wk (e_var 1)) (wk e_int)))))) (pw_or1 (t_ne cn (wk (e_len B.len (wk (e_ix (wk (e_var 1)) (wk e_int))))) (wk (e_var 2))))))))
 (ss_one (s_raiseF cn rx_NoBakery (a_cons (e_var 0) (a_cons e_non a_nil))))
 ss_nil)
 (ss_cons (s_if (PW.pt (tw_and (t_notN (wk (e_ix (wk (e_var 1)) (wk e_int)))) (pw_and1 (t_not (tst_of (e_call cn (GF.mono g_is_within) (a_cons (e_ix (wk (e_var 1)) (wk e_int)) (a_cons e_int (a_cons (e_gint h_MOST_LIFE) a_nil))) (n_cons (n_cons (n_cons n_nil)))))))))
 (ss_one (s_raiseF cn rx_NoBakery (a_cons (e_var 0) (a_cons e_non a_nil))))
 ss_nil)
 (ss_one (wp0 [3, 4] (s_for (vs := [3, 4]) cn (i_enum B.enumerate (by intro z; cases z) (e_ix (wk (e_var 1)) (wk e_int))) (g_tp cn.calm (g_cons (g_nm cn.nd 3) (g_cons (g_nm cn.nd 4) g_nil)))
 (wpe [3, 4] (ss_one (s_if (t_not (tst_of (e_call cn (GF.mono g_is_day) (a_cons (e_var 4) a_nil) (n_cons n_nil))))
 (ss_one (s_raiseF cn rx_NoBakery (a_cons (e_var 0) (a_cons (e_var 3) a_nil))))
 ss_nil))))))))
abbrev st_look_at_bakery : Stmt := top 18
theorem sc_look_at_bakery : FnScope ["thing", "number", "good"] ["thing"] (defScope st_look_at_bakery) := ⟨rfl, rfl, rfl, by decide +kernel, rfl, by decide +kernel, by decide +kernel⟩
theorem ok_look_at_bakery {P : Program} {w : World} {K : PySem.W.Frag} {mg : Str → Option Value} {base : Heap} (B : Bi mg) (rx_NoBakery : RXF P w K mg base "NoBakery" ["good", "day"]) (F : ∃ fd, FunD K "look_at_bakery" "look_at_bakery" (defArgs st_look_at_bakery) (defBody st_look_at_bakery) (defScope st_look_at_bakery) [] [] (He.ga K "look_at_bakery") fd) (hm : mg "look_at_bakery" = some (.ref (He.ga K "look_at_bakery"))) (g_look_at_good : GF P w K mg base 5 "look_at_good" 3 .f dn_look_at_good) (g_is_frame : GF P w K mg base 5 "is_frame" 1 .s dn_is_frame) : GF P w K mg base 6 "look_at_bakery" 1 .f dn_look_at_bakery := by
  refine gf_of F hm sc_look_at_bakery (by intro z; cases z) (fun _ _ _ _ _ _ us hl => match us, hl with | [_], _ => rfl) fun cdv A outer s H E S0 cn => ?_
  show PSs _ _ (tS _ K S0 H _ b_look_at_bakery)
  unfold b_look_at_bakery b_look_at_bakery_p1
  exact (ss_cons (s_if (t_not (tst_of (e_call cn (GF.mono g_is_frame) (a_cons (e_var 0) a_nil) (n_cons n_nil))))
 (ss_one (s_raiseF cn rx_NoBakery (a_cons e_non (a_cons e_non a_nil))))
 ss_nil)
 (ss_one (wp0 [1, 2] (s_for (vs := [1, 2]) cn (i_enum B.enumerate (by intro z; cases z) (e_ix (wk (e_var 0)) (wk e_int))) (g_tp cn.calm (g_cons (g_nm cn.nd 1) (g_cons (g_nm cn.nd 2) g_nil)))
 (wpe [1, 2] (ss_one (s_expr (e_call cn (GF.mono g_look_at_good) (a_cons (e_var 1) (a_cons (e_var 2) (a_cons (fs (e_len B.len (wk (e_ix (wk (e_var 0)) (wk e_int))))) a_nil))) (n_cons (n_cons (n_cons n_nil)))))))))))
abbrev st_is_plain_one : Stmt := top 19
theorem sc_is_plain_one : FnScope ["bakery"] ["bakery"] (defScope st_is_plain_one) := ⟨rfl, rfl, rfl, by decide +kernel, rfl, by decide +kernel, by decide +kernel⟩
theorem ok_is_plain_one {P : Program} {w : World} {K : PySem.W.Frag} {mg : Str → Option Value} {base : Heap} (B : Bi mg) (F : ∃ fd, FunD K "is_plain_one" "is_plain_one" (defArgs st_is_plain_one) (defBody st_is_plain_one) (defScope st_is_plain_one) [] [] (He.ga K "is_plain_one") fd) (hm : mg "is_plain_one" = some (.ref (He.ga K "is_plain_one"))) : GF P w K mg base 1 "is_plain_one" 1 .f dn_is_plain_one := by
  refine gf_of F hm sc_is_plain_one (by intro z; cases z) (fun _ _ _ _ _ _ us hl => match us, hl with | [_], _ => rfl) fun cdv A outer s H E S0 cn => ?_
  show PSs _ _ (tS _ K S0 H _ b_is_plain_one)
  unfold b_is_plain_one
  exact (ss_one (s_retF (e_andV (wk (e_isN (wk (e_ix (wk (e_var 0)) (wk e_int))))) (e_one (e_eq cn (wk (e_len B.len (wk (e_ix (wk (e_var 0)) (wk e_int))))) (wk e_int))))))
abbrev st_is_plain : Stmt := top 20
theorem sc_is_plain : FnScope ["bakery"] ["bakery"] (defScope st_is_plain) := ⟨rfl, rfl, rfl, by decide +kernel, rfl, by decide +kernel, by decide +kernel⟩
theorem ok_is_plain {P : Program} {w : World} {K : PySem.W.Frag} {mg : Str → Option Value} {base : Heap} (B : Bi mg) (F : ∃ fd, FunD K "is_plain" "is_plain" (defArgs st_is_plain) (defBody st_is_plain) (defScope st_is_plain) [] [] (He.ga K "is_plain") fd) (hm : mg "is_plain" = some (.ref (He.ga K "is_plain"))) (g_is_plain_one : GF P w K mg base 1 "is_plain_one" 1 .f dn_is_plain_one) (g_look_at_bakery : GF P w K mg base 6 "look_at_bakery" 1 .f dn_look_at_bakery) : GF P w K mg base 7 "is_plain" 1 .f dn_is_plain := by
  refine gf_of F hm sc_is_plain (by intro z; cases z) (fun _ _ _ _ _ _ us hl => match us, hl with | [_], _ => rfl) fun cdv A outer s H E S0 cn => ?_
  show PSs _ _ (tS _ K S0 H _ b_is_plain)
  unfold b_is_plain
  exact (ss_cons (s_expr (e_call cn (GF.mono g_look_at_bakery) (a_cons (e_var 0) a_nil) (n_cons n_nil)))
 (ss_one (s_retF (e_call cn (GF.mono g_is_plain_one) (a_cons (e_var 0) a_nil) (n_cons n_nil)))))
abbrev st_look_at_plain : Stmt := top 21
theorem sc_look_at_plain : FnScope ["bakery"] ["bakery"] (defScope st_look_at_plain) := ⟨rfl, rfl, rfl, by decide +kernel, rfl, by decide +kernel, by decide +kernel⟩
theorem ok_look_at_plain {P : Program} {w : World} {K : PySem.W.Frag} {mg : Str → Option Value} {base : Heap} (B : Bi mg) (rx_NotPlain : RX0 K mg "NotPlain") (F : ∃ fd, FunD K "look_at_plain" "look_at_plain" (defArgs st_look_at_plain) (defBody st_look_at_plain) (defScope st_look_at_plain) [] [] (He.ga K "look_at_plain") fd) (hm : mg "look_at_plain" = some (.ref (He.ga K "look_at_plain"))) (g_is_plain : GF P w K mg base 7 "is_plain" 1 .f dn_is_plain) : GF P w K mg base 8 "look_at_plain" 1 .f dn_look_at_plain := by
  refine gf_of F hm sc_look_at_plain (by intro z; cases z) (fun _ _ _ _ _ _ us hl => match us, hl with | [_], _ => rfl) fun cdv A outer s H E S0 cn => ?_
  show PSs _ _ (tS _ K S0 H _ b_look_at_plain)
  unfold b_look_at_plain
  exact (ss_one (s_if (t_not (tst_of (e_call cn (GF.mono g_is_plain) (a_cons (e_var 0) a_nil) (n_cons n_nil))))
 (ss_one (s_raise0 cn rx_NotPlain))
 ss_nil))
abbrev st_nights_ahead : Stmt := top 23
theorem sc_nights_ahead : FnScope ["days", "life", "baked", "given", "want", "loaf", "keep", "fine"] ["days", "life", "baked", "given"] (defScope st_nights_ahead) := ⟨rfl, rfl, rfl, by decide +kernel, rfl, by decide +kernel, by decide +kernel⟩
theorem ok_nights_ahead {P : Program} {w : World} {K : PySem.W.Frag} {mg : Str → Option Value} {base : Heap} (B : Bi mg) (F : ∃ fd, FunD K "nights_ahead" "nights_ahead" (defArgs st_nights_ahead) (defBody st_nights_ahead) (defScope st_nights_ahead) [] [] (He.ga K "nights_ahead") fd) (hm : mg "nights_ahead" = some (.ref (He.ga K "nights_ahead"))) : GF P w K mg base 1 "nights_ahead" 4 .s dn_nights_ahead := by
  refine gf_of F hm sc_nights_ahead (by intro z; cases z) (fun _ _ _ _ _ _ us hl => match us, hl with | [_, _, _, _], _ => rfl) fun cdv A outer s H E S0 cn => ?_
  show PSs _ _ (tS _ K S0 H _ b_nights_ahead)
  unfold b_nights_ahead
  exact (ss_cons (s_if (PW.pt (tw_and (t_notN (wk (e_var 1))) (pw_and1 (t_gt (wk (e_sub (wk (e_var 3)) (wk (e_var 2)))) (wk (e_var 1))))))
 (ss_one (s_retS e_non))
 ss_nil)
 (ss_one (s_retS (fs (e_sum cn B.sum_ (wk (e_comp cn (i_seq (by intro z; cases z) (wk (e_slice (wk (e_var 0)) (o_some (wk (e_var 2))) (o_some (wk (e_var 3)))))) (own := [("want", 4), ("loaf", 5), ("keep", 6), ("fine", 7)]) (by kernel_rfl) (fun _ _ _ _ _ _ nd calm => (g_tp calm (g_cons (g_nm nd 4) (g_cons (g_nm nd 5) (g_cons (g_nm nd 6) (g_cons (g_nm nd 7) g_nil)))))) (gk_tp (gk_cons (gk_nm (by decide)) (gk_cons (gk_nm (by decide)) (gk_cons (gk_nm (by decide)) (gk_cons (gk_nm (by decide)) gk_nil))))) (fun _ _ _ _ _ _ cn => ts_nil) (fun _ _ _ _ _ _ cn => (e_var 6)))))))))
abbrev st_nights_behind : Stmt := top 24
theorem sc_nights_behind : FnScope ["days", "baked", "given", "fines", "want", "loaf", "keep", "fine"] ["days", "baked", "given"] (defScope st_nights_behind) := ⟨rfl, rfl, rfl, by decide +kernel, rfl, by decide +kernel, by decide +kernel⟩
theorem ok_nights_behind {P : Program} {w : World} {K : PySem.W.Frag} {mg : Str → Option Value} {base : Heap} (B : Bi mg) (F : ∃ fd, FunD K "nights_behind" "nights_behind" (defArgs st_nights_behind) (defBody st_nights_behind) (defScope st_nights_behind) [] [] (He.ga K "nights_behind") fd) (hm : mg "nights_behind" = some (.ref (He.ga K "nights_behind"))) : GF P w K mg base 1 "nights_behind" 3 .s dn_nights_behind := by
  refine gf_of F hm sc_nights_behind (by intro z; cases z) (fun _ _ _ _ _ _ us hl => match us, hl with | [_, _, _], _ => rfl) fun cdv A outer s H E S0 cn => ?_
  show PSs _ _ (tS _ K S0 H _ b_nights_behind)
  unfold b_nights_behind
  exact (ss_cons (fz 3 (by first | exact (s_setC cn 3 (i_seq (by intro z; cases z) (wk (e_slice (wk (e_var 0)) (o_some (wk (e_var 2))) (o_some (wk (e_var 1)))))) (own := [("want", 4), ("loaf", 5), ("keep", 6), ("fine", 7)]) (by kernel_rfl) (fun _ _ _ _ _ _ nd calm => (g_tp calm (g_cons (g_nm nd 4) (g_cons (g_nm nd 5) (g_cons (g_nm nd 6) (g_cons (g_nm nd 7) g_nil)))))) (gk_tp (gk_cons (gk_nm (by decide)) (gk_cons (gk_nm (by decide)) (gk_cons (gk_nm (by decide)) (gk_cons (gk_nm (by decide)) gk_nil))))) (fun _ _ _ _ _ _ cn => ts_nil) (fun _ _ _ _ _ _ cn => (e_var 7))) | exact (s_setF cn 3 (e_comp cn (i_seq (by intro z; cases z) (wk (e_slice (wk (e_var 0)) (o_some (wk (e_var 2))) (o_some (wk (e_var 1)))))) (own := [("want", 4), ("loaf", 5), ("keep", 6), ("fine", 7)]) (by kernel_rfl) (fun _ _ _ _ _ _ nd calm => (g_tp calm (g_cons (g_nm nd 4) (g_cons (g_nm nd 5) (g_cons (g_nm nd 6) (g_cons (g_nm nd 7) g_nil)))))) (gk_tp (gk_cons (gk_nm (by decide)) (gk_cons (gk_nm (by decide)) (gk_cons (gk_nm (by decide)) (gk_cons (gk_nm (by decide)) gk_nil))))) (fun _ _ _ _ _ _ cn => ts_nil) (fun _ _ _ _ _ _ cn => (e_var 7))))))
 (ss_cons (s_if (t_in cn (wk e_non) (wk (e_var 3)))
 (ss_one (s_retS e_non))
 ss_nil)
 (ss_one (s_retS (fs (e_sum cn B.sum_ (wk (e_var 3))))))))
abbrev st_price_of : Stmt := top 25
theorem sc_price_of : FnScope ["good", "baked", "given", "days", "life", "nights"] ["good", "baked", "given"] (defScope st_price_of) := ⟨rfl, rfl, rfl, by decide +kernel, rfl, by decide +kernel, by decide +kernel⟩
theorem ok_price_of {P : Program} {w : World} {K : PySem.W.Frag} {mg : Str → Option Value} {base : Heap} (B : Bi mg) (F : ∃ fd, FunD K "price_of" "price_of" (defArgs st_price_of) (defBody st_price_of) (defScope st_price_of) [] [] (He.ga K "price_of") fd) (hm : mg "price_of" = some (.ref (He.ga K "price_of"))) (g_nights_ahead : GF P w K mg base 1 "nights_ahead" 4 .s dn_nights_ahead) (g_nights_behind : GF P w K mg base 1 "nights_behind" 3 .s dn_nights_behind) : GF P w K mg base 2 "price_of" 3 .s dn_price_of := by
  refine gf_of F hm sc_price_of (by intro z; cases z) (fun _ _ _ _ _ _ us hl => match us, hl with | [_, _, _], _ => rfl) fun cdv A outer s H E S0 cn => ?_
  show PSs _ _ (tS _ K S0 H _ b_price_of)
  unfold b_price_of
  exact (ss_cons (s_asg (vs := [3, 4]) (e_var 0) (g_tp cn.calm (g_cons (g_nm cn.nd 3) (g_cons (g_nm cn.nd 4) g_nil))))
 (ss_cons (s_if (t_le (wk (e_var 1)) (wk (e_var 2)))
 (ss_one (s_set cn 5 (e_call cn (GF.mono g_nights_ahead) (a_cons (e_var 3) (a_cons (e_var 4) (a_cons (e_var 1) (a_cons (e_var 2) a_nil)))) (n_cons (n_cons (n_cons (n_cons n_nil)))))))
 (ss_one (s_set cn 5 (e_call cn (GF.mono g_nights_behind) (a_cons (e_var 3) (a_cons (e_var 1) (a_cons (e_var 2) a_nil))) (n_cons (n_cons (n_cons n_nil)))))))
 (ss_cons (s_if (t_isN (wk (e_var 5)))
 (ss_one (s_retS e_non))
 ss_nil)
 (ss_one (s_retS (fs (e_add (wk (e_ix (wk (e_ix (wk (e_var 3)) (wk (e_var 1)))) (wk e_int))) (wk (e_var 5)))))))))
abbrev st_is_dough_day : Stmt := top 27
theorem sc_is_dough_day : FnScope ["thing", "part"] ["thing"] (defScope st_is_dough_day) := ⟨rfl, rfl, rfl, by decide +kernel, rfl, by decide +kernel, by decide +kernel⟩
theorem ok_is_dough_day {P : Program} {w : World} {K : PySem.W.Frag} {mg : Str → Option Value} {base : Heap} (B : Bi mg) (F : ∃ fd, FunD K "is_dough_day" "is_dough_day" (defArgs st_is_dough_day) (defBody st_is_dough_day) (defScope st_is_dough_day) [] [] (He.ga K "is_dough_day") fd) (hm : mg "is_dough_day" = some (.ref (He.ga K "is_dough_day"))) (g_is_number : GF P w K mg base 3 "is_number" 1 .f dn_is_number) : GF P w K mg base 4 "is_dough_day" 1 .f dn_is_dough_day := by
  refine gf_of F hm sc_is_dough_day (by intro z; cases z) (fun _ _ _ _ _ _ us hl => match us, hl with | [_], _ => rfl) fun cdv A outer s H E S0 cn => ?_
  show PSs _ _ (tS _ K S0 H _ b_is_dough_day)
  unfold b_is_dough_day
  exact (ss_one (s_retF (e_andV (wk (e_isi B.isinstance B.tuple_ (by decide +kernel) (by decide) (wk (e_var 0)))) (e_andV (wk (e_eq cn (wk (e_len B.len (wk (e_var 0)))) (wk e_int))) (e_one (e_all cn B.all_ (wk (e_comp cn (i_seq (by intro z; cases z) (wk (e_var 0))) (own := [("part", 1)]) (by kernel_rfl) (fun _ _ _ _ _ _ nd calm => (g_nm nd 1)) (gk_nm (by decide)) (fun _ _ _ _ _ _ cn => ts_nil) (fun _ _ _ _ _ _ cn => (fs (e_call cn (GF.mono g_is_number) (a_cons (e_var 1) a_nil) (n_cons n_nil))))))))))))
abbrev st_look_at_dough_list : Stmt := top 28
theorem sc_look_at_dough_list : FnScope ["bakery", "thing", "day", "row"] ["bakery", "thing"] (defScope st_look_at_dough_list) := ⟨rfl, rfl, rfl, by decide +kernel, rfl, by decide +kernel, by decide +kernel⟩
theorem ok_look_at_dough_list {P : Program} {w : World} {K : PySem.W.Frag} {mg : Str → Option Value} {base : Heap} (B : Bi mg) (rx_NoDoughs : RXF P w K mg base "NoDoughs" ["day"]) (F : ∃ fd, FunD K "look_at_dough_list" "look_at_dough_list" (defArgs st_look_at_dough_list) (defBody st_look_at_dough_list) (defScope st_look_at_dough_list) [] [] (He.ga K "look_at_dough_list") fd) (hm : mg "look_at_dough_list" = some (.ref (He.ga K "look_at_dough_list"))) (g_is_dough_day : GF P w K mg base 4 "is_dough_day" 1 .f dn_is_dough_day) : GF P w K mg base 5 "look_at_dough_list" 2 .f dn_look_at_dough_list := by
  refine gf_of F hm sc_look_at_dough_list (by intro z; cases z) (fun _ _ _ _ _ _ us hl => match us, hl with | [_, _], _ => rfl) fun cdv A outer s H E S0 cn => ?_
  show PSs _ _ (tS _ K S0 H _ b_look_at_dough_list)
  unfold b_look_at_dough_list b_look_at_dough_list_p1
  exact (ss_cons (s_if (PW.pt (tw_or (t_not (tst_of (e_isi B.isinstance B.list_ (by decide +kernel) (by decide) (wk (e_var 1))))) (pw_or1 (t_ne cn (wk (e_len B.len (wk (e_var 1)))) (wk (e_len B.len (wk (e_ix (wk (e_var 0)) (wk e_int)))))))))
 (ss_one (s_raiseF cn rx_NoDoughs (a_cons e_non a_nil)))
 ss_nil)
 (ss_one (wp0 [2, 3] (s_for (vs := [2, 3]) cn (i_enum B.enumerate (by intro z; cases z) (e_var 1)) (g_tp cn.calm (g_cons (g_nm cn.nd 2) (g_cons (g_nm cn.nd 3) g_nil)))
 (wpe [2, 3] (ss_one (s_if (t_not (tst_of (e_call cn (GF.mono g_is_dough_day) (a_cons (e_var 3) a_nil) (n_cons n_nil))))
 (ss_one (s_raiseF cn rx_NoDoughs (a_cons (e_var 2) a_nil)))
 ss_nil)))))))
abbrev st_look_at_doughs : Stmt := top 29
theorem sc_look_at_doughs : FnScope ["bakery", "thing"] ["bakery", "thing"] (defScope st_look_at_doughs) := ⟨rfl, rfl, rfl, by decide +kernel, rfl, by decide +kernel, by decide +kernel⟩
theorem ok_look_at_doughs {P : Program} {w : World} {K : PySem.W.Frag} {mg : Str → Option Value} {base : Heap} (B : Bi mg) (F : ∃ fd, FunD K "look_at_doughs" "look_at_doughs" (defArgs st_look_at_doughs) (defBody st_look_at_doughs) (defScope st_look_at_doughs) [] [] (He.ga K "look_at_doughs") fd) (hm : mg "look_at_doughs" = some (.ref (He.ga K "look_at_doughs"))) (g_look_at_dough_list : GF P w K mg base 5 "look_at_dough_list" 2 .f dn_look_at_dough_list) (g_look_at_plain : GF P w K mg base 8 "look_at_plain" 1 .f dn_look_at_plain) : GF P w K mg base 9 "look_at_doughs" 2 .f dn_look_at_doughs := by
  refine gf_of F hm sc_look_at_doughs (by intro z; cases z) (fun _ _ _ _ _ _ us hl => match us, hl with | [_, _], _ => rfl) fun cdv A outer s H E S0 cn => ?_
  show PSs _ _ (tS _ K S0 H _ b_look_at_doughs)
  unfold b_look_at_doughs
  exact (ss_cons (s_expr (e_call cn (GF.mono g_look_at_plain) (a_cons (e_var 0) a_nil) (n_cons n_nil)))
 (ss_one (s_expr (e_call cn (GF.mono g_look_at_dough_list) (a_cons (e_var 0) (a_cons (e_var 1) a_nil)) (n_cons (n_cons n_nil))))))
abbrev st_is_batch : Stmt := top 30
theorem sc_is_batch : FnScope ["bakery", "thing", "last", "day"] ["bakery", "thing"] (defScope st_is_batch) := ⟨rfl, rfl, rfl, by decide +kernel, rfl, by decide +kernel, by decide +kernel⟩
theorem ok_is_batch {P : Program} {w : World} {K : PySem.W.Frag} {mg : Str → Option Value} {base : Heap} (B : Bi mg) (F : ∃ fd, FunD K "is_batch" "is_batch" (defArgs st_is_batch) (defBody st_is_batch) (defScope st_is_batch) [] [] (He.ga K "is_batch") fd) (hm : mg "is_batch" = some (.ref (He.ga K "is_batch"))) (g_is_within : GF P w K mg base 2 "is_within" 3 .f dn_is_within) (g_is_whole : GF P w K mg base 1 "is_whole" 1 .f dn_is_whole) : GF P w K mg base 3 "is_batch" 2 .s dn_is_batch := by
  refine gf_of F hm sc_is_batch (by intro z; cases z) (fun _ _ _ _ _ _ us hl => match us, hl with | [_, _], _ => rfl) fun cdv A outer s H E S0 cn => ?_
  show PSs _ _ (tS _ K S0 H _ b_is_batch)
  unfold b_is_batch
  exact (ss_cons (s_if (PW.pt (tw_or (t_not (tst_of (e_isi B.isinstance B.tuple_ (by decide +kernel) (by decide) (wk (e_var 1))))) (tw_or (t_ne cn (wk (e_len B.len (wk (e_var 1)))) (wk e_int)) (tw_or (t_not (tst_of (e_call cn (GF.mono g_is_whole) (a_cons (e_ix (wk (e_var 1)) (wk e_int)) a_nil) (n_cons n_nil)))) (pw_or1 (t_lt (wk (e_ix (wk (e_var 1)) (wk e_int))) (wk e_int)))))))
 (ss_one (s_retS e_bl))
 ss_nil)
 (ss_cons (s_set cn 2 (fs (e_sub (wk (e_len B.len (wk (e_ix (wk (e_var 0)) (wk e_int))))) (wk e_int))))
 (ss_one (s_retS (fs (e_andV (wk (e_all cn B.all_ (wk (e_comp cn (i_seq (by intro z; cases z) (wk (e_slice (wk (e_var 1)) o_none (o_some (wk e_int))))) (own := [("day", 3)]) (by kernel_rfl) (fun _ _ _ _ _ _ nd calm => (g_nm nd 3)) (gk_nm (by decide)) (fun _ _ _ _ _ _ cn => ts_nil) (fun _ _ _ _ _ _ cn => (fs (e_call cn (GF.mono g_is_within) (a_cons (e_var 3) (a_cons e_int (a_cons (e_var 2) a_nil))) (n_cons (n_cons (n_cons n_nil)))))))))) (e_one (e_le (wk (e_ix (wk (e_var 1)) (wk e_int))) (wk (e_ix (wk (e_var 1)) (wk e_int)))))))))))
abbrev st_are_batches : Stmt := top 31
theorem sc_are_batches : FnScope ["bakery", "thing", "place", "mixed", "baked", "given", "many", "batch"] ["bakery", "thing"] (defScope st_are_batches) := ⟨rfl, rfl, rfl, by decide +kernel, rfl, by decide +kernel, by decide +kernel⟩
theorem ok_are_batches {P : Program} {w : World} {K : PySem.W.Frag} {mg : Str → Option Value} {base : Heap} (B : Bi mg) (F : ∃ fd, FunD K "are_batches" "are_batches" (defArgs st_are_batches) (defBody st_are_batches) (defScope st_are_batches) [] [] (He.ga K "are_batches") fd) (hm : mg "are_batches" = some (.ref (He.ga K "are_batches"))) (g_price_of : GF P w K mg base 2 "price_of" 3 .s dn_price_of) (g_is_batch : GF P w K mg base 3 "is_batch" 2 .s dn_is_batch) : GF P w K mg base 4 "are_batches" 2 .s dn_are_batches := by
  refine gf_of F hm sc_are_batches (by intro z; cases z) (fun _ _ _ _ _ _ us hl => match us, hl with | [_, _], _ => rfl) fun cdv A outer s H E S0 cn => ?_
  show PSs _ _ (tS _ K S0 H _ b_are_batches)
  unfold b_are_batches b_are_batches_p1
  exact (ss_cons (s_if (PW.pt (tw_or (t_not (tst_of (e_isi B.isinstance B.list_ (by decide +kernel) (by decide) (wk (e_var 1))))) (pw_or1 (t_not (tst_of (e_all cn B.all_ (wk (e_comp cn (i_seq (by intro z; cases z) (wk (e_var 1))) (own := [("batch", 7)]) (by kernel_rfl) (fun _ _ _ _ _ _ nd calm => (g_nm nd 7)) (gk_nm (by decide)) (fun _ _ _ _ _ _ cn => ts_nil) (fun _ _ _ _ _ _ cn => (e_call cn (GF.mono g_is_batch) (a_cons (e_var 0) (a_cons (e_var 7) a_nil)) (n_cons (n_cons n_nil))))))))))))
 (ss_one (s_retS e_bl))
 ss_nil)
 (ss_cons (wp0 [2] (s_for (vs := [2]) cn (i_rng2 B.range (w_cons (wk e_int) (w_cons (wk (e_len B.len (wk (e_var 1)))) w_nil))) (g_nm cn.nd 2)
 (wpe [2] (ss_one (s_if (t_geX cn (wk (e_slice (wk (e_ix (wk (e_var 1)) (wk (e_sub (wk (e_var 2)) (wk e_int))))) o_none (o_some (wk e_int)))) (wk (e_slice (wk (e_ix (wk (e_var 1)) (wk (e_var 2)))) o_none (o_some (wk e_int)))))
 (ss_one (s_retS e_bl))
 ss_nil)))))
 (ss_one (s_retS (fs (e_nin cn (wk e_non) (wk (e_comp cn (i_seq (by intro z; cases z) (wk (e_var 1))) (own := [("mixed", 3), ("baked", 4), ("given", 5), ("many", 6)]) (by kernel_rfl) (fun _ _ _ _ _ _ nd calm => (g_tp calm (g_cons (g_nm nd 3) (g_cons (g_nm nd 4) (g_cons (g_nm nd 5) (g_cons (g_nm nd 6) g_nil)))))) (gk_tp (gk_cons (gk_nm (by decide)) (gk_cons (gk_nm (by decide)) (gk_cons (gk_nm (by decide)) (gk_cons (gk_nm (by decide)) gk_nil))))) (fun _ _ _ _ _ _ cn => ts_nil) (fun _ _ _ _ _ _ cn => (e_call cn (GF.mono g_price_of) (a_cons (e_ix (wk (e_ix (wk (e_var 0)) (wk e_int))) (wk e_int)) (a_cons (e_var 4) (a_cons (e_var 5) a_nil))) (n_cons (n_cons (n_cons n_nil)))))))))))))
abbrev st_fits_doughs : Stmt := top 32
theorem sc_fits_doughs : FnScope ["bakery", "doughs", "thing", "day", "row", "mixed", "baked", "given", "many"] ["bakery", "doughs", "thing"] (defScope st_fits_doughs) := ⟨rfl, rfl, rfl, by decide +kernel, rfl, by decide +kernel, by decide +kernel⟩
theorem ok_fits_doughs {P : Program} {w : World} {K : PySem.W.Frag} {mg : Str → Option Value} {base : Heap} (B : Bi mg) (F : ∃ fd, FunD K "fits_doughs" "fits_doughs" (defArgs st_fits_doughs) (defBody st_fits_doughs) (defScope st_fits_doughs) [] [] (He.ga K "fits_doughs") fd) (hm : mg "fits_doughs" = some (.ref (He.ga K "fits_doughs"))) (g_are_batches : GF P w K mg base 4 "are_batches" 2 .s dn_are_batches) (g_look_at_doughs : GF P w K mg base 9 "look_at_doughs" 2 .f dn_look_at_doughs) : GF P w K mg base 10 "fits_doughs" 3 .s dn_fits_doughs := by
  refine gf_of F hm sc_fits_doughs (by intro z; cases z) (fun _ _ _ _ _ _ us hl => match us, hl with | [_, _, _], _ => rfl) fun cdv A outer s H E S0 cn => ?_
  show PSs _ _ (tS _ K S0 H _ b_fits_doughs)
  unfold b_fits_doughs b_fits_doughs_p1
  exact (ss_cons (s_expr (e_call cn (GF.mono g_look_at_doughs) (a_cons (e_var 0) (a_cons (e_var 1) a_nil)) (n_cons (n_cons n_nil))))
 (ss_cons (s_if (t_not (tst_of (e_call cn (GF.mono g_are_batches) (a_cons (e_var 0) (a_cons (e_var 2) a_nil)) (n_cons (n_cons n_nil)))))
 (ss_one (s_retS e_bl))
 ss_nil)
 (ss_cons (wp0 [3, 4] (s_for (vs := [3, 4]) cn (i_enum B.enumerate (by intro z; cases z) (e_ix (wk (e_ix (wk (e_ix (wk (e_var 0)) (wk e_int))) (wk e_int))) (wk e_int))) (g_tp cn.calm (g_cons (g_nm cn.nd 3) (g_cons (g_nm cn.nd 4) g_nil)))
 (wpe [3, 4] (ss_one (s_if (t_ne cn (wk (e_sum cn B.sum_ (wk (e_comp cn (i_seq (by intro z; cases z) (wk (e_var 2))) (own := [("mixed", 5), ("baked", 6), ("given", 7), ("many", 8)]) (by kernel_rfl) (fun _ _ _ _ _ _ nd calm => (g_tp calm (g_cons (g_nm nd 5) (g_cons (g_nm nd 6) (g_cons (g_nm nd 7) (g_cons (g_nm nd 8) g_nil)))))) (gk_tp (gk_cons (gk_nm (by decide)) (gk_cons (gk_nm (by decide)) (gk_cons (gk_nm (by decide)) (gk_cons (gk_nm (by decide)) gk_nil))))) (fun _ _ _ _ _ _ cn => (ts_one (t_eq cn (wk (e_var 7)) (wk (e_var 3))))) (fun _ _ _ _ _ _ cn => (e_var 8)))))) (wk (e_ix (wk (e_var 4)) (wk e_int))))
 (ss_one (s_retS e_bl))
 ss_nil)))))
 (ss_one (s_retS e_bl)))))
abbrev st__law_cell_at : Stmt := top 34
theorem sc__law_cell_at : FnScope ["_law_script", "_law_k"] ["_law_script", "_law_k"] (defScope st__law_cell_at) := ⟨rfl, rfl, rfl, by decide +kernel, rfl, by decide +kernel, by decide +kernel⟩
theorem ok__law_cell_at {P : Program} {w : World} {K : PySem.W.Frag} {mg : Str → Option Value} {base : Heap} (B : Bi mg) (F : ∃ fd, FunD K "_law_cell_at" "_law_cell_at" (defArgs st__law_cell_at) (defBody st__law_cell_at) (defScope st__law_cell_at) [] [] (He.ga K "_law_cell_at") fd) (hm : mg "_law_cell_at" = some (.ref (He.ga K "_law_cell_at"))) : GF P w K mg base 1 "_law_cell_at" 2 .s dn__law_cell_at := by
  refine gf_of F hm sc__law_cell_at (by intro z; cases z) (fun _ _ _ _ _ _ us hl => match us, hl with | [_, _], _ => rfl) fun cdv A outer s H E S0 cn => ?_
  show PSs _ _ (tS _ K S0 H _ b__law_cell_at)
  unfold b__law_cell_at
  exact (ss_cons (s_if (t_lt (wk (e_var 1)) (wk (e_len B.len (wk (e_var 0)))))
 (ss_one (s_retS (e_ix (wk (e_var 0)) (wk (e_var 1)))))
 ss_nil)
 (ss_one (s_retS e_int)))
abbrev st__law_numbers : Stmt := top 35
theorem sc__law_numbers : FnScope ["_law_cell", "_law_salt", "_law_sizes", "_law_number", "_law_left", "_law_found", "_law_k", "_law_one"] ["_law_cell", "_law_salt", "_law_sizes"] (defScope st__law_numbers) := ⟨rfl, rfl, rfl, by decide +kernel, rfl, by decide +kernel, by decide +kernel⟩
theorem ok__law_numbers {P : Program} {w : World} {K : PySem.W.Frag} {mg : Str → Option Value} {base : Heap} (B : Bi mg) (F : ∃ fd, FunD K "_law_numbers" "_law_numbers" (defArgs st__law_numbers) (defBody st__law_numbers) (defScope st__law_numbers) [] [] (He.ga K "_law_numbers") fd) (hm : mg "_law_numbers" = some (.ref (He.ga K "_law_numbers"))) : GF P w K mg base 1 "_law_numbers" 3 .f dn__law_numbers := by
  refine gf_of F hm sc__law_numbers (by intro z; cases z) (fun _ _ _ _ _ _ us hl => match us, hl with | [_, _, _], _ => rfl) fun cdv A outer s H E S0 cn => ?_
  show PSs _ _ (tS _ K S0 H _ b__law_numbers)
  unfold b__law_numbers b__law_numbers_p1
  exact (ss_cons (s_set cn 3 (fs (e_max2 cn B.max_ (w_cons (wk (e_var 0)) (w_cons (wk (e_sub (wk (e_neg (wk e_int))) (wk (e_var 0)))) w_nil)))))
 (ss_cons (s_set cn 4 (e_var 3))
 (ss_cons (s_setF cn 5 (e_list a_nil))
 (ss_cons (wp0 [6, 7] (s_for (vs := [6]) cn (i_rng1 B.range (wk (e_len B.len (wk (e_var 2))))) (g_nm cn.nd 6)
 (wpe [6, 7] (ss_one (s_if (PW.pt (tw_and (t_geX cn (wk (e_var 3)) (wk (e_pow (wk e_int) (wk e_int)))) (pw_and1 (t_gt (wk (e_var 4)) (wk e_int)))))
 (ss_cons (s_append 5 (fs (e_mod (wk (e_var 4)) (wk (e_ix (wk (e_var 2)) (wk (e_var 6)))))))
 (ss_one (s_set cn 4 (fs (e_div (wk (e_var 4)) (wk (e_ix (wk (e_var 2)) (wk (e_var 6)))))))))
 (ss_cons (s_set cn 7 (fs (e_mod (wk (e_pow (wk (e_add (wk (e_add (wk (e_mod (wk (e_var 3)) (wk e_int))) (wk (e_mul (wk e_int) (wk (e_var 1)))))) (wk e_int))) (wk e_int))) (wk e_int))))
 (ss_cons (s_set cn 7 (fs (e_mod (wk (e_mul (wk (e_add (wk (e_var 7)) (wk (e_mul (wk e_int) (wk (e_add (wk (e_var 6)) (wk e_int))))))) (wk (e_add (wk (e_var 6)) (wk e_int))))) (wk e_int))))
 (ss_cons (s_set cn 7 (fs (e_mod (wk (e_mul (wk (e_mod (wk (e_pow (wk (e_var 7)) (wk e_int))) (wk e_int))) (wk e_int))) (wk e_int))))
 (ss_one (s_append 5 (fs (e_mod (wk (e_div (wk (e_var 7)) (wk e_int))) (wk (e_ix (wk (e_var 2)) (wk (e_var 6))))))))))))))))
 (ss_one (s_retOF 5))))))
abbrev st__law_whole : Stmt := top 36
theorem sc__law_whole : FnScope ["_law_thing"] ["_law_thing"] (defScope st__law_whole) := ⟨rfl, rfl, rfl, by decide +kernel, rfl, by decide +kernel, by decide +kernel⟩
theorem ok__law_whole {P : Program} {w : World} {K : PySem.W.Frag} {mg : Str → Option Value} {base : Heap} (B : Bi mg) (F : ∃ fd, FunD K "_law_whole" "_law_whole" (defArgs st__law_whole) (defBody st__law_whole) (defScope st__law_whole) [] [] (He.ga K "_law_whole") fd) (hm : mg "_law_whole" = some (.ref (He.ga K "_law_whole"))) : GF P w K mg base 1 "_law_whole" 1 .f dn_is_whole := by
  refine gf_of F hm sc__law_whole (by intro z; cases z) (fun _ _ _ _ _ _ us hl => match us, hl with | [_], _ => rfl) fun cdv A outer s H E S0 cn => ?_
  show PSs _ _ (tS _ K S0 H _ b_is_whole)
  unfold b_is_whole
  exact (ss_one (s_retF (e_andV (wk (e_isi B.isinstance B.int_ (by decide +kernel) (by decide) (wk (e_var 0)))) (e_one (e_notV (wk (e_isi B.isinstance B.bool_ (by decide +kernel) (by decide) (wk (e_var 0)))))))))
abbrev st__law_day : Stmt := top 37
theorem sc__law_day : FnScope ["_law_digits", "_law_late", "_law_want", "_law_loaf", "_law_keep", "_law_fine", "_law_light", "_law_none", "_law_far"] ["_law_digits", "_law_late"] (defScope st__law_day) := ⟨rfl, rfl, rfl, by decide +kernel, rfl, by decide +kernel, by decide +kernel⟩
theorem ok__law_day {P : Program} {w : World} {K : PySem.W.Frag} {mg : Str → Option Value} {base : Heap} (B : Bi mg) (F : ∃ fd, FunD K "_law_day" "_law_day" (defArgs st__law_day) (defBody st__law_day) (defScope st__law_day) [] [] (He.ga K "_law_day") fd) (hm : mg "_law_day" = some (.ref (He.ga K "_law_day"))) : GF P w K mg base 1 "_law_day" 2 .f dn__law_day_2 := by
  refine gf_of F hm sc__law_day (by intro z; cases z) (fun _ _ _ _ _ _ us hl => match us, hl with | [_, _], _ => rfl) fun cdv A outer s H E S0 cn => ?_
  show PSs _ _ (tS _ K S0 H _ b__law_day_2)
  unfold b__law_day_2
  exact (ss_cons (s_asg (vs := [2, 3, 4, 5, 6, 7, 8]) (e_var 0) (g_tp cn.calm (g_cons (g_nm cn.nd 2) (g_cons (g_nm cn.nd 3) (g_cons (g_nm cn.nd 4) (g_cons (g_nm cn.nd 5) (g_cons (g_nm cn.nd 6) (g_cons (g_nm cn.nd 7) (g_cons (g_nm cn.nd 8) g_nil)))))))))
 (ss_one (s_retF (e_tup (a_cons (e_var 6) (a_cons (fs (e_tup (a_cons (fs (e_mul (wk (e_var 2)) (wk (e_int1 B.int_ (wk (e_gt (wk (e_var 7)) (wk e_int))))))) (a_cons (e_var 3) (a_cons (e_var 4) (a_cons (e_ix (wk (e_list (a_cons e_non (a_cons (e_var 5) a_nil)))) (wk (e_int1 B.int_ (wk (e_andV (wk (e_var 1)) (e_one (e_gt (wk (e_var 8)) (wk e_int)))))))) a_nil)))))) a_nil))))))
abbrev st__law_bakery : Stmt := top 38
theorem sc__law_bakery : FnScope ["_law_script", "_law_upto", "_law_salt", "_law_head", "_law_sizes", "_law_lights", "_law_days", "_law_k", "_law_light", "_law_day_here"] ["_law_script", "_law_upto", "_law_salt"] (defScope st__law_bakery) := ⟨rfl, rfl, rfl, by decide +kernel, rfl, by decide +kernel, by decide +kernel⟩
theorem ok__law_bakery {P : Program} {w : World} {K : PySem.W.Frag} {mg : Str → Option Value} {base : Heap} (B : Bi mg) (F : ∃ fd, FunD K "_law_bakery" "_law_bakery" (defArgs st__law_bakery) (defBody st__law_bakery) (defScope st__law_bakery) [] [] (He.ga K "_law_bakery") fd) (hm : mg "_law_bakery" = some (.ref (He.ga K "_law_bakery"))) (g__law_day : GF P w K mg base 1 "_law_day" 2 .f dn__law_day_2) (g__law_numbers : GF P w K mg base 1 "_law_numbers" 3 .f dn__law_numbers) (g__law_cell_at : GF P w K mg base 1 "_law_cell_at" 2 .s dn__law_cell_at) : GF P w K mg base 2 "_law_bakery" 3 .f dn__law_bakery_2 := by
  refine gf_of F hm sc__law_bakery (by intro z; cases z) (fun _ _ _ _ _ _ us hl => match us, hl with | [_, _, _], _ => rfl) fun cdv A outer s H E S0 cn => ?_
  show PSs _ _ (tS _ K S0 H _ b__law_bakery_2)
  unfold b__law_bakery_2 b__law_bakery_2_p1
  exact (ss_cons (s_set cn 3 (fs (e_call cn (GF.mono g__law_numbers) (a_cons (e_call cn (GF.mono g__law_cell_at) (a_cons (e_var 0) (a_cons e_int a_nil)) (n_cons (n_cons n_nil))) (a_cons (e_var 2) (a_cons (fs (e_list (a_cons e_int (a_cons e_int (a_cons e_int a_nil))))) a_nil))) (n_cons (n_cons (n_cons n_nil))))))
 (ss_cons (s_set cn 4 (fs (e_add (wk (e_ix (wk (e_list (a_cons (fs (e_list (a_cons e_int (a_cons e_int (a_cons e_int (a_cons e_int (a_cons e_int a_nil))))))) (a_cons (fs (e_mul (wk (e_list (a_cons (fs (e_add (wk (e_pow (wk e_int) (wk e_int))) (wk e_int))) a_nil))) (wk e_int))) a_nil)))) (wk (e_int1 B.int_ (wk (e_eq cn (wk (e_ix (wk (e_var 3)) (wk e_int))) (wk e_int))))))) (wk (e_list (a_cons e_int (a_cons e_int a_nil)))))))
 (ss_cons (s_setF cn 5 (e_list a_nil))
 (ss_cons (s_setF cn 6 (e_list a_nil))
 (ss_cons (wp0 [7, 8, 9] (s_for (vs := [7]) cn (i_rng2 B.range (w_cons (wk e_int) (w_cons (wk (e_max2 cn B.max_ (w_cons (wk e_int) (w_cons (wk (e_min2 cn B.min_ (w_cons (wk (e_var 1)) (w_cons (wk (e_len B.len (wk (e_var 0)))) w_nil)))) w_nil)))) w_nil))) (g_nm cn.nd 7)
 (wpe [7, 8, 9] (ss_cons (s_asg (vs := [8, 9]) (fs (e_call cn (GF.mono g__law_day) (a_cons (fs (e_call cn (GF.mono g__law_numbers) (a_cons (e_call cn (GF.mono g__law_cell_at) (a_cons (e_var 0) (a_cons (e_var 7) a_nil)) (n_cons (n_cons n_nil))) (a_cons (fs (e_add (wk (e_var 2)) (wk (e_var 7)))) (a_cons (e_var 4) a_nil))) (n_cons (n_cons (n_cons n_nil))))) (a_cons (fs (e_eq cn (wk (e_ix (wk (e_var 3)) (wk e_int))) (wk e_int))) a_nil)) (n_cons (n_cons n_nil)))) (g_tp cn.calm (g_cons (g_nm cn.nd 8) (g_cons (g_nm cn.nd 9) g_nil))))
 (ss_cons (s_append 5 (e_var 8))
 (ss_one (s_append 6 (e_var 9))))))))
 (ss_one (rel (i := 5) (rel (i := 6) (s_retF (e_tup (a_cons (e_var 5) (a_cons e_non (a_cons (fs (e_list (a_cons (fs (e_tup (a_cons (e_var 6) (a_cons (e_ix (wk (e_list (a_cons e_non (a_cons e_non (a_cons e_int (a_cons e_int (a_cons e_int (a_cons e_int (a_cons e_int (a_cons e_int (a_cons e_int (a_cons e_int (a_cons e_int (a_cons e_int a_nil)))))))))))))) (wk (e_ix (wk (e_var 3)) (wk e_int)))) a_nil)))) a_nil))) a_nil)))))))))))))
abbrev st__law_price : Stmt := top 39
theorem sc__law_price : FnScope ["_law_good", "_law_baked", "_law_given", "_law_days", "_law_life", "_law_fines", "_law_row"] ["_law_good", "_law_baked", "_law_given"] (defScope st__law_price) := ⟨rfl, rfl, rfl, by decide +kernel, rfl, by decide +kernel, by decide +kernel⟩
theorem ok__law_price {P : Program} {w : World} {K : PySem.W.Frag} {mg : Str → Option Value} {base : Heap} (B : Bi mg) (F : ∃ fd, FunD K "_law_price" "_law_price" (defArgs st__law_price) (defBody st__law_price) (defScope st__law_price) [] [] (He.ga K "_law_price") fd) (hm : mg "_law_price" = some (.ref (He.ga K "_law_price"))) : GF P w K mg base 1 "_law_price" 3 .s dn__law_price := by
  refine gf_of F hm sc__law_price (by intro z; cases z) (fun _ _ _ _ _ _ us hl => match us, hl with | [_, _, _], _ => rfl) fun cdv A outer s H E S0 cn => ?_
  show PSs _ _ (tS _ K S0 H _ b__law_price)
  unfold b__law_price
  exact (ss_cons (s_asg (vs := [3, 4]) (e_var 0) (g_tp cn.calm (g_cons (g_nm cn.nd 3) (g_cons (g_nm cn.nd 4) g_nil))))
 (ss_cons (s_if (t_gt (wk (e_var 1)) (wk (e_var 2)))
 (ss_cons (fz 5 (by first | exact (s_setC cn 5 (i_seq (by intro z; cases z) (wk (e_slice (wk (e_var 3)) (o_some (wk (e_var 2))) (o_some (wk (e_var 1)))))) (own := [("_law_row", 6)]) (by kernel_rfl) (fun _ _ _ _ _ _ nd calm => (g_nm nd 6)) (gk_nm (by decide)) (fun _ _ _ _ _ _ cn => ts_nil) (fun _ _ _ _ _ _ cn => (e_ix (wk (e_var 6)) (wk e_int)))) | exact (s_setF cn 5 (e_comp cn (i_seq (by intro z; cases z) (wk (e_slice (wk (e_var 3)) (o_some (wk (e_var 2))) (o_some (wk (e_var 1)))))) (own := [("_law_row", 6)]) (by kernel_rfl) (fun _ _ _ _ _ _ nd calm => (g_nm nd 6)) (gk_nm (by decide)) (fun _ _ _ _ _ _ cn => ts_nil) (fun _ _ _ _ _ _ cn => (e_ix (wk (e_var 6)) (wk e_int)))))))
 (ss_one (s_retS (e_if (t_in cn (wk e_non) (wk (e_var 5))) e_non (fs (e_add (wk (e_ix (wk (e_ix (wk (e_var 3)) (wk (e_var 1)))) (wk e_int))) (wk (e_sum cn B.sum_ (wk (e_var 5))))))))))
 ss_nil)
 (ss_cons (s_if (PW.pt (tw_and (t_notN (wk (e_var 4))) (pw_and1 (t_gt (wk (e_sub (wk (e_var 2)) (wk (e_var 1)))) (wk (e_var 4))))))
 (ss_one (s_retS e_non))
 ss_nil)
 (ss_one (s_retS (fs (e_add (wk (e_ix (wk (e_ix (wk (e_var 3)) (wk (e_var 1)))) (wk e_int))) (wk (e_sum cn B.sum_ (wk (e_comp cn (i_seq (by intro z; cases z) (wk (e_slice (wk (e_var 3)) (o_some (wk (e_var 1))) (o_some (wk (e_var 2)))))) (own := [("_law_row", 6)]) (by kernel_rfl) (fun _ _ _ _ _ _ nd calm => (g_nm nd 6)) (gk_nm (by decide)) (fun _ _ _ _ _ _ cn => ts_nil) (fun _ _ _ _ _ _ cn => (e_ix (wk (e_var 6)) (wk e_int))))))))))))))
abbrev st__law_later : Stmt := top 41
theorem sc__law_later : FnScope ["_law_cell"] ["_law_cell"] (defScope st__law_later) := ⟨rfl, rfl, rfl, by decide +kernel, rfl, by decide +kernel, by decide +kernel⟩
theorem ok__law_later {P : Program} {w : World} {K : PySem.W.Frag} {mg : Str → Option Value} {base : Heap} (B : Bi mg) (F : ∃ fd, FunD K "_law_later" "_law_later" (defArgs st__law_later) (defBody st__law_later) (defScope st__law_later) [] [] (He.ga K "_law_later") fd) (hm : mg "_law_later" = some (.ref (He.ga K "_law_later"))) : GF P w K mg base 1 "_law_later" 1 .f dn__law_later_2 := by
  refine gf_of F hm sc__law_later (by intro z; cases z) (fun _ _ _ _ _ _ us hl => match us, hl with | [_], _ => rfl) fun cdv A outer s H E S0 cn => ?_
  show PSs _ _ (tS _ K S0 H _ b__law_later_2)
  unfold b__law_later_2
  exact (ss_one (s_retF (e_div (wk (e_var 0)) (wk (e_ix (wk (e_list (a_cons e_int (a_cons (fs (e_pow (wk e_int) (wk e_int))) a_nil)))) (wk (e_int1 B.int_ (wk (e_geX cn (wk (e_var 0)) (wk (e_pow (wk e_int) (wk e_int))))))))))))
abbrev st__law_doughs : Stmt := top 40
theorem sc__law_doughs : FnScope ["_law_script", "_law_many", "_law_salt", "_law_wide", "_law_found", "_law_day_here", "_law_cell", "_law_digits"] ["_law_script", "_law_many", "_law_salt"] (defScope st__law_doughs) := ⟨rfl, rfl, rfl, by decide +kernel, rfl, by decide +kernel, by decide +kernel⟩
theorem ok__law_doughs {P : Program} {w : World} {K : PySem.W.Frag} {mg : Str → Option Value} {base : Heap} (B : Bi mg) (F : ∃ fd, FunD K "_law_doughs" "_law_doughs" (defArgs st__law_doughs) (defBody st__law_doughs) (defScope st__law_doughs) [] [] (He.ga K "_law_doughs") fd) (hm : mg "_law_doughs" = some (.ref (He.ga K "_law_doughs"))) (g__law_numbers : GF P w K mg base 1 "_law_numbers" 3 .f dn__law_numbers) (g__law_later : GF P w K mg base 1 "_law_later" 1 .f dn__law_later_2) (g__law_cell_at : GF P w K mg base 1 "_law_cell_at" 2 .s dn__law_cell_at) : GF P w K mg base 2 "_law_doughs" 3 .f dn__law_doughs := by
  refine gf_of F hm sc__law_doughs (by intro z; cases z) (fun _ _ _ _ _ _ us hl => match us, hl with | [_, _, _], _ => rfl) fun cdv A outer s H E S0 cn => ?_
  show PSs _ _ (tS _ K S0 H _ b__law_doughs)
  unfold b__law_doughs b__law_doughs_p1
  exact (ss_cons (s_set cn 3 (fs (e_eq cn (wk (e_ix (wk (e_call cn (GF.mono g__law_numbers) (a_cons (e_call cn (GF.mono g__law_cell_at) (a_cons (e_var 0) (a_cons e_int a_nil)) (n_cons (n_cons n_nil))) (a_cons (e_var 2) (a_cons (fs (e_list (a_cons e_int a_nil))) a_nil))) (n_cons (n_cons (n_cons n_nil))))) (wk e_int))) (wk e_int))))
 (ss_cons (s_setF cn 4 (e_list a_nil))
 (ss_cons (wp0 [5, 6, 7] (s_for (vs := [5]) cn (i_rng1 B.range (wk (e_var 1))) (g_nm cn.nd 5)
 (wpe [5, 6, 7] (ss_cons (s_set cn 6 (fs (e_call cn (GF.mono g__law_later) (a_cons (e_call cn (GF.mono g__law_cell_at) (a_cons (e_var 0) (a_cons (fs (e_add (wk e_int) (wk (e_var 5)))) a_nil)) (n_cons (n_cons n_nil))) a_nil) (n_cons n_nil))))
 (ss_cons (s_set cn 7 (fs (e_call cn (GF.mono g__law_numbers) (a_cons (e_var 6) (a_cons (fs (e_add (wk (e_add (wk (e_var 2)) (wk e_int))) (wk (e_var 5)))) (a_cons (e_ix (wk (e_list (a_cons (fs (e_list (a_cons e_int (a_cons e_int (a_cons e_int a_nil))))) (a_cons (fs (e_mul (wk (e_list (a_cons (fs (e_add (wk (e_pow (wk e_int) (wk e_int))) (wk e_int))) a_nil))) (wk e_int))) a_nil)))) (wk (e_int1 B.int_ (wk (e_var 3))))) a_nil))) (n_cons (n_cons (n_cons n_nil))))))
 (ss_one (s_append 4 (fs (e_tuplec B.tuple_ (wk (e_var 7)))))))))))
 (ss_one (s_retOF 4)))))
abbrev st__law_batches : Stmt := top 42
theorem sc__law_batches : FnScope ["_law_script", "_law_salt", "_law_good", "_law_found", "_law_days", "_law_life", "_law_given", "_law_row", "_law_cell", "_law_digits", "_law_there", "_law_part", "_law_turn", "_law_many", "_law_baked", "_law_key"] ["_law_script", "_law_salt", "_law_good"] (defScope st__law_batches) := ⟨rfl, rfl, rfl, by decide +kernel, rfl, by decide +kernel, by decide +kernel⟩
theorem ok__law_batches {P : Program} {w : World} {K : PySem.W.Frag} {mg : Str → Option Value} {base : Heap} (B : Bi mg) (F : ∃ fd, FunD K "_law_batches" "_law_batches" (defArgs st__law_batches) (defBody st__law_batches) (defScope st__law_batches) [] [] (He.ga K "_law_batches") fd) (hm : mg "_law_batches" = some (.ref (He.ga K "_law_batches"))) (g__law_price : GF P w K mg base 1 "_law_price" 3 .s dn__law_price) (g__law_numbers : GF P w K mg base 1 "_law_numbers" 3 .f dn__law_numbers) (g__law_later : GF P w K mg base 1 "_law_later" 1 .f dn__law_later_2) (g__law_cell_at : GF P w K mg base 1 "_law_cell_at" 2 .s dn__law_cell_at) : GF P w K mg base 2 "_law_batches" 3 .f dn__law_batches := by
  refine gf_of F hm sc__law_batches (by intro z; cases z) (fun _ _ _ _ _ _ us hl => match us, hl with | [_, _, _], _ => rfl) fun cdv A outer s H E S0 cn => ?_
  show PSs _ _ (tS _ K S0 H _ b__law_batches)
  unfold b__law_batches b__law_batches_p2 b__law_batches_p1
  exact (ss_cons (s_asg (vs := [4, 5]) (e_var 2) (g_tp cn.calm (g_cons (g_nm cn.nd 4) (g_cons (g_nm cn.nd 5) g_nil))))
 (ss_cons (s_setF cn 3 e_dict0T)
 (ss_cons (wp0 [6, 7, 8, 9, 10, 11, 12, 13, 14, 15] (s_for (vs := [6, 7]) cn (i_enum B.enumerate (by intro z; cases z) (e_var 4)) (g_tp cn.calm (g_cons (g_nm cn.nd 6) (g_cons (g_nm cn.nd 7) g_nil)))
 (wpe [6, 7, 8, 9, 10, 11, 12, 13, 14, 15] (ss_cons (s_set cn 8 (fs (e_call cn (GF.mono g__law_later) (a_cons (e_call cn (GF.mono g__law_cell_at) (a_cons (e_var 0) (a_cons (fs (e_add (wk e_int) (wk (e_var 6)))) a_nil)) (n_cons (n_cons n_nil))) a_nil) (n_cons n_nil))))
 (ss_cons (s_set cn 9 (fs (e_call cn (GF.mono g__law_numbers) (a_cons (e_var 8) (a_cons (fs (e_add (wk (e_var 1)) (wk (e_var 6)))) (a_cons (fs (e_list (a_cons e_int (a_cons e_int (a_cons e_int (a_cons e_int (a_cons (fs (e_add (wk (e_pow (wk e_int) (wk e_int))) (wk e_int))) a_nil))))))) a_nil))) (n_cons (n_cons (n_cons n_nil))))))
 (ss_cons (fz 10 (by first | exact (s_setC cn 10 (i_rng1 B.range (wk (e_len B.len (wk (e_var 4))))) (own := [("_law_baked", 14)]) (by kernel_rfl) (fun _ _ _ _ _ _ nd calm => (g_nm nd 14)) (gk_nm (by decide)) (fun _ _ _ _ _ _ cn => (ts_one (t_notN (wk (e_call cn (GF.mono g__law_price) (a_cons (e_var 2) (a_cons (e_var 14) (a_cons (e_var 6) a_nil))) (n_cons (n_cons (n_cons n_nil)))))))) (fun _ _ _ _ _ _ cn => (e_var 14))) | exact (s_setF cn 10 (e_comp cn (i_rng1 B.range (wk (e_len B.len (wk (e_var 4))))) (own := [("_law_baked", 14)]) (by kernel_rfl) (fun _ _ _ _ _ _ nd calm => (g_nm nd 14)) (gk_nm (by decide)) (fun _ _ _ _ _ _ cn => (ts_one (t_notN (wk (e_call cn (GF.mono g__law_price) (a_cons (e_var 2) (a_cons (e_var 14) (a_cons (e_var 6) a_nil))) (n_cons (n_cons (n_cons n_nil)))))))) (fun _ _ _ _ _ _ cn => (e_var 14))))))
 (ss_cons (s_set cn 11 (fs (e_mod (wk (e_ix (wk (e_var 9)) (wk e_int))) (wk (e_add (wk (e_ix (wk (e_var 7)) (wk e_int))) (wk e_int))))))
 (ss_one (wp0 [12, 13, 14, 15] (s_for (vs := [12, 13]) cn (i_seq (by intro z; cases z) (fs (e_list (a_cons (fs (e_tup (a_cons e_int (a_cons (fs (e_sub (wk (e_ix (wk (e_var 7)) (wk e_int))) (wk (e_var 11)))) a_nil)))) (a_cons (fs (e_tup (a_cons e_int (a_cons (e_var 11) a_nil)))) a_nil))))) (g_tp cn.calm (g_cons (g_nm cn.nd 12) (g_cons (g_nm cn.nd 13) g_nil)))
 (wpe [12, 13, 14, 15] (ss_cons (s_set cn 14 (e_ix (wk (e_var 10)) (wk (e_mod (wk (e_ix (wk (e_var 9)) (wk (e_var 12)))) (wk (e_len B.len (wk (e_var 10))))))))
 (ss_cons (s_set cn 15 (fs (e_tup (a_cons (fs (e_mod (wk (e_ix (wk (e_var 9)) (wk (e_add (wk (e_var 12)) (wk e_int))))) (wk (e_add (wk (e_var 14)) (wk e_int))))) (a_cons (e_var 14) (a_cons (e_var 6) a_nil))))))
 (ss_one (s_if (t_gt (wk (e_var 13)) (wk e_int))
 (ss_one (s_dputT cn 3 (fs (e_add (wk (e_dget2 cn (e_varW 3) (wk (e_var 15)) e_int)) (wk (e_var 13)))) (e_var 15)))
 ss_nil)))))))))))))))
 (ss_one (s_retF (e_comp cn (i_seq (by intro z; cases z) (wk (e_sortedDT cn B.sorted_ (e_varW 3)))) (own := [("_law_key", 15)]) (by kernel_rfl) (fun _ _ _ _ _ _ nd calm => (g_nm nd 15)) (gk_nm (by decide)) (fun _ _ _ _ _ _ cn => ts_nil) (fun _ _ _ _ _ _ cn => (fs (e_add (wk (e_var 15)) (wk (e_tup (a_cons (e_dget cn (e_varW 3) (wk (e_var 15))) a_nil))))))))))))
abbrev st__law_is_batch : Stmt := top 43
theorem sc__law_is_batch : FnScope ["_law_bakery_here", "_law_batch", "_law_mixed", "_law_baked", "_law_given", "_law_many", "_law_part"] ["_law_bakery_here", "_law_batch"] (defScope st__law_is_batch) := ⟨rfl, rfl, rfl, by decide +kernel, rfl, by decide +kernel, by decide +kernel⟩
theorem ok__law_is_batch {P : Program} {w : World} {K : PySem.W.Frag} {mg : Str → Option Value} {base : Heap} (B : Bi mg) (F : ∃ fd, FunD K "_law_is_batch" "_law_is_batch" (defArgs st__law_is_batch) (defBody st__law_is_batch) (defScope st__law_is_batch) [] [] (He.ga K "_law_is_batch") fd) (hm : mg "_law_is_batch" = some (.ref (He.ga K "_law_is_batch"))) (g__law_price : GF P w K mg base 1 "_law_price" 3 .s dn__law_price) (g__law_whole : GF P w K mg base 1 "_law_whole" 1 .f dn_is_whole) : GF P w K mg base 2 "_law_is_batch" 2 .s dn__law_is_batch := by
  refine gf_of F hm sc__law_is_batch (by intro z; cases z) (fun _ _ _ _ _ _ us hl => match us, hl with | [_, _], _ => rfl) fun cdv A outer s H E S0 cn => ?_
  show PSs _ _ (tS _ K S0 H _ b__law_is_batch)
  unfold b__law_is_batch
  exact (ss_cons (s_if (PW.pt (tw_or (t_not (tst_of (e_isi B.isinstance B.tuple_ (by decide +kernel) (by decide) (wk (e_var 1))))) (tw_or (t_ne cn (wk (e_len B.len (wk (e_var 1)))) (wk e_int)) (pw_or1 (t_not (tst_of (e_all cn B.all_ (wk (e_comp cn (i_seq (by intro z; cases z) (wk (e_var 1))) (own := [("_law_part", 6)]) (by kernel_rfl) (fun _ _ _ _ _ _ nd calm => (g_nm nd 6)) (gk_nm (by decide)) (fun _ _ _ _ _ _ cn => ts_nil) (fun _ _ _ _ _ _ cn => (fs (e_call cn (GF.mono g__law_whole) (a_cons (e_var 6) a_nil) (n_cons n_nil)))))))))))))
 (ss_one (s_retS e_bl))
 ss_nil)
 (ss_cons (s_asg (vs := [2, 3, 4, 5]) (e_var 1) (g_tp cn.calm (g_cons (g_nm cn.nd 2) (g_cons (g_nm cn.nd 3) (g_cons (g_nm cn.nd 4) (g_cons (g_nm cn.nd 5) g_nil))))))
 (ss_cons (s_if (PW.pt (tw_or (t_lt (wk (e_min3 cn B.min_ (w_cons (wk (e_var 2)) (w_cons (wk (e_var 3)) (w_cons (wk (e_var 4)) w_nil))))) (wk e_int)) (tw_or (t_geX cn (wk (e_max3 cn B.max_ (w_cons (wk (e_var 2)) (w_cons (wk (e_var 3)) (w_cons (wk (e_var 4)) w_nil))))) (wk (e_len B.len (wk (e_ix (wk (e_var 0)) (wk e_int)))))) (tw_or (t_gt (wk (e_var 2)) (wk (e_var 3))) (pw_or1 (t_lt (wk (e_var 5)) (wk e_int)))))))
 (ss_one (s_retS e_bl))
 ss_nil)
 (ss_one (s_retS (fs (e_notN (wk (e_call cn (GF.mono g__law_price) (a_cons (e_ix (wk (e_ix (wk (e_var 0)) (wk e_int))) (wk e_int)) (a_cons (e_var 3) (a_cons (e_var 4) a_nil))) (n_cons (n_cons (n_cons n_nil))))))))))))
abbrev st__law_fits : Stmt := top 44
theorem sc__law_fits : FnScope ["_law_bakery_here", "_law_thing", "_law_left", "_law_before", "_law_batch", "_law_row"] ["_law_bakery_here", "_law_thing"] (defScope st__law_fits) := ⟨rfl, rfl, rfl, by decide +kernel, rfl, by decide +kernel, by decide +kernel⟩
theorem ok__law_fits {P : Program} {w : World} {K : PySem.W.Frag} {mg : Str → Option Value} {base : Heap} (B : Bi mg) (F : ∃ fd, FunD K "_law_fits" "_law_fits" (defArgs st__law_fits) (defBody st__law_fits) (defScope st__law_fits) [] [] (He.ga K "_law_fits") fd) (hm : mg "_law_fits" = some (.ref (He.ga K "_law_fits"))) (g__law_is_batch : GF P w K mg base 2 "_law_is_batch" 2 .s dn__law_is_batch) : GF P w K mg base 3 "_law_fits" 2 .s dn__law_fits_2 := by
  refine gf_of F hm sc__law_fits (by intro z; cases z) (fun _ _ _ _ _ _ us hl => match us, hl with | [_, _], _ => rfl) fun cdv A outer s H E S0 cn => ?_
  show PSs _ _ (tS _ K S0 H _ b__law_fits_2)
  unfold b__law_fits_2 b__law_fits_2_p1
  exact (ss_cons (s_if (t_not (tst_of (e_isi B.isinstance B.list_ (by decide +kernel) (by decide) (wk (e_var 1)))))
 (ss_one (s_retS e_bl))
 ss_nil)
 (ss_cons (by first | exact (s_setC cn 2 (i_seq (by intro z; cases z) (wk (e_ix (wk (e_ix (wk (e_ix (wk (e_var 0)) (wk e_int))) (wk e_int))) (wk e_int)))) (own := [("_law_row", 5)]) (by kernel_rfl) (fun _ _ _ _ _ _ nd calm => (g_nm nd 5)) (gk_nm (by decide)) (fun _ _ _ _ _ _ cn => ts_nil) (fun _ _ _ _ _ _ cn => (e_ix (wk (e_var 5)) (wk e_int)))) | exact (s_setF cn 2 (e_comp cn (i_seq (by intro z; cases z) (wk (e_ix (wk (e_ix (wk (e_ix (wk (e_var 0)) (wk e_int))) (wk e_int))) (wk e_int)))) (own := [("_law_row", 5)]) (by kernel_rfl) (fun _ _ _ _ _ _ nd calm => (g_nm nd 5)) (gk_nm (by decide)) (fun _ _ _ _ _ _ cn => ts_nil) (fun _ _ _ _ _ _ cn => (e_ix (wk (e_var 5)) (wk e_int))))))
 (ss_cons (s_set cn 3 (fs (e_tup (a_cons (fs (e_neg (wk e_int))) (a_cons e_int (a_cons e_int a_nil))))))
 (ss_cons (wp0 [4] (s_for (vs := [4]) cn (i_seq (by intro z; cases z) (e_var 1)) (g_nm cn.nd 4)
 (wpe [4] (ss_cons (s_if (PW.pt (tw_or (t_not (tst_of (e_call cn (GF.mono g__law_is_batch) (a_cons (e_var 0) (a_cons (e_var 4) a_nil)) (n_cons (n_cons n_nil))))) (pw_or1 (t_leX cn (wk (e_slice (wk (e_var 4)) o_none (o_some (wk e_int)))) (wk (e_var 3))))))
 (ss_one (s_retS e_bl))
 ss_nil)
 (ss_cons (s_set cn 3 (fs (e_slice (wk (e_var 4)) o_none (o_some (wk e_int)))))
 (ss_one (s_setIx 2 (fs (e_sub (wk (e_ix (e_varW 2) (wk (e_ix (wk (e_var 4)) (wk e_int))))) (wk (e_ix (wk (e_var 4)) (wk e_int))))) (wk (e_ix (wk (e_var 4)) (wk e_int))))))))))
 (ss_one (s_retS (fs (e_eq cn (e_varW 2) (wk (e_mul (wk (e_list (a_cons e_int a_nil))) (wk (e_len B.len (e_varW 2)))))))))))))
abbrev st__law_bent_batch : Stmt := top 45
theorem sc__law_bent_batch : FnScope ["_law_batch", "_law_digits", "_law_far", "_law_some", "_law_mixed", "_law_baked", "_law_given", "_law_many"] ["_law_batch", "_law_digits"] (defScope st__law_bent_batch) := ⟨rfl, rfl, rfl, by decide +kernel, rfl, by decide +kernel, by decide +kernel⟩
theorem ok__law_bent_batch {P : Program} {w : World} {K : PySem.W.Frag} {mg : Str → Option Value} {base : Heap} (B : Bi mg) (F : ∃ fd, FunD K "_law_bent_batch" "_law_bent_batch" (defArgs st__law_bent_batch) (defBody st__law_bent_batch) (defScope st__law_bent_batch) [] [] (He.ga K "_law_bent_batch") fd) (hm : mg "_law_bent_batch" = some (.ref (He.ga K "_law_bent_batch"))) : GF P w K mg base 1 "_law_bent_batch" 2 .s dn__law_bent_batch := by
  refine gf_of F hm sc__law_bent_batch (by intro z; cases z) (fun _ _ _ _ _ _ us hl => match us, hl with | [_, _], _ => rfl) fun cdv A outer s H E S0 cn => ?_
  show PSs _ _ (tS _ K S0 H _ b__law_bent_batch)
  unfold b__law_bent_batch
  exact (ss_cons (s_asg (vs := [4, 5, 6, 7]) (e_var 0) (g_tp cn.calm (g_cons (g_nm cn.nd 4) (g_cons (g_nm cn.nd 5) (g_cons (g_nm cn.nd 6) (g_cons (g_nm cn.nd 7) g_nil))))))
 (ss_cons (s_set cn 2 (fs (e_sub (wk (e_mod (wk (e_ix (wk (e_var 1)) (wk e_int))) (wk e_int))) (wk e_int))))
 (ss_cons (s_set cn 3 (fs (e_list (a_cons (fs (e_tup (a_cons (e_var 4) (a_cons (e_var 5) (a_cons (e_var 6) (a_cons (fs (e_add (wk (e_var 7)) (wk e_int))) a_nil)))))) (a_cons (fs (e_tup (a_cons (e_var 4) (a_cons (e_var 5) (a_cons (e_var 6) (a_cons (fs (e_sub (wk (e_var 7)) (wk e_int))) a_nil)))))) (a_cons (fs (e_tup (a_cons (e_var 2) (a_cons (e_var 5) (a_cons (e_var 6) (a_cons (e_var 7) a_nil)))))) a_nil))))))
 (ss_cons (s_set cn 3 (fs (e_add (wk (e_var 3)) (wk (e_list (a_cons (fs (e_tup (a_cons (e_var 4) (a_cons (e_var 2) (a_cons (e_var 6) (a_cons (e_var 7) a_nil)))))) (a_cons (fs (e_tup (a_cons (e_var 4) (a_cons (e_var 5) (a_cons (e_var 2) (a_cons (e_var 7) a_nil)))))) (a_cons (fs (e_tup (a_cons (fs (e_add (wk (e_var 5)) (wk e_int))) (a_cons (e_var 5) (a_cons (e_var 6) (a_cons (e_var 7) a_nil)))))) a_nil))))))))
 (ss_cons (s_set cn 3 (fs (e_add (wk (e_var 3)) (wk (e_list (a_cons (fs (e_tup (a_cons (e_var 4) (a_cons (e_var 5) (a_cons (e_var 6) (a_cons e_bl a_nil)))))) (a_cons (fs (e_tup (a_cons (fs (e_eq cn (wk (e_var 4)) (wk e_int))) (a_cons (e_var 5) (a_cons (e_var 6) (a_cons (e_var 7) a_nil)))))) (a_cons (fs (e_tup (a_cons (e_var 4) (a_cons (e_var 5) (a_cons (e_var 6) (a_cons (fs (e_sub (wk e_int) (wk (e_var 7)))) a_nil)))))) a_nil))))))))
 (ss_cons (s_set cn 3 (fs (e_add (wk (e_var 3)) (wk (e_list (a_cons (fs (e_listc B.list_ (wk (e_var 0)))) (a_cons (fs (e_slice (wk (e_var 0)) o_none (o_some (wk e_int)))) (a_cons (fs (e_add (wk (e_var 0)) (wk (e_tup (a_cons e_int a_nil))))) (a_cons e_non (a_cons (fs (e_tup (a_cons (e_var 4) (a_cons (e_var 5) (a_cons (e_var 6) (a_cons (fs (e_str1 cn B.str_ (wk (e_var 7)))) a_nil)))))) a_nil))))))))))
 (ss_cons (s_set cn 3 (fs (e_add (wk (e_var 3)) (wk (e_list (a_cons (fs (e_tup (a_cons e_non (a_cons (e_var 5) (a_cons (e_var 6) (a_cons (e_var 7) a_nil)))))) (a_cons (fs (e_tup (a_cons (e_var 4) (a_cons (e_var 5) (a_cons (e_var 6) (a_cons e_int a_nil)))))) (a_cons (fs (e_tup (a_cons (fs (e_list (a_cons (e_var 4) a_nil))) (a_cons (e_var 5) (a_cons (e_var 6) (a_cons (e_var 7) a_nil)))))) a_nil))))))))
 (ss_cons (s_set cn 3 (fs (e_add (wk (e_var 3)) (wk (e_list (a_cons (fs (e_tup (a_cons (e_var 4) (a_cons (fs (e_list (a_cons (e_var 5) a_nil))) (a_cons (e_var 6) (a_cons (e_var 7) a_nil)))))) (a_cons (fs (e_tup (a_cons (e_var 4) (a_cons (e_var 5) (a_cons (fs e_dict0) (a_cons (e_var 7) a_nil)))))) (a_cons (fs (e_tup (a_cons (e_var 4) (a_cons (fs (e_eq cn (wk (e_var 5)) (wk e_int))) (a_cons (e_var 6) (a_cons (e_var 7) a_nil)))))) a_nil))))))))
 (ss_one (s_retS (e_ix (wk (e_var 3)) (wk (e_ix (wk (e_var 1)) (wk e_int))))))))))))))
abbrev st__law_bent : Stmt := top 46
theorem sc__law_bent : FnScope ["_law_plan", "_law_digits", "_law_at"] ["_law_plan", "_law_digits"] (defScope st__law_bent) := ⟨rfl, rfl, rfl, by decide +kernel, rfl, by decide +kernel, by decide +kernel⟩
theorem ok__law_bent {P : Program} {w : World} {K : PySem.W.Frag} {mg : Str → Option Value} {base : Heap} (B : Bi mg) (F : ∃ fd, FunD K "_law_bent" "_law_bent" (defArgs st__law_bent) (defBody st__law_bent) (defScope st__law_bent) [] [] (He.ga K "_law_bent") fd) (hm : mg "_law_bent" = some (.ref (He.ga K "_law_bent"))) (g__law_bent_batch : GF P w K mg base 1 "_law_bent_batch" 2 .s dn__law_bent_batch) : GF P w K mg base 2 "_law_bent" 2 .s dn__law_bent_7 := by
  refine gf_of F hm sc__law_bent (by intro z; cases z) (fun _ _ _ _ _ _ us hl => match us, hl with | [_, _], _ => rfl) fun cdv A outer s H E S0 cn => ?_
  show PSs _ _ (tS _ K S0 H _ b__law_bent_7)
  unfold b__law_bent_7
  exact (ss_cons (s_if (t_eq cn (wk (e_var 0)) (wk (e_list a_nil)))
 (ss_one (s_retS (e_ix (wk (e_list (a_cons (fs (e_list (a_cons (fs (e_tup (a_cons e_int (a_cons e_int (a_cons e_int (a_cons e_int a_nil)))))) a_nil))) (a_cons (fs (e_list (a_cons e_non a_nil))) (a_cons (fs (e_list (a_cons (fs (e_tup a_nil)) a_nil))) (a_cons (fs (e_tup a_nil)) (a_cons (fs (e_list (a_cons (fs (e_tup (a_cons e_int (a_cons e_int (a_cons e_int (a_cons e_int a_nil)))))) a_nil))) a_nil))))))) (wk (e_mod (wk (e_ix (wk (e_var 1)) (wk e_int))) (wk e_int))))))
 ss_nil)
 (ss_cons (s_set cn 2 (fs (e_mod (wk (e_ix (wk (e_var 1)) (wk e_int))) (wk (e_len B.len (wk (e_var 0)))))))
 (ss_cons (s_if (t_eq cn (wk (e_ix (wk (e_var 1)) (wk e_int))) (wk e_int))
 (ss_one (s_retS (fs (e_add (wk (e_slice (wk (e_var 0)) o_none (o_some (wk (e_var 2))))) (wk (e_slice (wk (e_var 0)) (o_some (wk (e_add (wk (e_var 2)) (wk e_int)))) o_none))))))
 ss_nil)
 (ss_cons (s_if (t_eq cn (wk (e_ix (wk (e_var 1)) (wk e_int))) (wk e_int))
 (ss_one (s_retS (fs (e_add (wk (e_slice (wk (e_var 0)) o_none (o_some (wk (e_add (wk (e_var 2)) (wk e_int)))))) (wk (e_slice (wk (e_var 0)) (o_some (wk (e_var 2))) o_none))))))
 ss_nil)
 (ss_cons (s_if (t_eq cn (wk (e_ix (wk (e_var 1)) (wk e_int))) (wk e_int))
 (ss_one (s_retS (fs (e_add (wk (e_slice (wk (e_var 0)) (o_some (wk (e_var 2))) o_none)) (wk (e_slice (wk (e_var 0)) o_none (o_some (wk (e_var 2)))))))))
 ss_nil)
 (ss_cons (s_if (t_eq cn (wk (e_ix (wk (e_var 1)) (wk e_int))) (wk e_int))
 (ss_one (s_retS (e_ix (wk (e_list (a_cons (fs (e_tuplec B.tuple_ (wk (e_var 0)))) (a_cons (fs (e_add (wk (e_var 0)) (wk (e_list (a_cons e_non a_nil))))) (a_cons (fs (e_rev (wk (e_var 0)))) (a_cons (fs (e_disp1 (fun _ => e_int) (fun _ => (e_var 0)))) a_nil)))))) (wk (e_mod (wk (e_ix (wk (e_var 1)) (wk e_int))) (wk e_int))))))
 ss_nil)
 (ss_cons (s_if (t_eq cn (wk (e_ix (wk (e_var 1)) (wk e_int))) (wk e_int))
 (ss_one (s_retS (fs (e_sortedN cn B.sorted_ (wk (e_add (wk (e_add (wk (e_slice (wk (e_var 0)) o_none (o_some (wk (e_var 2))))) (wk (e_list (a_cons (e_call cn (GF.mono g__law_bent_batch) (a_cons (e_ix (wk (e_var 0)) (wk (e_var 2))) (a_cons (fs (e_list (a_cons e_int (a_cons (fs (e_mod (wk (e_ix (wk (e_var 1)) (wk e_int))) (wk e_int))) (a_cons (e_ix (wk (e_var 1)) (wk e_int)) a_nil))))) a_nil)) (n_cons (n_cons n_nil))) a_nil))))) (wk (e_slice (wk (e_var 0)) (o_some (wk (e_add (wk (e_var 2)) (wk e_int)))) o_none))))))))
 ss_nil)
 (ss_cons (s_if (PW.pt (tw_and (t_eq cn (wk (e_ix (wk (e_var 1)) (wk e_int))) (wk e_int)) (pw_and1 (t_gt (wk (e_ix (wk (e_ix (wk (e_var 0)) (wk (e_var 2)))) (wk e_int))) (wk e_int)))))
 (ss_one (s_retS (fs (e_add (wk (e_add (wk (e_slice (wk (e_var 0)) o_none (o_some (wk (e_var 2))))) (wk (e_list (a_cons (fs (e_add (wk (e_slice (wk (e_ix (wk (e_var 0)) (wk (e_var 2)))) o_none (o_some (wk e_int)))) (wk (e_tup (a_cons e_int a_nil))))) (a_cons (fs (e_add (wk (e_slice (wk (e_ix (wk (e_var 0)) (wk (e_var 2)))) o_none (o_some (wk e_int)))) (wk (e_tup (a_cons (fs (e_sub (wk (e_ix (wk (e_ix (wk (e_var 0)) (wk (e_var 2)))) (wk e_int))) (wk e_int))) a_nil))))) a_nil)))))) (wk (e_slice (wk (e_var 0)) (o_some (wk (e_add (wk (e_var 2)) (wk e_int)))) o_none))))))
 ss_nil)
 (ss_one (s_retS (fs (e_add (wk (e_add (wk (e_slice (wk (e_var 0)) o_none (o_some (wk (e_var 2))))) (wk (e_list (a_cons (e_call cn (GF.mono g__law_bent_batch) (a_cons (e_ix (wk (e_var 0)) (wk (e_var 2))) (a_cons (e_var 1) a_nil)) (n_cons (n_cons n_nil))) a_nil))))) (wk (e_slice (wk (e_var 0)) (o_some (wk (e_add (wk (e_var 2)) (wk e_int)))) o_none))))))))))))))
abbrev st__law_right : Stmt := top 47
theorem sc__law_right : FnScope ["_law_bakery_here", "_law_doughs_here", "_law_thing", "_law_kept", "_law_found"] ["_law_bakery_here", "_law_doughs_here", "_law_thing"] (defScope st__law_right) := ⟨rfl, rfl, rfl, by decide +kernel, rfl, by decide +kernel, by decide +kernel⟩
theorem ok__law_right {P : Program} {w : World} {K : PySem.W.Frag} {mg : Str → Option Value} {base : Heap} (B : Bi mg) (sk : SysK K) (F : ∃ fd, FunD K "_law_right" "_law_right" (defArgs st__law_right) (defBody st__law_right) (defScope st__law_right) [] [] (He.ga K "_law_right") fd) (hm : mg "_law_right" = some (.ref (He.ga K "_law_right"))) (g__law_fits : GF P w K mg base 3 "_law_fits" 2 .s dn__law_fits_2) (g_fits_doughs : GF P w K mg base 10 "fits_doughs" 3 .s dn_fits_doughs) : GF P w K mg base 11 "_law_right" 3 .f dn__law_right_14 := by
  refine gf_of F hm sc__law_right (by intro z; cases z) (fun _ _ _ _ _ _ us hl => match us, hl with | [_, _, _], _ => rfl) fun cdv A outer s H E S0 cn => ?_
  show PSs _ _ (tS _ K S0 H _ b__law_right_14)
  unfold b__law_right_14
  exact (ss_cons (s_set cn 3 (fs (e_repr cn sk B.repr_ (wk (e_list (a_cons (e_var 0) (a_cons (e_var 1) (a_cons (e_var 2) a_nil))))))))
 (ss_cons (s_set cn 4 (e_call cn (GF.mono g_fits_doughs) (a_cons (e_var 0) (a_cons (e_var 1) (a_cons (e_var 2) a_nil))) (n_cons (n_cons (n_cons n_nil)))))
 (ss_one (s_retF (e_andV (wk (e_isi B.isinstance B.bool_ (by decide +kernel) (by decide) (wk (e_var 4)))) (e_andV (wk (e_eq cn (wk (e_var 4)) (wk (e_call cn (GF.mono g__law_fits) (a_cons (e_var 0) (a_cons (e_var 2) a_nil)) (n_cons (n_cons n_nil)))))) (e_one (e_eq cn (wk (e_repr cn sk B.repr_ (wk (e_list (a_cons (e_var 0) (a_cons (e_var 1) (a_cons (e_var 2) a_nil))))))) (wk (e_var 3))))))))))
abbrev st_law : Stmt := top 48
theorem sc_law : FnScope ["_law_script", "_law_far", "_law_bakery_here", "_law_doughs_here", "_law_plan", "_law_thing", "_law_k", "_law_cell", "_law_digits"] ["_law_script"] (defScope st_law) := ⟨rfl, rfl, rfl, by decide +kernel, rfl, by decide +kernel, by decide +kernel⟩
theorem ok_law {P : Program} {w : World} {K : PySem.W.Frag} {mg : Str → Option Value} {base : Heap} {fd : FuncData} (B : Bi mg) (F : FunD K "law" "law" (defArgs st_law) (defBody st_law) (defScope st_law) [] [] (He.ga K "law") fd) (g_fits_doughs : GF P w K mg base 10 "fits_doughs" 3 .s dn_fits_doughs) (g__law_right : GF P w K mg base 11 "_law_right" 3 .f dn__law_right_14) (g__law_bent : GF P w K mg base 2 "_law_bent" 2 .s dn__law_bent_7) (g__law_numbers : GF P w K mg base 1 "_law_numbers" 3 .f dn__law_numbers) (g__law_batches : GF P w K mg base 2 "_law_batches" 3 .f dn__law_batches) (g__law_doughs : GF P w K mg base 2 "_law_doughs" 3 .f dn__law_doughs) (g__law_bakery : GF P w K mg base 2 "_law_bakery" 3 .f dn__law_bakery_2) (g__law_cell_at : GF P w K mg base 1 "_law_cell_at" 2 .s dn__law_cell_at) : FnG P w K mg base 12 (He.ga K "law") fd ["_law_script"] (spD K 1 .s dn_law_k61) := by
  refine fn_G F sc_law (by intro z; cases z) fun cdv A outer s H E S0 cn => ?_
  show PSs _ _ (tS _ K S0 H _ b_law_k61)
  unfold b_law_k61 b_law_k61_p2 b_law_k61_p1
  exact (ss_cons (s_set cn 1 (fs (e_eq cn (wk (e_ix (wk (e_call cn (GF.mono g__law_numbers) (a_cons (e_call cn (GF.mono g__law_cell_at) (a_cons (e_var 0) (a_cons e_int a_nil)) (n_cons (n_cons n_nil))) (a_cons e_int (a_cons (fs (e_list (a_cons e_int a_nil))) a_nil))) (n_cons (n_cons (n_cons n_nil))))) (wk e_int))) (wk e_int))))
 (ss_cons (s_set cn 2 (fs (e_call cn (GF.mono g__law_bakery) (a_cons (e_var 0) (a_cons (e_ix (wk (e_list (a_cons e_int (a_cons e_int a_nil)))) (wk (e_int1 B.int_ (wk (e_var 1))))) (a_cons e_int a_nil))) (n_cons (n_cons (n_cons n_nil))))))
 (ss_cons (s_set cn 3 (fs (e_call cn (GF.mono g__law_doughs) (a_cons (e_var 0) (a_cons (fs (e_len B.len (wk (e_ix (wk (e_var 2)) (wk e_int))))) (a_cons e_int a_nil))) (n_cons (n_cons (n_cons n_nil))))))
 (ss_cons (s_set cn 4 (fs (e_call cn (GF.mono g__law_batches) (a_cons (e_var 0) (a_cons e_int (a_cons (e_ix (wk (e_ix (wk (e_var 2)) (wk e_int))) (wk e_int)) a_nil))) (n_cons (n_cons (n_cons n_nil))))))
 (ss_cons (s_if (PW.pt (tw_or (t_notB (wk (e_call cn (GF.mono g_fits_doughs) (a_cons (e_var 2) (a_cons (e_var 3) (a_cons (e_var 4) a_nil))) (n_cons (n_cons (n_cons n_nil))))) (wk e_bl)) (pw_or1 (t_not (tst_of (e_call cn (GF.mono g__law_right) (a_cons (e_var 2) (a_cons (e_var 3) (a_cons (e_var 4) a_nil))) (n_cons (n_cons (n_cons n_nil)))))))))
 (ss_one (s_retS e_bl))
 ss_nil)
 (ss_cons (wp0 [6, 7, 8] (s_for (vs := [6, 7]) cn (i_enum B.enumerate (by intro z; cases z) (fs (e_add (wk (e_list (a_cons e_int a_nil))) (wk (e_slice (wk (e_var 0)) (o_some (wk e_int)) (o_some (wk e_int))))))) (g_tp cn.calm (g_cons (g_nm cn.nd 6) (g_cons (g_nm cn.nd 7) g_nil)))
 (wpe [6, 7, 8] (ss_cons (s_set cn 8 (fs (e_call cn (GF.mono g__law_numbers) (a_cons (e_var 7) (a_cons (fs (e_add (wk e_int) (wk (e_var 6)))) (a_cons (fs (e_list (a_cons e_int (a_cons e_int (a_cons (fs (e_pow (wk e_int) (wk e_int))) (a_cons e_int a_nil)))))) a_nil))) (n_cons (n_cons (n_cons n_nil))))))
 (ss_one (s_if (t_not (tst_of (e_call cn (GF.mono g__law_right) (a_cons (e_var 2) (a_cons (e_var 3) (a_cons (e_call cn (GF.mono g__law_bent) (a_cons (e_var 4) (a_cons (e_var 8) a_nil)) (n_cons (n_cons n_nil))) a_nil))) (n_cons (n_cons (n_cons n_nil))))))
 (ss_one (s_retS e_bl))
 ss_nil))))))
 (ss_cons (wp0 [5] (s_for (vs := [5]) cn (i_seq (by intro z; cases z) (fs (e_list (a_cons e_non (a_cons e_int (a_cons e_str (a_cons (fs (e_tup a_nil)) (a_cons (fs e_dict0) (a_cons e_bl (a_cons (fs (e_list (a_cons (fs (e_list a_nil)) a_nil))) (a_cons (fs (e_list (a_cons (fs (e_tup (a_cons e_str (a_cons e_int (a_cons e_int (a_cons e_int a_nil)))))) a_nil))) (a_cons (fs (e_list (a_cons (fs (e_tup (a_cons e_int (a_cons e_int (a_cons e_int a_nil))))) a_nil))) a_nil)))))))))))) (g_nm cn.nd 5)
 (wpe [5] (ss_one (s_if (t_not (tst_of (e_call cn (GF.mono g__law_right) (a_cons (e_var 2) (a_cons (e_var 3) (a_cons (e_var 5) a_nil))) (n_cons (n_cons (n_cons n_nil))))))
 (ss_one (s_retS e_bl))
 ss_nil)))))
 (ss_one (s_retS (fs (e_isB (wk (e_call cn (GF.mono g_fits_doughs) (a_cons (e_var 2) (a_cons (e_var 3) (a_cons (e_var 4) a_nil))) (n_cons (n_cons (n_cons n_nil))))) (wk e_bl))))))))))))
/-! the head -/
abbrev si_NoBakery : Stmt := DL.clsAt (top 2) 0
theorem sci_NoBakery : FnScope ["self", "good", "day"] ["self", "good", "day"] (defScope si_NoBakery) := ⟨rfl, rfl, rfl, by decide +kernel, rfl, by decide +kernel, by decide +kernel⟩
abbrev si_NoDoughs : Stmt := DL.clsAt (top 3) 0
theorem sci_NoDoughs : FnScope ["self", "day"] ["self", "day"] (defScope si_NoDoughs) := ⟨rfl, rfl, rfl, by decide +kernel, rfl, by decide +kernel, by decide +kernel⟩
def dd0 : List He.DefD := [⟨("is_whole", none), "is_whole", "is_whole", defArgs st_is_whole, defBody st_is_whole, defScope st_is_whole, [], []⟩,
  ⟨("is_within", none), "is_within", "is_within", defArgs st_is_within, defBody st_is_within, defScope st_is_within, [], []⟩,
  ⟨("is_number", none), "is_number", "is_number", defArgs st_is_number, defBody st_is_number, defScope st_is_number, [], []⟩,
  ⟨("is_day", none), "is_day", "is_day", defArgs st_is_day, defBody st_is_day, defScope st_is_day, [], []⟩,
  ⟨("are_lights", none), "are_lights", "are_lights", defArgs st_are_lights, defBody st_are_lights, defScope st_are_lights, [], []⟩,
  ⟨("is_frame", none), "is_frame", "is_frame", defArgs st_is_frame, defBody st_is_frame, defScope st_is_frame, [], []⟩,
  ⟨("look_at_good", none), "look_at_good", "look_at_good", defArgs st_look_at_good, defBody st_look_at_good, defScope st_look_at_good, [], []⟩,
  ⟨("look_at_bakery", none), "look_at_bakery", "look_at_bakery", defArgs st_look_at_bakery, defBody st_look_at_bakery, defScope st_look_at_bakery, [], []⟩,
  ⟨("is_plain_one", none), "is_plain_one", "is_plain_one", defArgs st_is_plain_one, defBody st_is_plain_one, defScope st_is_plain_one, [], []⟩,
  ⟨("is_plain", none), "is_plain", "is_plain", defArgs st_is_plain, defBody st_is_plain, defScope st_is_plain, [], []⟩,
  ⟨("look_at_plain", none), "look_at_plain", "look_at_plain", defArgs st_look_at_plain, defBody st_look_at_plain, defScope st_look_at_plain, [], []⟩,
  ⟨("nights_ahead", none), "nights_ahead", "nights_ahead", defArgs st_nights_ahead, defBody st_nights_ahead, defScope st_nights_ahead, [], []⟩,
  ⟨("nights_behind", none), "nights_behind", "nights_behind", defArgs st_nights_behind, defBody st_nights_behind, defScope st_nights_behind, [], []⟩,
  ⟨("price_of", none), "price_of", "price_of", defArgs st_price_of, defBody st_price_of, defScope st_price_of, [], []⟩,
  ⟨("is_dough_day", none), "is_dough_day", "is_dough_day", defArgs st_is_dough_day, defBody st_is_dough_day, defScope st_is_dough_day, [], []⟩,
  ⟨("look_at_dough_list", none), "look_at_dough_list", "look_at_dough_list", defArgs st_look_at_dough_list, defBody st_look_at_dough_list, defScope st_look_at_dough_list, [], []⟩,
  ⟨("look_at_doughs", none), "look_at_doughs", "look_at_doughs", defArgs st_look_at_doughs, defBody st_look_at_doughs, defScope st_look_at_doughs, [], []⟩,
  ⟨("is_batch", none), "is_batch", "is_batch", defArgs st_is_batch, defBody st_is_batch, defScope st_is_batch, [], []⟩,
  ⟨("are_batches", none), "are_batches", "are_batches", defArgs st_are_batches, defBody st_are_batches, defScope st_are_batches, [], []⟩,
  ⟨("fits_doughs", none), "fits_doughs", "fits_doughs", defArgs st_fits_doughs, defBody st_fits_doughs, defScope st_fits_doughs, [], []⟩,
  ⟨("_law_cell_at", none), "_law_cell_at", "_law_cell_at", defArgs st__law_cell_at, defBody st__law_cell_at, defScope st__law_cell_at, [], []⟩,
  ⟨("_law_numbers", none), "_law_numbers", "_law_numbers", defArgs st__law_numbers, defBody st__law_numbers, defScope st__law_numbers, [], []⟩,
  ⟨("_law_whole", none), "_law_whole", "_law_whole", defArgs st__law_whole, defBody st__law_whole, defScope st__law_whole, [], []⟩,
  ⟨("_law_day", none), "_law_day", "_law_day", defArgs st__law_day, defBody st__law_day, defScope st__law_day, [], []⟩]
def dd1 : List He.DefD := [⟨("_law_bakery", none), "_law_bakery", "_law_bakery", defArgs st__law_bakery, defBody st__law_bakery, defScope st__law_bakery, [], []⟩,
  ⟨("_law_price", none), "_law_price", "_law_price", defArgs st__law_price, defBody st__law_price, defScope st__law_price, [], []⟩,
  ⟨("_law_later", none), "_law_later", "_law_later", defArgs st__law_later, defBody st__law_later, defScope st__law_later, [], []⟩,
  ⟨("_law_doughs", none), "_law_doughs", "_law_doughs", defArgs st__law_doughs, defBody st__law_doughs, defScope st__law_doughs, [], []⟩,
  ⟨("_law_batches", none), "_law_batches", "_law_batches", defArgs st__law_batches, defBody st__law_batches, defScope st__law_batches, [], []⟩,
  ⟨("_law_is_batch", none), "_law_is_batch", "_law_is_batch", defArgs st__law_is_batch, defBody st__law_is_batch, defScope st__law_is_batch, [], []⟩,
  ⟨("_law_fits", none), "_law_fits", "_law_fits", defArgs st__law_fits, defBody st__law_fits, defScope st__law_fits, [], []⟩,
  ⟨("_law_bent_batch", none), "_law_bent_batch", "_law_bent_batch", defArgs st__law_bent_batch, defBody st__law_bent_batch, defScope st__law_bent_batch, [], []⟩,
  ⟨("_law_bent", none), "_law_bent", "_law_bent", defArgs st__law_bent, defBody st__law_bent, defScope st__law_bent, [], []⟩,
  ⟨("_law_right", none), "_law_right", "_law_right", defArgs st__law_right, defBody st__law_right, defScope st__law_right, [], []⟩,
  ⟨("law", none), "law", "law", defArgs st_law, defBody st_law, defScope st_law, [], []⟩,
  ⟨("NoBakery", some "__init__"), "__init__", "NoBakery.__init__", defArgs si_NoBakery, defBody si_NoBakery, defScope si_NoBakery, [], []⟩,
  ⟨("NoDoughs", some "__init__"), "__init__", "NoDoughs.__init__", defArgs si_NoDoughs, defBody si_NoDoughs, defScope si_NoDoughs, [], []⟩]
def exB (K : PySem.W.Frag) : Bool := DL.sysB K && (DL.xfK K ["BakeError", "NoBakery", "NoDoughs", "NotPlain"] && (DL.noB K "NotPlain" && (DL.inB K "NoBakery" ["good", "day"] && (DL.inB K "NoDoughs" ["day"] && (DL.beB K)))))
def dd : List He.DefD := dd0 ++ dd1
def fa0 : List He.Fa := [.glo "is_whole",
  .glo "is_within",
  .glo "is_number",
  .glo "is_day",
  .glo "are_lights",
  .glo "is_frame",
  .glo "look_at_good",
  .glo "look_at_bakery",
  .glo "is_plain_one",
  .glo "is_plain",
  .glo "look_at_plain",
  .glo "nights_ahead",
  .glo "nights_behind",
  .glo "price_of",
  .glo "is_dough_day",
  .glo "look_at_dough_list",
  .glo "look_at_doughs",
  .glo "is_batch",
  .glo "are_batches",
  .glo "fits_doughs",
  .glo "_law_cell_at",
  .glo "_law_numbers",
  .glo "_law_whole",
  .glo "_law_day"]
def fa1 : List He.Fa := [.glo "_law_bakery",
  .glo "_law_price",
  .glo "_law_later",
  .glo "_law_doughs",
  .glo "_law_batches",
  .glo "_law_is_batch",
  .glo "_law_fits",
  .glo "_law_bent_batch",
  .glo "_law_bent",
  .glo "_law_right",
  .glo "law",
  .int "MOST" 1000000000,
  .int "MOST_DAYS" 40,
  .int "MOST_GOODS" 2,
  .int "MOST_LIFE" 40,
  .free "len",
  .free "isinstance",
  .free "range",
  .free "zip",
  .free "enumerate",
  .free "int",
  .free "bool",
  .free "str",
  .free "list"]
def fa2 : List He.Fa := [.free "tuple",
  .free "dict",
  .free "max",
  .free "min",
  .free "all",
  .free "any",
  .free "sum",
  .free "abs",
  .free "repr",
  .free "sorted",
  .free "set"]
def fa : List He.Fa := fa0 ++ fa1 ++ fa2
def loose0 : List PySem.Str := ["BakeError",
  "NoBakery",
  "NoDoughs",
  "NotPlain",
  "MOST",
  "is_whole",
  "is_within",
  "is_number",
  "MOST_DAYS",
  "MOST_LIFE",
  "MOST_GOODS",
  "is_day",
  "are_lights",
  "is_frame",
  "look_at_good",
  "look_at_bakery",
  "is_plain_one",
  "is_plain",
  "look_at_plain",
  "nights_ahead",
  "nights_behind",
  "price_of",
  "is_dough_day",
  "look_at_dough_list"]
def loose1 : List PySem.Str := ["look_at_doughs",
  "is_batch",
  "are_batches",
  "fits_doughs",
  "_law_cell_at",
  "_law_numbers",
  "_law_whole",
  "_law_day",
  "_law_bakery",
  "_law_price",
  "_law_doughs",
  "_law_later",
  "_law_batches",
  "_law_is_batch",
  "_law_fits",
  "_law_bent_batch",
  "_law_bent",
  "_law_right"]
def loose : List PySem.Str := loose0 ++ loose1
abbrev Rw : PySem.W.OpenRow := PySem.W.OpenLaw.row PySem.Challenge.rw_bakeahead_k61_plans_with_doughs_that_fit
abbrev hk : PySem.W.Hook := DL.hookE 5 fa dd exB
def ob (s : PySem.W.SharedT) : He.AlD × Bool := DL.obsE 5 fa dd exB (HandSHeadRun.getT s)
theorem ob_eq (s : PySem.W.SharedT) : ob s = hk.obs s.abs := DL.obsE_eq (HandSHeadRun.getT_eq s)
theorem run (w : World) : HandSHeadRun.RunEq Rw (PySem.W.view Rw.prog [48]) hk ob 6000 loose w := by
  intro os
  kernel_rfl
theorem facts {P : Program} {w : World} {K : PySem.W.Frag} {h : Heap} {mg : Str → Option Value} {f : Addr} (X : K.In h) (G : h.Ns mainGlobals mg) (hfa : mg ("law" : Str) = some (.ref f)) (c : He.SaysD fa dd K) (hx : exB K = true) :
    ∃ fd : FuncData, (∀ (s : Shared) (v : Value), BindsTo s fd ⟨[v], []⟩ [("_law_script", v)]) ∧ ∀ base : Heap, K.In base → base.Ns mainGlobals mg → FnG P w K mg base 12 f fd ["_law_script"] (spD K 1 .s dn_law_k61) := by
  have B : Bi mg := ⟨He.free_ok X G (c.fact 39 (f := .free "len") rfl), He.free_ok X G (c.fact 40 (f := .free "isinstance") rfl), He.free_ok X G (c.fact 41 (f := .free "range") rfl), He.free_ok X G (c.fact 42 (f := .free "zip") rfl), He.free_ok X G (c.fact 43 (f := .free "enumerate") rfl), He.free_ok X G (c.fact 44 (f := .free "int") rfl), He.free_ok X G (c.fact 45 (f := .free "bool") rfl), He.free_ok X G (c.fact 46 (f := .free "str") rfl), He.free_ok X G (c.fact 47 (f := .free "list") rfl), He.free_ok X G (c.fact 48 (f := .free "tuple") rfl), He.free_ok X G (c.fact 49 (f := .free "dict") rfl), He.free_ok X G (c.fact 50 (f := .free "max") rfl), He.free_ok X G (c.fact 51 (f := .free "min") rfl), He.free_ok X G (c.fact 52 (f := .free "all") rfl), He.free_ok X G (c.fact 53 (f := .free "any") rfl), He.free_ok X G (c.fact 54 (f := .free "sum") rfl), He.free_ok X G (c.fact 55 (f := .free "abs") rfl), He.free_ok X G (c.fact 56 (f := .free "repr") rfl), He.free_ok X G (c.fact 57 (f := .free "sorted") rfl), He.free_ok X G (c.fact 58 (f := .free "set") rfl)⟩
  have h_MOST : ∃ t, mg "MOST" = some (.int 1000000000 t) := He.int_ok X G (c.fact 35 (f := .int "MOST" 1000000000) rfl)
  have h_MOST_DAYS : ∃ t, mg "MOST_DAYS" = some (.int 40 t) := He.int_ok X G (c.fact 36 (f := .int "MOST_DAYS" 40) rfl)
  have h_MOST_GOODS : ∃ t, mg "MOST_GOODS" = some (.int 2 t) := He.int_ok X G (c.fact 37 (f := .int "MOST_GOODS" 2) rfl)
  have h_MOST_LIFE : ∃ t, mg "MOST_LIFE" = some (.int 40 t) := He.int_ok X G (c.fact 38 (f := .int "MOST_LIFE" 40) rfl)
  obtain ⟨x0, x1, x2, x3, x4, x5⟩ : DL.sysB K = true ∧ DL.xfK K ["BakeError", "NoBakery", "NoDoughs", "NotPlain"] = true ∧ DL.noB K "NotPlain" = true ∧ DL.inB K "NoBakery" ["good", "day"] = true ∧ DL.inB K "NoDoughs" ["day"] = true ∧ DL.beB K = true := by
    have z := hx
    unfold exB at z
    simp only [Bool.and_eq_true] at z
    exact z
  have sk := DL.sysB_ok x0
  have xf := DL.xfK_ok X G x1
  have rx_NotPlain : RX0 K mg "NotPlain" := ⟨xf.g _ (.tail _ (.tail _ (.tail _ (.head _)))), x2, xf.cl _ (.tail _ (.tail _ (.tail _ (.head _))))⟩
  have be := DL.beB_ok x5
  have in_NoBakery := DL.inB_ok x3
  obtain ⟨fi_NoBakery, Fi_NoBakery⟩ := c.def_ 35 (d := ⟨("NoBakery", some "__init__"), "__init__", "NoBakery.__init__", defArgs si_NoBakery, defBody si_NoBakery, defScope si_NoBakery, [], []⟩) rfl
  have rx_NoBakery : ∀ base : Heap, RXF P w K mg base "NoBakery" ["good", "day"] := fun base => ⟨xf.g _ (.tail _ (.head _)), in_NoBakery, fi_NoBakery, _, Fi_NoBakery.bindsN (ps := ["self", "good", "day"]) (fun _ _ _ _ _ _ us hl => match us, hl with | [_, _, _], _ => rfl), DL.init2 in_NoBakery be (xf.g _ (.head _)) Fi_NoBakery sci_NoBakery rfl rfl rfl rfl (by decide) (by decide) (by decide) (by decide) (fun _ _ _ _ _ _ => ⟨_, rfl⟩)⟩
  have in_NoDoughs := DL.inB_ok x4
  obtain ⟨fi_NoDoughs, Fi_NoDoughs⟩ := c.def_ 36 (d := ⟨("NoDoughs", some "__init__"), "__init__", "NoDoughs.__init__", defArgs si_NoDoughs, defBody si_NoDoughs, defScope si_NoDoughs, [], []⟩) rfl
  have rx_NoDoughs : ∀ base : Heap, RXF P w K mg base "NoDoughs" ["day"] := fun base => ⟨xf.g _ (.tail _ (.tail _ (.head _))), in_NoDoughs, fi_NoDoughs, _, Fi_NoDoughs.bindsN (ps := ["self", "day"]) (fun _ _ _ _ _ _ us hl => match us, hl with | [_, _], _ => rfl), DL.init1 in_NoDoughs be (xf.g _ (.head _)) Fi_NoDoughs sci_NoDoughs rfl rfl rfl (by decide) (by decide) (fun _ _ _ _ _ _ => ⟨_, rfl⟩)⟩
  obtain ⟨fd, F⟩ := c.def_ 34 (d := ⟨("law", none), "law", "law", defArgs st_law, defBody st_law, defScope st_law, [], []⟩) rfl
  have e := hfa.symm.trans (He.glo_ok X G (c.fact 34 (f := .glo "law") rfl))
  cases e
  have b := FunD.bindsA (ps := ["_law_script"]) F fun _ _ _ _ _ _ us hl => match us, hl with | [_], _ => rfl
  refine ⟨fd, fun s v => b s [v] rfl, fun base _ _ => ?_⟩
  have rx_NoBakery := rx_NoBakery base
  have rx_NoDoughs := rx_NoDoughs base
  have g_is_whole := ok_is_whole (P := P) (w := w) (base := base) B (c.def_ 0 (d := ⟨("is_whole", none), "is_whole", "is_whole", defArgs st_is_whole, defBody st_is_whole, defScope st_is_whole, [], []⟩) rfl) (He.glo_ok X G (c.fact 0 (f := .glo "is_whole") rfl))
  have g_is_within := ok_is_within (P := P) (w := w) (base := base) B (c.def_ 1 (d := ⟨("is_within", none), "is_within", "is_within", defArgs st_is_within, defBody st_is_within, defScope st_is_within, [], []⟩) rfl) (He.glo_ok X G (c.fact 1 (f := .glo "is_within") rfl)) g_is_whole
  have g_is_number := ok_is_number (P := P) (w := w) (base := base) B h_MOST (c.def_ 2 (d := ⟨("is_number", none), "is_number", "is_number", defArgs st_is_number, defBody st_is_number, defScope st_is_number, [], []⟩) rfl) (He.glo_ok X G (c.fact 2 (f := .glo "is_number") rfl)) g_is_within
  have g_is_day := ok_is_day (P := P) (w := w) (base := base) B (c.def_ 3 (d := ⟨("is_day", none), "is_day", "is_day", defArgs st_is_day, defBody st_is_day, defScope st_is_day, [], []⟩) rfl) (He.glo_ok X G (c.fact 3 (f := .glo "is_day") rfl)) g_is_number
  have g_are_lights := ok_are_lights (P := P) (w := w) (base := base) B h_MOST_DAYS (c.def_ 4 (d := ⟨("are_lights", none), "are_lights", "are_lights", defArgs st_are_lights, defBody st_are_lights, defScope st_are_lights, [], []⟩) rfl) (He.glo_ok X G (c.fact 4 (f := .glo "are_lights") rfl)) g_is_number
  have g_is_frame := ok_is_frame (P := P) (w := w) (base := base) B h_MOST_GOODS h_MOST (c.def_ 5 (d := ⟨("is_frame", none), "is_frame", "is_frame", defArgs st_is_frame, defBody st_is_frame, defScope st_is_frame, [], []⟩) rfl) (He.glo_ok X G (c.fact 5 (f := .glo "is_frame") rfl)) g_is_within g_are_lights
  have g_look_at_good := ok_look_at_good (P := P) (w := w) (base := base) B h_MOST_LIFE rx_NoBakery (c.def_ 6 (d := ⟨("look_at_good", none), "look_at_good", "look_at_good", defArgs st_look_at_good, defBody st_look_at_good, defScope st_look_at_good, [], []⟩) rfl) (He.glo_ok X G (c.fact 6 (f := .glo "look_at_good") rfl)) g_is_day g_is_within
  have g_look_at_bakery := ok_look_at_bakery (P := P) (w := w) (base := base) B rx_NoBakery (c.def_ 7 (d := ⟨("look_at_bakery", none), "look_at_bakery", "look_at_bakery", defArgs st_look_at_bakery, defBody st_look_at_bakery, defScope st_look_at_bakery, [], []⟩) rfl) (He.glo_ok X G (c.fact 7 (f := .glo "look_at_bakery") rfl)) g_look_at_good g_is_frame
  have g_is_plain_one := ok_is_plain_one (P := P) (w := w) (base := base) B (c.def_ 8 (d := ⟨("is_plain_one", none), "is_plain_one", "is_plain_one", defArgs st_is_plain_one, defBody st_is_plain_one, defScope st_is_plain_one, [], []⟩) rfl) (He.glo_ok X G (c.fact 8 (f := .glo "is_plain_one") rfl))
  have g_is_plain := ok_is_plain (P := P) (w := w) (base := base) B (c.def_ 9 (d := ⟨("is_plain", none), "is_plain", "is_plain", defArgs st_is_plain, defBody st_is_plain, defScope st_is_plain, [], []⟩) rfl) (He.glo_ok X G (c.fact 9 (f := .glo "is_plain") rfl)) g_is_plain_one g_look_at_bakery
  have g_look_at_plain := ok_look_at_plain (P := P) (w := w) (base := base) B rx_NotPlain (c.def_ 10 (d := ⟨("look_at_plain", none), "look_at_plain", "look_at_plain", defArgs st_look_at_plain, defBody st_look_at_plain, defScope st_look_at_plain, [], []⟩) rfl) (He.glo_ok X G (c.fact 10 (f := .glo "look_at_plain") rfl)) g_is_plain
  have g_nights_ahead := ok_nights_ahead (P := P) (w := w) (base := base) B (c.def_ 11 (d := ⟨("nights_ahead", none), "nights_ahead", "nights_ahead", defArgs st_nights_ahead, defBody st_nights_ahead, defScope st_nights_ahead, [], []⟩) rfl) (He.glo_ok X G (c.fact 11 (f := .glo "nights_ahead") rfl))
  have g_nights_behind := ok_nights_behind (P := P) (w := w) (base := base) B (c.def_ 12 (d := ⟨("nights_behind", none), "nights_behind", "nights_behind", defArgs st_nights_behind, defBody st_nights_behind, defScope st_nights_behind, [], []⟩) rfl) (He.glo_ok X G (c.fact 12 (f := .glo "nights_behind") rfl))
  have g_price_of := ok_price_of (P := P) (w := w) (base := base) B (c.def_ 13 (d := ⟨("price_of", none), "price_of", "price_of", defArgs st_price_of, defBody st_price_of, defScope st_price_of, [], []⟩) rfl) (He.glo_ok X G (c.fact 13 (f := .glo "price_of") rfl)) g_nights_ahead g_nights_behind
  have g_is_dough_day := ok_is_dough_day (P := P) (w := w) (base := base) B (c.def_ 14 (d := ⟨("is_dough_day", none), "is_dough_day", "is_dough_day", defArgs st_is_dough_day, defBody st_is_dough_day, defScope st_is_dough_day, [], []⟩) rfl) (He.glo_ok X G (c.fact 14 (f := .glo "is_dough_day") rfl)) g_is_number
  have g_look_at_dough_list := ok_look_at_dough_list (P := P) (w := w) (base := base) B rx_NoDoughs (c.def_ 15 (d := ⟨("look_at_dough_list", none), "look_at_dough_list", "look_at_dough_list", defArgs st_look_at_dough_list, defBody st_look_at_dough_list, defScope st_look_at_dough_list, [], []⟩) rfl) (He.glo_ok X G (c.fact 15 (f := .glo "look_at_dough_list") rfl)) g_is_dough_day
  have g_look_at_doughs := ok_look_at_doughs (P := P) (w := w) (base := base) B (c.def_ 16 (d := ⟨("look_at_doughs", none), "look_at_doughs", "look_at_doughs", defArgs st_look_at_doughs, defBody st_look_at_doughs, defScope st_look_at_doughs, [], []⟩) rfl) (He.glo_ok X G (c.fact 16 (f := .glo "look_at_doughs") rfl)) g_look_at_dough_list g_look_at_plain
  have g_is_batch := ok_is_batch (P := P) (w := w) (base := base) B (c.def_ 17 (d := ⟨("is_batch", none), "is_batch", "is_batch", defArgs st_is_batch, defBody st_is_batch, defScope st_is_batch, [], []⟩) rfl) (He.glo_ok X G (c.fact 17 (f := .glo "is_batch") rfl)) g_is_within g_is_whole
  have g_are_batches := ok_are_batches (P := P) (w := w) (base := base) B (c.def_ 18 (d := ⟨("are_batches", none), "are_batches", "are_batches", defArgs st_are_batches, defBody st_are_batches, defScope st_are_batches, [], []⟩) rfl) (He.glo_ok X G (c.fact 18 (f := .glo "are_batches") rfl)) g_price_of g_is_batch
  have g_fits_doughs := ok_fits_doughs (P := P) (w := w) (base := base) B (c.def_ 19 (d := ⟨("fits_doughs", none), "fits_doughs", "fits_doughs", defArgs st_fits_doughs, defBody st_fits_doughs, defScope st_fits_doughs, [], []⟩) rfl) (He.glo_ok X G (c.fact 19 (f := .glo "fits_doughs") rfl)) g_are_batches g_look_at_doughs
  have g__law_cell_at := ok__law_cell_at (P := P) (w := w) (base := base) B (c.def_ 20 (d := ⟨("_law_cell_at", none), "_law_cell_at", "_law_cell_at", defArgs st__law_cell_at, defBody st__law_cell_at, defScope st__law_cell_at, [], []⟩) rfl) (He.glo_ok X G (c.fact 20 (f := .glo "_law_cell_at") rfl))
  have g__law_numbers := ok__law_numbers (P := P) (w := w) (base := base) B (c.def_ 21 (d := ⟨("_law_numbers", none), "_law_numbers", "_law_numbers", defArgs st__law_numbers, defBody st__law_numbers, defScope st__law_numbers, [], []⟩) rfl) (He.glo_ok X G (c.fact 21 (f := .glo "_law_numbers") rfl))
  have g__law_whole := ok__law_whole (P := P) (w := w) (base := base) B (c.def_ 22 (d := ⟨("_law_whole", none), "_law_whole", "_law_whole", defArgs st__law_whole, defBody st__law_whole, defScope st__law_whole, [], []⟩) rfl) (He.glo_ok X G (c.fact 22 (f := .glo "_law_whole") rfl))
  have g__law_day := ok__law_day (P := P) (w := w) (base := base) B (c.def_ 23 (d := ⟨("_law_day", none), "_law_day", "_law_day", defArgs st__law_day, defBody st__law_day, defScope st__law_day, [], []⟩) rfl) (He.glo_ok X G (c.fact 23 (f := .glo "_law_day") rfl))
  have g__law_bakery := ok__law_bakery (P := P) (w := w) (base := base) B (c.def_ 24 (d := ⟨("_law_bakery", none), "_law_bakery", "_law_bakery", defArgs st__law_bakery, defBody st__law_bakery, defScope st__law_bakery, [], []⟩) rfl) (He.glo_ok X G (c.fact 24 (f := .glo "_law_bakery") rfl)) g__law_day g__law_numbers g__law_cell_at
  have g__law_price := ok__law_price (P := P) (w := w) (base := base) B (c.def_ 25 (d := ⟨("_law_price", none), "_law_price", "_law_price", defArgs st__law_price, defBody st__law_price, defScope st__law_price, [], []⟩) rfl) (He.glo_ok X G (c.fact 25 (f := .glo "_law_price") rfl))
  have g__law_later := ok__law_later (P := P) (w := w) (base := base) B (c.def_ 26 (d := ⟨("_law_later", none), "_law_later", "_law_later", defArgs st__law_later, defBody st__law_later, defScope st__law_later, [], []⟩) rfl) (He.glo_ok X G (c.fact 26 (f := .glo "_law_later") rfl))
  have g__law_doughs := ok__law_doughs (P := P) (w := w) (base := base) B (c.def_ 27 (d := ⟨("_law_doughs", none), "_law_doughs", "_law_doughs", defArgs st__law_doughs, defBody st__law_doughs, defScope st__law_doughs, [], []⟩) rfl) (He.glo_ok X G (c.fact 27 (f := .glo "_law_doughs") rfl)) g__law_numbers g__law_later g__law_cell_at
  have g__law_batches := ok__law_batches (P := P) (w := w) (base := base) B (c.def_ 28 (d := ⟨("_law_batches", none), "_law_batches", "_law_batches", defArgs st__law_batches, defBody st__law_batches, defScope st__law_batches, [], []⟩) rfl) (He.glo_ok X G (c.fact 28 (f := .glo "_law_batches") rfl)) g__law_price g__law_numbers g__law_later g__law_cell_at
  have g__law_is_batch := ok__law_is_batch (P := P) (w := w) (base := base) B (c.def_ 29 (d := ⟨("_law_is_batch", none), "_law_is_batch", "_law_is_batch", defArgs st__law_is_batch, defBody st__law_is_batch, defScope st__law_is_batch, [], []⟩) rfl) (He.glo_ok X G (c.fact 29 (f := .glo "_law_is_batch") rfl)) g__law_price g__law_whole
  have g__law_fits := ok__law_fits (P := P) (w := w) (base := base) B (c.def_ 30 (d := ⟨("_law_fits", none), "_law_fits", "_law_fits", defArgs st__law_fits, defBody st__law_fits, defScope st__law_fits, [], []⟩) rfl) (He.glo_ok X G (c.fact 30 (f := .glo "_law_fits") rfl)) g__law_is_batch
  have g__law_bent_batch := ok__law_bent_batch (P := P) (w := w) (base := base) B (c.def_ 31 (d := ⟨("_law_bent_batch", none), "_law_bent_batch", "_law_bent_batch", defArgs st__law_bent_batch, defBody st__law_bent_batch, defScope st__law_bent_batch, [], []⟩) rfl) (He.glo_ok X G (c.fact 31 (f := .glo "_law_bent_batch") rfl))
  have g__law_bent := ok__law_bent (P := P) (w := w) (base := base) B (c.def_ 32 (d := ⟨("_law_bent", none), "_law_bent", "_law_bent", defArgs st__law_bent, defBody st__law_bent, defScope st__law_bent, [], []⟩) rfl) (He.glo_ok X G (c.fact 32 (f := .glo "_law_bent") rfl)) g__law_bent_batch
  have g__law_right := ok__law_right (P := P) (w := w) (base := base) B sk (c.def_ 33 (d := ⟨("_law_right", none), "_law_right", "_law_right", defArgs st__law_right, defBody st__law_right, defScope st__law_right, [], []⟩) rfl) (He.glo_ok X G (c.fact 33 (f := .glo "_law_right") rfl)) g__law_fits g_fits_doughs
  exact ok_law B F g_fits_doughs g__law_right g__law_bent g__law_numbers g__law_batches g__law_doughs g__law_bakery g__law_cell_at
end K61
open PySem PySem.W PySem.Calls PyProof.Rows
set_option maxRecDepth 100000 in
set_option maxHeartbeats 8000000 in
theorem PySem.Challenge.cw_bakeahead_k61_plans_with_doughs_that_fit_holds : PySem.Challenge.rw_bakeahead_k61_plans_with_doughs_that_fit.Holds := by
  w_on; o_law
  refine HandSHeadRun.head_any (r := OpenLaw.row PySem.Challenge.rw_bakeahead_k61_plans_with_doughs_that_fit) (q := view (OpenLaw.row PySem.Challenge.rw_bakeahead_k61_plans_with_doughs_that_fit).prog [48]) (H := K61.hk) (ob := K61.ob) (M := 6000) (loose := K61.loose) (d := HandSHeadRun.topDef (OpenLaw.row PySem.Challenge.rw_bakeahead_k61_plans_with_doughs_that_fit).prog 48) (kwd := []) K61.ob_eq
    (by kernel_rfl) (fun s => by kernel_rfl) K61.run (by kernel_rfl) (by kernel_rfl) (by kernel_rfl) (by rfl) (by first | assumption | decide +kernel) (by decide +kernel) ⟨rfl, rfl, rfl, rfl, rfl, by decide +kernel⟩ ?hw ?hc
  case hw => w_witness2
  case hc =>
    refine DL.walk_G (l := PySem.Challenge.rw_bakeahead_k61_plans_with_doughs_that_fit) (n := 63) (k := 12) (x := "_law_script") rfl (by decide) (by kernel_rfl) ⟨rfl, by decide, by decide⟩ ?F
    intro w mg fa h Y G hmg0
    obtain ⟨K, KX, c, hx⟩ := Y
    have hmg : mg ("law" : PySem.Str) = some (.ref fa) := by
      have e : (HandSHeadRun.topDef (OpenLaw.row PySem.Challenge.rw_bakeahead_k61_plans_with_doughs_that_fit).prog 48).name = ("law" : PySem.Str) := by kernel_rfl
      rw [← e]
      exact hmg0
    obtain ⟨fd, hb, hF⟩ := K61.facts (P := (PySem.Challenge.rw_bakeahead_k61_plans_with_doughs_that_fit).prog) (w := w) KX G hmg c hx
    exact ⟨K, fd, .s, K61.dn_law_k61, KX, hb, fun ns hl => K61.law_true ns hl, hF⟩
